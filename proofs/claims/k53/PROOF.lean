import PyProof.Rows.All
import Wide.All
import OpenK.AllK
import Wide.FinOn
import HandS.ForMost
import HandS.Flow
import HandS.TupAny
import HandS.TupMul
import HandS.Zip
import HandS.Wide
import HandS.IsInst
import HandS.Star
import HandS.NoneIn
import HandS.Conv
import KE.GoesEnum
import KE.KTupSum
import PyProof.ReprLen
import PyProof.P3Eq
import HandS.Style
import HandS.Exc
import KE.GoesZip
import KE.GoesMore
import PySem.Challenge.RW_uporders_k53_whole_straight_chains
set_option Elab.async false
set_option linter.all false
set_option autoImplicit false
set_option maxRecDepth 100000
set_option maxHeartbeats 4000000
/-! A second layer over the hand layer: values as data (tuples are values), the mutable objects in a memory. -/
namespace Y
open PySem PySem.Spec PyProof.Rows L2

/-! ### data -/
inductive D where
  | non | bl (b : Bool) | int (i : Int) | str (x : Str) | tup (ds : List D) | obj (a : Addr) | ty (n : String)
  /-- a list that nobody can change (the script) -/
  | ro (ds : List D)
/-- a list that stands still -/
def SqF (K : PySem.W.Frag) (H : Hp) (a : Addr) (xs : List V) : Prop :=
  (∃ o, H a = some (.frz o (.lst xs))) ∨ ∃ (o : Obj) (its : Array Value) (n : Nat), K.lookup a = some o ∧ o.cls = .type "list" ∧ o.dict = none ∧ o.data = .seq its n ∧ its.size ≤ sizeLine ∧ Vals xs its.toList
theorem SqF.l {K : PySem.W.Frag} {H : Hp} {a : Addr} {xs : List V} (h : SqF K H a xs) : SqL K H a xs := h.elim (fun h => .inl (.inr h)) .inr

mutual
def Den (K : PySem.W.Frag) (H : Hp) : D → V → Prop
  | .non, v => v = V.non
  | .bl b, v => v = V.bl b
  | .int i, v => v = V.int i
  | .str x, v => v = V.str x
  | .ty n, v => v = V.ty n
  | .obj a, v => v = V.ref a
  | .tup ds, v => ∃ a xs, v = V.ref a ∧ SqT K H a xs ∧ DenL K H ds xs
  | .ro ds, v => ∃ a xs, v = V.ref a ∧ SqF K H a xs ∧ DenL K H ds xs
def DenL (K : PySem.W.Frag) (H : Hp) : List D → List V → Prop
  | [], vs => vs = []
  | d :: ds, vs => ∃ v r, vs = v :: r ∧ Den K H d v ∧ DenL K H ds r
end

/-- tuples stand -/
structure TK (K : PySem.W.Frag) (H H' : Hp) : Prop where
  t : ∀ a xs, SqT K H a xs → SqT K H' a xs
  f : ∀ a xs, SqF K H a xs → SqF K H' a xs
theorem TK.refl {K : PySem.W.Frag} (H : Hp) : TK K H H := ⟨fun _ _ h => h, fun _ _ h => h⟩
theorem TK.trans {K : PySem.W.Frag} {H H1 H2 : Hp} (a : TK K H H1) (b : TK K H1 H2) : TK K H H2 := ⟨fun c xs h => b.t c xs (a.t c xs h), fun c xs h => b.f c xs (a.f c xs h)⟩

mutual
theorem Den.mono {K : PySem.W.Frag} {H H' : Hp} (t : TK K H H') : ∀ {d : D} {v : V}, Den K H d v → Den K H' d v
  | .non, _, h => by unfold Den at h ⊢; exact h
  | .bl _, _, h => by unfold Den at h ⊢; exact h
  | .int _, _, h => by unfold Den at h ⊢; exact h
  | .str _, _, h => by unfold Den at h ⊢; exact h
  | .ty _, _, h => by unfold Den at h ⊢; exact h
  | .obj _, _, h => by unfold Den at h ⊢; exact h
  | .tup ds, _, h => by
    unfold Den at h ⊢
    obtain ⟨a, xs, e, s, l⟩ := h
    exact ⟨a, xs, e, t.t a xs s, DenL.mono t l⟩
  | .ro ds, _, h => by
    unfold Den at h ⊢
    obtain ⟨a, xs, e, s, l⟩ := h
    exact ⟨a, xs, e, t.f a xs s, DenL.mono t l⟩
theorem DenL.mono {K : PySem.W.Frag} {H H' : Hp} (t : TK K H H') : ∀ {ds : List D} {vs : List V}, DenL K H ds vs → DenL K H' ds vs
  | [], _, h => by unfold DenL at h ⊢; exact h
  | d :: ds, _, h => by
    rw [DenL] at h ⊢
    obtain ⟨v, r, e, a, b⟩ := h
    exact ⟨v, r, e, Den.mono t a, DenL.mono t b⟩
end
section
variable {K : PySem.W.Frag} {H : Hp}
theorem den_non {v : V} : Den K H .non v ↔ v = .non := by unfold Den; exact Iff.rfl
theorem den_bl {b : Bool} {v : V} : Den K H (.bl b) v ↔ v = .bl b := by unfold Den; exact Iff.rfl
theorem den_int {i : Int} {v : V} : Den K H (.int i) v ↔ v = .int i := by unfold Den; exact Iff.rfl
theorem den_str {x : Str} {v : V} : Den K H (.str x) v ↔ v = .str x := by unfold Den; exact Iff.rfl
theorem den_ty {n : String} {v : V} : Den K H (.ty n) v ↔ v = .ty n := by unfold Den; exact Iff.rfl
theorem den_obj {a : Addr} {v : V} : Den K H (.obj a) v ↔ v = .ref a := by unfold Den; exact Iff.rfl
theorem den_tup {ds : List D} {v : V} : Den K H (.tup ds) v ↔ ∃ a xs, v = V.ref a ∧ SqT K H a xs ∧ DenL K H ds xs := by constructor <;> (intro h; unfold Den at *; exact h)
theorem den_ro {ds : List D} {v : V} : Den K H (.ro ds) v ↔ ∃ a xs, v = V.ref a ∧ SqF K H a xs ∧ DenL K H ds xs := by constructor <;> (intro h; unfold Den at *; exact h)
theorem denL_nil {vs : List V} : DenL K H [] vs ↔ vs = [] := by unfold DenL; exact Iff.rfl
theorem denL_cons {d : D} {ds : List D} {vs : List V} : DenL K H (d :: ds) vs ↔ ∃ v r, vs = v :: r ∧ Den K H d v ∧ DenL K H ds r := by rw [DenL]
theorem DenL.nil : DenL K H [] [] := denL_nil.mpr rfl
theorem DenL.cons {d : D} {v : V} {ds : List D} {vs : List V} (a : Den K H d v) (b : DenL K H ds vs) : DenL K H (d :: ds) (v :: vs) := denL_cons.mpr ⟨v, vs, rfl, a, b⟩
theorem DenL.length : ∀ {ds : List D} {vs : List V}, DenL K H ds vs → vs.length = ds.length
  | [], vs, h => by rw [denL_nil.mp h] <;> rfl
  | d :: ds, vs, h => by
    obtain ⟨v, r, rfl, _, b⟩ := denL_cons.mp h
    simp [DenL.length b]
theorem DenL.append : ∀ {ds es : List D} {vs ws : List V}, DenL K H ds vs → DenL K H es ws → DenL K H (ds ++ es) (vs ++ ws)
  | [], _, vs, _, h, g => by rw [denL_nil.mp h]; exact g
  | d :: ds, _, vs, _, h, g => by
    obtain ⟨v, r, rfl, a, b⟩ := denL_cons.mp h
    exact DenL.cons a (DenL.append b g)
theorem DenL.get : ∀ {ds : List D} {vs : List V} {i : Nat} {v : V}, DenL K H ds vs → vs[i]? = some v → ∃ d, ds[i]? = some d ∧ Den K H d v
  | [], vs, i, v, h, e => by rw [denL_nil.mp h] at e; simp at e
  | d :: ds, vs, i, v, h, e => by
    obtain ⟨w, r, rfl, a, b⟩ := denL_cons.mp h
    cases i with
    | zero => simp at e; subst e; exact ⟨d, rfl, a⟩
    | succ i => simp at e; simpa using DenL.get b e
theorem DenL.get' : ∀ {ds : List D} {vs : List V} {i : Nat} {d : D}, DenL K H ds vs → ds[i]? = some d → ∃ v, vs[i]? = some v ∧ Den K H d v
  | [], vs, i, d, h, e => by simp at e
  | d' :: ds, vs, i, d, h, e => by
    obtain ⟨w, r, rfl, a, b⟩ := denL_cons.mp h
    cases i with
    | zero => simp at e; subst e; exact ⟨w, rfl, a⟩
    | succ i => simp at e; simpa using DenL.get' b e
theorem DenL.set {d : D} {v : V} (a : Den K H d v) : ∀ {ds : List D} {vs : List V} (i : Nat), DenL K H ds vs → DenL K H (ds.set i d) (vs.set i v)
  | [], vs, i, h => by rw [denL_nil.mp h]; exact DenL.nil
  | d' :: ds, vs, i, h => by
    obtain ⟨w, r, rfl, a', b⟩ := denL_cons.mp h
    cases i with
    | zero => exact DenL.cons a b
    | succ i => exact DenL.cons a' (DenL.set a i b)
theorem DenL.drop : ∀ {ds : List D} {vs : List V} (n : Nat), DenL K H ds vs → DenL K H (ds.drop n) (vs.drop n)
  | ds, vs, 0, h => h
  | [], vs, n + 1, h => by rw [denL_nil.mp h]; exact DenL.nil
  | d :: ds, vs, n + 1, h => by
    obtain ⟨w, r, rfl, a', b⟩ := denL_cons.mp h
    exact DenL.drop n b
theorem DenL.take : ∀ {ds : List D} {vs : List V} (n : Nat), DenL K H ds vs → DenL K H (ds.take n) (vs.take n)
  | ds, vs, 0, h => DenL.nil
  | [], vs, n + 1, h => by rw [denL_nil.mp h]; exact DenL.nil
  | d :: ds, vs, n + 1, h => by
    obtain ⟨w, r, rfl, a', b⟩ := denL_cons.mp h
    exact DenL.cons a' (DenL.take n b)
theorem DenL.ints : ∀ {ns : List Int} {vs : List V}, DenL K H (ns.map D.int) vs → vs = ns.map V.int
  | [], vs, h => denL_nil.mp h
  | n :: ns, vs, h => by
    obtain ⟨w, r, rfl, a', b⟩ := denL_cons.mp h
    rw [den_int.mp a', DenL.ints b] <;> rfl
theorem DenL.of_ints : ∀ (ns : List Int), DenL K H (ns.map D.int) (ns.map V.int)
  | [] => DenL.nil
  | n :: ns => DenL.cons (den_int.mpr rfl) (DenL.of_ints ns)
theorem DenL.flatten_rep {ds : List D} {vs : List V} (h : DenL K H ds vs) : ∀ n : Nat, DenL K H (List.replicate n ds).flatten (List.replicate n vs).flatten
  | 0 => DenL.nil
  | n + 1 => by
    rw [List.replicate_succ, List.replicate_succ, List.flatten_cons, List.flatten_cons]
    exact DenL.append h (DenL.flatten_rep h n)
end

/-! ### memory -/
inductive MO where
  | lst (ds : List D)
  | dk (kvs : List (Key × D))
  | ins (C : Addr) (fs : List (Str × D))
abbrev Mem := Addr → Option MO
def mup (M : Mem) (a : Addr) (o : MO) : Mem := fun b => if b = a then some o else M b
theorem mup_same {M : Mem} {a : Addr} {o : MO} : mup M a o a = some o := by unfold mup; rw [if_pos rfl]
theorem mup_ne {M : Mem} {a b : Addr} {o : MO} (h : b ≠ a) : mup M a o b = M b := by unfold mup; rw [if_neg h]

def KVs (K : PySem.W.Frag) (H : Hp) : List (Key × D) → List (Key × V) → Prop := Paired fun p q => p.1 = q.1 ∧ Den K H p.2 q.2
def FVs (K : PySem.W.Frag) (H : Hp) : List (Str × D) → List (Str × V) → Prop := Paired fun p q => p.1 = q.1 ∧ Den K H p.2 q.2
def RepO (K : PySem.W.Frag) (H : Hp) (a : Addr) : MO → Prop
  | .lst ds => ∃ xs, H a = some (.lst xs) ∧ DenL K H ds xs
  | .dk kvs => ∃ vs, H a = some (.dK vs) ∧ KVs K H kvs vs
  | .ins C fs => ∃ dx vs, H a = some (.ins C dx vs) ∧ FVs K H fs vs
def Rep (K : PySem.W.Frag) (H : Hp) (M : Mem) : Prop := ∀ a o, M a = some o → RepO K H a o

theorem Rep.free {K : PySem.W.Frag} {H : Hp} {M : Mem} (r : Rep K H M) {p : Addr} (h : H p = none) : M p = none := by
  cases e : M p with
  | none => rfl
  | some o =>
    have q := r p o e
    cases o with
    | lst ds => obtain ⟨xs, e, _⟩ := q; rw [h] at e; cases e
    | dk kvs => obtain ⟨xs, e, _⟩ := q; rw [h] at e; cases e
    | ins C fs => obtain ⟨dx, xs, e, _⟩ := q; rw [h] at e; cases e

/-- where no tuple stands, a store keeps the tuples -/
theorem TK.store {K : PySem.W.Frag} {H : Hp} {p : Addr} {o : HO} (h : ∀ u, H p = some u → (∀ xs, u ≠ .tup xs) ∧ ∀ o' w, u ≠ .frz o' w) : TK K H (upd H p o) := by
  refine ⟨fun a xs s => ?_, fun a xs s => ?_⟩
  · rcases s with (s | ⟨o', s⟩) | s
    · have e : a ≠ p := fun e => by subst e; exact (h _ s).1 xs rfl
      exact .inl (.inl (by rw [upd_ne e]; exact s))
    · have e : a ≠ p := fun e => by subst e; exact (h _ s).2 _ _ rfl
      exact .inl (.inr ⟨o', by rw [upd_ne e]; exact s⟩)
    · exact .inr s
  · rcases s with ⟨o', s⟩ | s
    · have e : a ≠ p := fun e => by subst e; exact (h _ s).2 _ _ rfl
      exact .inl ⟨o', by rw [upd_ne e]; exact s⟩
    · exact .inr s
theorem TK.fresh {K : PySem.W.Frag} {H : Hp} {p : Addr} {o : HO} (h : H p = none) : TK K H (upd H p o) := TK.store fun u e => by rw [h] at e; cases e
theorem TK.lst {K : PySem.W.Frag} {H : Hp} {p : Addr} {o : HO} {ys : List V} (h : H p = some (.lst ys)) : TK K H (upd H p o) := TK.store fun u e => by
  rw [h] at e; cases e; exact ⟨fun _ z => (by cases z), fun _ _ z => (by cases z)⟩
theorem TK.dK {K : PySem.W.Frag} {H : Hp} {p : Addr} {o : HO} {ys : List (Key × V)} (h : H p = some (.dK ys)) : TK K H (upd H p o) := TK.store fun u e => by
  rw [h] at e; cases e; exact ⟨fun _ z => (by cases z), fun _ _ z => (by cases z)⟩
theorem TK.ins {K : PySem.W.Frag} {H : Hp} {p C dx : Addr} {o : HO} {fs : List (Str × V)} (h : H p = some (.ins C dx fs)) : TK K H (upd H p o) := TK.store fun u e => by
  rw [h] at e; cases e; exact ⟨fun _ z => (by cases z), fun _ _ z => (by cases z)⟩

theorem KVs.mono {K : PySem.W.Frag} {H H' : Hp} (t : TK K H H') {l : List (Key × D)} {m : List (Key × V)} (h : KVs K H l m) : KVs K H' l m := Paired.mono (fun _ _ q => ⟨q.1, q.2.mono t⟩) h
theorem FVs.mono {K : PySem.W.Frag} {H H' : Hp} (t : TK K H H') {l : List (Str × D)} {m : List (Str × V)} (h : FVs K H l m) : FVs K H' l m := Paired.mono (fun _ _ q => ⟨q.1, q.2.mono t⟩) h
theorem RepO.store {K : PySem.W.Frag} {H : Hp} {p b : Addr} {o : HO} {m : MO} (t : TK K H (upd H p o)) (hb : b ≠ p) (h : RepO K H b m) : RepO K (L2.upd H p o) b m := by
  cases m with
  | lst ds => obtain ⟨xs, e, l⟩ := h; exact ⟨xs, by rw [upd_ne hb]; exact e, l.mono t⟩
  | dk kvs => obtain ⟨xs, e, l⟩ := h; exact ⟨xs, by rw [upd_ne hb]; exact e, l.mono t⟩
  | ins C fs => obtain ⟨dx, xs, e, l⟩ := h; exact ⟨dx, xs, by rw [upd_ne hb]; exact e, l.mono t⟩
/-- a new object that the memory does not name (a tuple) -/
theorem Rep.tup {K : PySem.W.Frag} {H : Hp} {M : Mem} {p : Addr} {o : HO} (r : Rep K H M) (h : H p = none) : Rep K (upd H p o) M := fun b m e => by
  by_cases q : b = p
  · subst q; rw [r.free h] at e; cases e
  · exact RepO.store (TK.fresh h) q (r b m e)
/-- an object laid or changed -/
theorem Rep.put {K : PySem.W.Frag} {H : Hp} {M : Mem} {p : Addr} {o : HO} {m : MO} (r : Rep K H M) (t : TK K H (upd H p o)) (n : RepO K (upd H p o) p m) : Rep K (upd H p o) (mup M p m) := fun b m' e => by
  by_cases q : b = p
  · subst q; rw [mup_same] at e; cases e; exact n
  · rw [mup_ne q] at e; exact RepO.store t q (r b m' e)

/-! ### the frame's names -/
abbrev St2 := List (Option D)
structure EnvR (K : PySem.W.Frag) (H : Hp) (ρ : St2) (σ : L2.St) : Prop where
  len : ρ.length = σ.length
  at_ : ∀ (i : Nat) (d : D), ρ[i]? = some (some d) → ∃ v : V, σ[i]? = some (some v) ∧ Den K H d v
structure R (K : PySem.W.Frag) (ρ : St2) (M : Mem) (σ : L2.St) (H : Hp) : Prop where
  env : EnvR K H ρ σ
  rep : Rep K H M
theorem EnvR.mono {K : PySem.W.Frag} {H H' : Hp} {ρ : St2} {σ : L2.St} (t : TK K H H') (h : EnvR K H ρ σ) : EnvR K H' ρ σ :=
  ⟨h.len, fun i d e => by obtain ⟨v, a, b⟩ := h.at_ i d e; exact ⟨v, a, b.mono t⟩⟩
theorem EnvR.set {K : PySem.W.Frag} {H : Hp} {ρ : St2} {σ : L2.St} {d : D} {v : V} (h : EnvR K H ρ σ) (i : Nat) (a : Den K H d v) : EnvR K H (ρ.set i (some d)) (σ.set i (some v)) := by
  refine ⟨by rw [List.length_set, List.length_set]; exact h.len, fun j e q => ?_⟩
  rw [List.getElem?_set] at q ⊢
  by_cases c : i = j
  · subst c
    rw [if_pos rfl] at q ⊢
    have hl := h.len
    by_cases z : i < ρ.length
    · rw [if_pos z] at q
      rw [if_pos (hl ▸ z)]
      cases q
      exact ⟨v, rfl, a⟩
    · rw [if_neg z] at q; cases q
  · rw [if_neg c] at q ⊢
    exact h.at_ j e q
/-- fewer names -/
theorem EnvR.wipe {K : PySem.W.Frag} {H : Hp} {ρ ρ' : St2} {σ : L2.St} (h : EnvR K H ρ σ) (l : ρ'.length = ρ.length) (s : ∀ (i : Nat) (d : D), ρ'[i]? = some (some d) → ρ[i]? = some (some d)) : EnvR K H ρ' σ :=
  ⟨l.trans h.len, fun i d e => h.at_ i d (s i d e)⟩

/-! ### canonical readings -/
section
variable {X : Cx}
def cE (X : Cx) (e : Expr) : TE := fun σ H Q => ∀ pins s, Inv X pins σ H s → wpAny (model X.prog X.w) X.A (eval e X.env) (EP X pins σ Q) X.xe s
def cT (X : Cx) (e : Expr) : TT := fun σ H Q => ∀ pins s, Inv X pins σ H s → wpAny (model X.prog X.w) X.A (isTrue e X.env (eval e X.env)) (TP X pins σ Q) X.xe s
def cW (X : Cx) (e : Expr) : TT := fun σ H Q => ∀ whole pins s, Inv X pins σ H s → wpAny (model X.prog X.w) X.A (isTrue e X.env whole) (TP X pins σ Q) X.xe s
def cA (X : Cx) (es : List Expr) : TA := fun σ H Q => ∀ pos pins s, Inv X pins σ H s → wpAny (model X.prog X.w) X.A (spliced (backTo pos (starEach es X.env))) (AP X pins σ Q) X.xe s
def cS (X : Cx) (st : Stmt) : TS := fun D σ H => ∀ pins s, Inv X pins σ H s → wpAny (model X.prog X.w) X.A (exec st X.env) (SP X pins D) X.xe s
def cSs (X : Cx) (st : List Stmt) : TS := fun D σ H => ∀ pins s, Inv X pins σ H s → wpAny (model X.prog X.w) X.A (execs st X.env) (SP X pins D) X.xe s
def cG (X : Cx) (tg : Expr) : TG := fun v σ H Q => ∀ pins s u, Inv X pins σ H s → RelV v u → wpAny (model X.prog X.w) X.A (assign tg X.env u) (fun _ s' => ∃ σ' H', Inv X pins σ' H' s' ∧ Q σ' H') X.xe s
theorem peC {e : Expr} : PE X e (cE X e) := ⟨fun pins s σ H Q I h => h pins s I⟩
theorem ptC {e : Expr} : PT X e (cT X e) := ⟨fun pins s σ H Q I h => h pins s I⟩
theorem pwC {e : Expr} : PW X e (cW X e) := ⟨fun whole pins s σ H Q I h => h whole pins s I⟩
theorem paC {es : List Expr} : PA X es (cA X es) := ⟨fun pos pins s σ H Q I h => h pos pins s I⟩
theorem psC {st : Stmt} : PS X st (cS X st) := ⟨fun pins s σ H D I h => h pins s I⟩
theorem pssC {st : List Stmt} : PSs X st (cSs X st) := ⟨fun pins s σ H D I h => h pins s I⟩
theorem pgC {tg : Expr} : PG X tg (cG X tg) := ⟨fun pins s σ H v u Q I r h => h pins s u I r⟩
theorem cE_of {e : Expr} {t : TE} (h : PE X e t) {σ : L2.St} {H : Hp} {Q : VK} (q : t σ H Q) : cE X e σ H Q := fun pins s I => h.run pins s σ H Q I q
theorem cT_of {e : Expr} {t : TT} (h : PT X e t) {σ : L2.St} {H : Hp} {Q : Bool → Hp → Prop} (q : t σ H Q) : cT X e σ H Q := fun pins s I => h.run pins s σ H Q I q
theorem cW_of {e : Expr} {t : TT} (h : PW X e t) {σ : L2.St} {H : Hp} {Q : Bool → Hp → Prop} (q : t σ H Q) : cW X e σ H Q := fun whole pins s I => h.run whole pins s σ H Q I q
theorem cA_of {es : List Expr} {t : TA} (h : PA X es t) {σ : L2.St} {H : Hp} {Q : List V → Hp → Prop} (q : t σ H Q) : cA X es σ H Q := fun pos pins s I => h.run pos pins s σ H Q I q
theorem cS_of {st : Stmt} {t : TS} (h : PS X st t) {D : Ends} {σ : L2.St} {H : Hp} (q : t D σ H) : cS X st D σ H := fun pins s I => h.run pins s σ H D I q
theorem cSs_of {st : List Stmt} {t : TS} (h : PSs X st t) {D : Ends} {σ : L2.St} {H : Hp} (q : t D σ H) : cSs X st D σ H := fun pins s I => h.run pins s σ H D I q
theorem cG_of {tg : Expr} {t : TG} (h : PG X tg t) {v : V} {σ : L2.St} {H : Hp} {Q : L2.St → Hp → Prop} (q : t v σ H Q) : cG X tg v σ H Q := fun pins s u I r => h.run pins s σ H v u Q I r q
theorem cE_mono {e : Expr} {σ : L2.St} {H : Hp} {Q Q' : VK} (m : ∀ v H', Q v H' → Q' v H') (h : cE X e σ H Q) : cE X e σ H Q' := fun pins s I =>
  wpAny_mono (h pins s I) (fun u s' ⟨v, H', I', r, q⟩ => ⟨v, H', I', r, m v H' q⟩) fun _ _ z => z
theorem cT_mono {e : Expr} {σ : L2.St} {H : Hp} {Q Q' : Bool → Hp → Prop} (m : ∀ v H', Q v H' → Q' v H') (h : cT X e σ H Q) : cT X e σ H Q' := fun pins s I =>
  wpAny_mono (h pins s I) (fun u s' ⟨H', I', q⟩ => ⟨H', I', m u H' q⟩) fun _ _ z => z
theorem cW_mono {e : Expr} {σ : L2.St} {H : Hp} {Q Q' : Bool → Hp → Prop} (m : ∀ v H', Q v H' → Q' v H') (h : cW X e σ H Q) : cW X e σ H Q' := fun whole pins s I =>
  wpAny_mono (h whole pins s I) (fun u s' ⟨H', I', q⟩ => ⟨H', I', m u H' q⟩) fun _ _ z => z
theorem cA_mono {es : List Expr} {σ : L2.St} {H : Hp} {Q Q' : List V → Hp → Prop} (m : ∀ v H', Q v H' → Q' v H') (h : cA X es σ H Q) : cA X es σ H Q' := fun pos pins s I =>
  wpAny_mono (h pos pins s I) (fun u s' ⟨v, H', I', r, q⟩ => ⟨v, H', I', r, m v H' q⟩) fun _ _ z => z
theorem cG_mono {tg : Expr} {v : V} {σ : L2.St} {H : Hp} {Q Q' : L2.St → Hp → Prop} (m : ∀ v H', Q v H' → Q' v H') (h : cG X tg v σ H Q) : cG X tg v σ H Q' := fun pins s u I r =>
  wpAny_mono (h pins s u I r) (fun _ s' ⟨σ', H', I', q⟩ => ⟨σ', H', I', m σ' H' q⟩) fun _ _ z => z
theorem SP_mono {pins : List (Addr × Obj)} {D D' : Ends} (h1 : ∀ σ H, D.nx σ H → D'.nx σ H) (h2 : ∀ v H, D.rt v H → D'.rt v H) (h3 : ∀ σ H, D.bk σ H → D'.bk σ H) (h4 : ∀ σ H, D.ct σ H → D'.ct σ H) {f : Flow} {s' : Shared} (h : SP X pins D f s') : SP X pins D' f s' := by
  cases f with
  | next => obtain ⟨σ', H', I, q⟩ := h; exact ⟨σ', H', I, h1 _ _ q⟩
  | brk => obtain ⟨σ', H', I, q⟩ := h; exact ⟨σ', H', I, h3 _ _ q⟩
  | cont => obtain ⟨σ', H', I, q⟩ := h; exact ⟨σ', H', I, h4 _ _ q⟩
  | ret u => obtain ⟨v, σ', H', I, r, q⟩ := h; exact ⟨v, σ', H', I, r, h2 _ _ q⟩
theorem cS_mono {st : Stmt} {σ : L2.St} {H : Hp} {D D' : Ends} (h1 : ∀ σ H, D.nx σ H → D'.nx σ H) (h2 : ∀ v H, D.rt v H → D'.rt v H) (h3 : ∀ σ H, D.bk σ H → D'.bk σ H) (h4 : ∀ σ H, D.ct σ H → D'.ct σ H) (h : cS X st D σ H) : cS X st D' σ H := fun pins s I =>
  wpAny_mono (h pins s I) (fun f s' q => SP_mono h1 h2 h3 h4 q) fun _ _ z => z
theorem cSs_mono {st : List Stmt} {σ : L2.St} {H : Hp} {D D' : Ends} (h1 : ∀ σ H, D.nx σ H → D'.nx σ H) (h2 : ∀ v H, D.rt v H → D'.rt v H) (h3 : ∀ σ H, D.bk σ H → D'.bk σ H) (h4 : ∀ σ H, D.ct σ H → D'.ct σ H) (h : cSs X st D σ H) : cSs X st D' σ H := fun pins s I =>
  wpAny_mono (h pins s I) (fun f s' q => SP_mono h1 h2 h3 h4 q) fun _ _ z => z
end

/-! ### the second layer's readings -/
abbrev QE := D → Mem → Prop
structure Ends2 where
  nx : St2 → Mem → Prop
  rt : D → Mem → Prop
  bk : St2 → Mem → Prop := fun _ _ => False
  ct : St2 → Mem → Prop := fun _ _ => False
def LE (K : PySem.W.Frag) (ρ : St2) (σ : L2.St) (H : Hp) (Q : QE) : VK := fun v H' => ∃ d M', Den K H' d v ∧ R K ρ M' σ H' ∧ TK K H H' ∧ Q d M'
def LT (K : PySem.W.Frag) (ρ : St2) (σ : L2.St) (H : Hp) (Q : Bool → Mem → Prop) : Bool → Hp → Prop := fun b H' => ∃ M', R K ρ M' σ H' ∧ TK K H H' ∧ Q b M'
def LA (K : PySem.W.Frag) (ρ : St2) (σ : L2.St) (H : Hp) (Q : List D → Mem → Prop) : List V → Hp → Prop := fun vs H' => ∃ ds M', DenL K H' ds vs ∧ R K ρ M' σ H' ∧ TK K H H' ∧ Q ds M'
def LN (K : PySem.W.Frag) (H : Hp) (Q : St2 → Mem → Prop) : L2.St → Hp → Prop := fun σ' H' => ∃ ρ M, R K ρ M σ' H' ∧ TK K H H' ∧ Q ρ M
def LR (K : PySem.W.Frag) (H : Hp) (Q : D → Mem → Prop) : V → Hp → Prop := fun v H' => ∃ d M, Den K H' d v ∧ Rep K H' M ∧ TK K H H' ∧ Q d M
def LS (K : PySem.W.Frag) (H : Hp) (E : Ends2) : Ends := { nx := LN K H E.nx, rt := LR K H E.rt, bk := LN K H E.bk, ct := LN K H E.ct }
def WE (X : Cx) (e : Expr) (ρ : St2) (M : Mem) (Q : QE) : Prop := ∀ σ H, R X.K ρ M σ H → cE X e σ H (LE X.K ρ σ H Q)
def WT (X : Cx) (e : Expr) (ρ : St2) (M : Mem) (Q : Bool → Mem → Prop) : Prop := ∀ σ H, R X.K ρ M σ H → cT X e σ H (LT X.K ρ σ H Q)
def WW (X : Cx) (e : Expr) (ρ : St2) (M : Mem) (Q : Bool → Mem → Prop) : Prop := ∀ σ H, R X.K ρ M σ H → cW X e σ H (LT X.K ρ σ H Q)
def WA (X : Cx) (es : List Expr) (ρ : St2) (M : Mem) (Q : List D → Mem → Prop) : Prop := ∀ σ H, R X.K ρ M σ H → cA X es σ H (LA X.K ρ σ H Q)
def WS (X : Cx) (st : Stmt) (E : Ends2) (ρ : St2) (M : Mem) : Prop := ∀ σ H, R X.K ρ M σ H → cS X st (LS X.K H E) σ H
def WSs (X : Cx) (st : List Stmt) (E : Ends2) (ρ : St2) (M : Mem) : Prop := ∀ σ H, R X.K ρ M σ H → cSs X st (LS X.K H E) σ H
/-- the ends of a statement that others follow; of a loop's body -/
abbrev consE (X : Cx) (rest : List Stmt) (E : Ends2) : Ends2 := { E with nx := WSs X rest E }
abbrev loopE (E : Ends2) (I : St2 → Mem → Prop) : Ends2 := { nx := I, rt := E.rt, bk := E.nx, ct := I }
def WG (X : Cx) (tg : Expr) (d : D) (ρ : St2) (M : Mem) (Q : St2 → Mem → Prop) : Prop := ∀ v σ H, R X.K ρ M σ H → Den X.K H d v → cG X tg v σ H (LN X.K H Q)

section
variable {X : Cx} {ρ : St2} {M : Mem}
theorem WE.mono {e : Expr} {Q Q' : QE} (m : ∀ d M, Q d M → Q' d M) (h : WE X e ρ M Q) : WE X e ρ M Q' := fun σ H r => cE_mono (fun v H' ⟨d, M', a, b, c, q⟩ => ⟨d, M', a, b, c, m d M' q⟩) (h σ H r)
theorem WT.mono {e : Expr} {Q Q' : Bool → Mem → Prop} (m : ∀ d M, Q d M → Q' d M) (h : WT X e ρ M Q) : WT X e ρ M Q' := fun σ H r => cT_mono (fun v H' ⟨M', b, c, q⟩ => ⟨M', b, c, m v M' q⟩) (h σ H r)
theorem WSs.mono {st : List Stmt} {E E' : Ends2} (h1 : ∀ ρ M, E.nx ρ M → E'.nx ρ M) (h2 : ∀ v M, E.rt v M → E'.rt v M) (h3 : ∀ ρ M, E.bk ρ M → E'.bk ρ M) (h4 : ∀ ρ M, E.ct ρ M → E'.ct ρ M) (h : WSs X st E ρ M) : WSs X st E' ρ M := fun σ H r =>
  cSs_mono (D := LS X.K H E) (D' := LS X.K H E') (fun _ _ ⟨a, b, c, t, q⟩ => ⟨a, b, c, t, h1 a b q⟩) (fun _ _ ⟨a, b, c, d, t, q⟩ => ⟨a, b, c, d, t, h2 a b q⟩) (fun _ _ ⟨a, b, c, t, q⟩ => ⟨a, b, c, t, h3 a b q⟩) (fun _ _ ⟨a, b, c, t, q⟩ => ⟨a, b, c, t, h4 a b q⟩) (h σ H r)
theorem WS.mono {st : Stmt} {E E' : Ends2} (h1 : ∀ ρ M, E.nx ρ M → E'.nx ρ M) (h2 : ∀ v M, E.rt v M → E'.rt v M) (h3 : ∀ ρ M, E.bk ρ M → E'.bk ρ M) (h4 : ∀ ρ M, E.ct ρ M → E'.ct ρ M) (h : WS X st E ρ M) : WS X st E' ρ M := fun σ H r =>
  cS_mono (D := LS X.K H E) (D' := LS X.K H E') (fun _ _ ⟨a, b, c, t, q⟩ => ⟨a, b, c, t, h1 a b q⟩) (fun _ _ ⟨a, b, c, d, t, q⟩ => ⟨a, b, c, d, t, h2 a b q⟩) (fun _ _ ⟨a, b, c, t, q⟩ => ⟨a, b, c, t, h3 a b q⟩) (fun _ _ ⟨a, b, c, t, q⟩ => ⟨a, b, c, t, h4 a b q⟩) (h σ H r)
/-- a statement's ends seen from an earlier heap -/
theorem cSs_back {st : List Stmt} {E : Ends2} {σ : L2.St} {H H0 : Hp} (t : TK X.K H0 H) (h : cSs X st (LS X.K H E) σ H) : cSs X st (LS X.K H0 E) σ H :=
  cSs_mono (D := LS X.K H E) (D' := LS X.K H0 E) (fun _ _ ⟨a, b, c, t', q⟩ => ⟨a, b, c, t.trans t', q⟩) (fun _ _ ⟨a, b, c, d, t', q⟩ => ⟨a, b, c, d, t.trans t', q⟩) (fun _ _ ⟨a, b, c, t', q⟩ => ⟨a, b, c, t.trans t', q⟩) (fun _ _ ⟨a, b, c, t', q⟩ => ⟨a, b, c, t.trans t', q⟩) h

end
end Y

set_option Elab.async false
set_option linter.all false
set_option autoImplicit false
set_option maxRecDepth 100000
set_option maxHeartbeats 4000000
namespace Y
open PySem PySem.Spec PyProof.Rows L2

/-! ### what a context is known for -/
def visB (sc : Scope) (x : Str) : Bool := (match sc.names.lookup x with | some .local => true | some .cell => true | some .free => true | _ => false) && !(x == ("__debug__" : Str)) && !(x == ("__classdict__" : Str))
def locB (sc : Scope) (x : Str) : Bool := match sc.names.lookup x with | some .local => true | some .cell => true | _ => false
def lclB (sc : Scope) (x : Str) : Bool := match sc.names.lookup x with | some .local => true | _ => false
def glB (sc : Scope) (x : Str) : Bool := (match sc.names.lookup x with | some .globalImplicit => true | _ => false) && !(x == ("__debug__" : Str)) && !(x == ("__name__" : Str))
def frB (sc : Scope) (x : Str) : Bool := match sc.names.lookup x with | some .cell => true | some .free => true | _ => false
/-- the names of a scope, as one list: seen, stored, stored and no cells, of the module -/
structure Nms where
  v : List Str
  l : List Str
  c : List Str
  g : List Str
  f : List Str
def Nms.ok (n : Nms) (sc : Scope) : Bool := n.v.all (visB sc) && n.l.all (locB sc) && n.c.all (lclB sc) && n.g.all (glB sc) && n.f.all (frB sc)
structure Cxt (X : Cx) (N : List Str) (sc : Nms) (P : Program) (w : World) (K : PySem.W.Frag) (mg : Str → Option Value) (base : Heap) (k : Nat) : Prop where
  hP : X.prog = P
  hw : X.w = w
  hK : X.K = K
  hmg : X.mg = mg
  hbase : X.base = base
  hN : X.N = N
  nd : N.Nodup
  calm : X.calm = true
  vis : ∀ x ∈ sc.v, Vis X.env.scope x ∧ (x == ("__debug__" : Str)) = false ∧ (x == ("__classdict__" : Str)) = false
  loc : ∀ x ∈ sc.l, L2.Loc X.env.scope x
  lcl : ∀ x ∈ sc.c, X.env.scope.names.lookup x = some .local
  gl : ∀ x ∈ sc.g, Gl X x ∧ (x == ("__debug__" : Str)) = false ∧ x ≠ ("__name__" : Str)
  fn : ∀ x ∈ sc.l, X.fn x = true ∨ X.env.scope.names.lookup x = some .local
  fr : ∀ x ∈ sc.f, X.env.scope.names.lookup x = some .cell ∨ X.env.scope.names.lookup x = some .free
  kind : X.env.scope.kind = .function
  room : Room k X.A
  gd : X.A.guards = some []
  never : PassesOwn (model X.prog X.w) X.A X.env X.xe
theorem visB_dbg {sc : Scope} {x : Str} (h : visB sc x = true) : (x == ("__debug__" : Str)) = false ∧ (x == ("__classdict__" : Str)) = false := by
  unfold visB at h
  simp only [Bool.and_eq_true, Bool.not_eq_true'] at h
  exact ⟨h.1.2, h.2⟩
theorem glB_dbg {sc : Scope} {x : Str} (h : glB sc x = true) : (x == ("__debug__" : Str)) = false ∧ x ≠ ("__name__" : Str) := by
  unfold glB at h
  simp only [Bool.and_eq_true, Bool.not_eq_true'] at h
  exact ⟨h.1.2, by simpa using h.2⟩

/-! ### branching -/
def Br (b : Bool) (A B : Prop) : Prop := (b = true → A) ∧ (b = false → B)
theorem Br.t {A B : Prop} (h : A) : Br true A B := ⟨fun _ => h, fun z => nomatch z⟩
theorem Br.f {A B : Prop} (h : B) : Br false A B := ⟨fun z => (nomatch z), fun _ => h⟩
theorem Br.ite {b : Bool} {A B : Prop} (h : Br b A B) : if b = true then A else B := by
  cases b with
  | true => rw [if_pos rfl]; exact h.1 rfl
  | false => rw [if_neg Bool.false_ne_true]; exact h.2 rfl
theorem Br.dec {p A B : Prop} [Decidable p] (h1 : p → A) (h2 : ¬ p → B) : Br (decide p) A B := ⟨fun z => h1 (of_decide_eq_true z), fun z => h2 (of_decide_eq_false z)⟩
theorem Br.decT {p A B : Prop} [Decidable p] (c : p) (h : A) : Br (decide p) A B := Br.dec (fun _ => h) fun n => (n c).elim
theorem Br.decF {p A B : Prop} [Decidable p] (c : ¬ p) (h : B) : Br (decide p) A B := Br.dec (fun n => (c n).elim) fun _ => h
theorem Br.not {b : Bool} {A B : Prop} (h : Br b B A) : Br (!b) A B := ⟨fun z => h.2 (by simpa using z), fun z => h.1 (by simpa using z)⟩
theorem Br.idd {b : Bool} {A B : Prop} (h : Br b A B) : Br (id b) A B := h
theorem Br.mono {b : Bool} {A B A' B' : Prop} (h : Br b A B) (f : A → A') (g : B → B') : Br b A' B' := ⟨fun z => f (h.1 z), fun z => g (h.2 z)⟩

section
variable {X : Cx} {ρ : St2} {M : Mem} {N : List Str} {sc : Nms} {P : Program} {w : World} {K : PySem.W.Frag} {mg : Str → Option Value} {base : Heap} {k0 : Nat}

/-! ### constants, names -/
theorem we_int {i : Int} {j : Nat} {pos : Pos} {Q : QE} (q : Q (.int i) M) : WE X (.Constant (.int i) j pos) ρ M Q := fun σ H r => cE_of pe_int ⟨_, _, den_int.mpr rfl, r, TK.refl _, q⟩
theorem we_bl {b : Bool} {j : Nat} {pos : Pos} {Q : QE} (q : Q (.bl b) M) : WE X (.Constant (.bool b) j pos) ρ M Q := fun σ H r => cE_of pe_bl ⟨_, _, den_bl.mpr rfl, r, TK.refl _, q⟩
theorem we_str {x : Str} {j : Nat} {pos : Pos} {Q : QE} (q : Q (.str x) M) : WE X (.Constant (.str x) j pos) ρ M Q := fun σ H r => cE_of pe_str ⟨_, _, den_str.mpr rfl, r, TK.refl _, q⟩
theorem we_non {j : Nat} {pos : Pos} {Q : QE} (q : Q .non M) : WE X (.Constant .none j pos) ρ M Q := fun σ H r => cE_of pe_non ⟨_, _, den_non.mpr rfl, r, TK.refl _, q⟩
/-- the name x stands in slot i; it holds d -/
inductive Slot : List Str → St2 → Nat → Str → D → Prop where
  | here {x : Str} {N : List Str} {d : D} {ρ : St2} : Slot (x :: N) (some d :: ρ) 0 x d
  | there {x y : Str} {N : List Str} {d : D} {o : Option D} {ρ : St2} {i : Nat} : Slot N ρ i x d → Slot (y :: N) (o :: ρ) (i + 1) x d
inductive Nm : List Str → Nat → Str → Prop where
  | here {x : Str} {N : List Str} : Nm (x :: N) 0 x
  | there {x y : Str} {N : List Str} {i : Nat} : Nm N i x → Nm (y :: N) (i + 1) x
/-- the frame behind x = d -/
inductive Put : List Str → St2 → Str → D → St2 → Prop where
  | here {x : Str} {N : List Str} {d : D} {o : Option D} {ρ : St2} : Put (x :: N) (o :: ρ) x d (some d :: ρ)
  | there {x y : Str} {N : List Str} {d : D} {o : Option D} {ρ ρ' : St2} : Put N ρ x d ρ' → Put (y :: N) (o :: ρ) x d (o :: ρ')
theorem Put.get {N : List Str} {ρ ρ' : St2} {x : Str} {d : D} (h : Put N ρ x d ρ') : ∃ i, N[i]? = some x ∧ ρ' = ρ.set i (some d) := by
  induction h with
  | here => exact ⟨0, rfl, rfl⟩
  | there _ ih => obtain ⟨i, a, b⟩ := ih; exact ⟨i + 1, by simpa using a, by rw [b]; rfl⟩
theorem Slot.get {N : List Str} {ρ : St2} {i : Nat} {x : Str} {d : D} (h : Slot N ρ i x d) : N[i]? = some x ∧ ρ[i]? = some (some d) := by
  induction h with
  | here => exact ⟨rfl, rfl⟩
  | there _ ih => simpa using ih
theorem Nm.get {N : List Str} {i : Nat} {x : Str} (h : Nm N i x) : N[i]? = some x := by
  induction h with
  | here => rfl
  | there _ ih => simpa using ih
theorem we_var (C : Cxt X N sc P w K mg base k0) {x : Str} {i : Nat} {d : D} {pos : Pos} {Q : QE} (sl : Slot N ρ i x d) (hv : x ∈ sc.v) (q : Q d M) : WE X (.Name x pos) ρ M Q := fun σ H r => by
  obtain ⟨v, e, dn⟩ := r.env.at_ i d sl.get.2
  exact cE_of (pe_var (i := i) (by rw [C.hN]; exact sl.get.1) (C.vis x hv).1 (C.vis x hv).2.1 (C.vis x hv).2.2) ⟨v, e, d, M, dn, r, TK.refl _, q⟩
theorem we_glob (C : Cxt X N sc P w K mg base k0) {x : Str} {d : D} {v : V} {u : Value} {pos : Pos} {Q : QE} (hg : x ∈ sc.g) (hm : mg x = some u) (rv : RelV v u) (dn : ∀ H, Den K H d v) (q : Q d M) : WE X (.Name x pos) ρ M Q := fun σ H r => by
  obtain rfl := C.hK
  obtain rfl := C.hmg
  exact cE_of (pe_glob (C.gl x hg).1 hm rv (C.gl x hg).2.1) ⟨d, M, dn H, r, TK.refl _, q⟩
theorem we_globI (C : Cxt X N sc P w K mg base k0) {x : Str} {i : Int} {t : Tok} {pos : Pos} {Q : QE} (hg : x ∈ sc.g) (hm : mg x = some (.int i t)) (q : Q (.int i) M) : WE X (.Name x pos) ρ M Q :=
  we_glob C hg hm (v := .int i) ⟨t, rfl⟩ (fun _ => den_int.mpr rfl) q
theorem we_globS (C : Cxt X N sc P w K mg base k0) {x : Str} {i : Str} {t : Tok} {pos : Pos} {Q : QE} (hg : x ∈ sc.g) (hm : mg x = some (.str i t)) (q : Q (.str i) M) : WE X (.Name x pos) ρ M Q :=
  we_glob C hg hm (v := .str i) ⟨t, rfl⟩ (fun _ => den_str.mpr rfl) q
/-- a built-in class as a value -/
theorem we_type (C : Cxt X N sc P w K mg base k0) {x : Str} {T : String} {pos : Pos} {Q : QE} (hg : x ∈ sc.g) (hm : mg x = none) (hv : bootBuiltins x = some (.type T)) (q : Q (.ty T) M) : WE X (.Name x pos) ρ M Q := fun σ H r => by
  obtain rfl := C.hmg
  exact cE_of (pe_bltn (v := .ty T) (C.gl x hg).1 hm hv rfl (C.gl x hg).2.2 (C.gl x hg).2.1) ⟨.ty T, M, den_ty.mpr rfl, r, TK.refl _, q⟩

/-! ### operators -/
def RMono (r : R2) : Prop := ∀ (x y : V) (H : Hp) (Q Q' : VK), (∀ v H, Q v H → Q' v H) → r x y H Q → r x y H Q'
theorem RMono.go {r : R2} (h : RMono r) {x y : V} {H : Hp} {Q Q' : VK} (m : ∀ v H, Q v H → Q' v H) (q : r x y H Q) : r x y H Q' := h x y H Q Q' m q
def OpL (K : PySem.W.Frag) (r : R2) (r2 : D → D → Mem → QE → Prop) : Prop := ∀ (d1 d2 : D) (x y : V) (H : Hp) (ρ : St2) (σ : L2.St) (M : Mem) (H0 : Hp) (Q : QE), Den K H d1 x → Den K H d2 y → R K ρ M σ H → TK K H0 H → r2 d1 d2 M Q → r x y H (LE K ρ σ H0 Q)
theorem OpL.go {K : PySem.W.Frag} {r : R2} {r2 : D → D → Mem → QE → Prop} (h : OpL K r r2) {d1 d2 : D} {x y : V} {H : Hp} {ρ : St2} {σ : L2.St} {M : Mem} {H0 : Hp} {Q : QE} (a : Den K H d1 x) (b : Den K H d2 y) (c : R K ρ M σ H) (d : TK K H0 H) (e : r2 d1 d2 M Q) : r x y H (LE K ρ σ H0 Q) :=
  h d1 d2 x y H ρ σ M H0 Q a b c d e
structure OpB (X : Cx) (f : Value → Value → Sem Value) (r2 : D → D → Mem → QE → Prop) : Prop where
  ex : ∃ r : R2, OpR X f r ∧ RMono r ∧ OpL X.K r r2
theorem opr_or {f : Value → Value → Sem Value} {r r' : R2} (h : OpR X f r) (h' : OpR X f r') : OpR X f (fun x y H Q => r x y H Q ∨ r' x y H Q) := fun pins s σ H x y v u Q I rx ry q =>
  q.elim (h pins s σ H x y v u Q I rx ry) (h' pins s σ H x y v u Q I rx ry)
theorem rm_or {r r' : R2} (h : RMono r) (h' : RMono r') : RMono (fun x y H Q => r x y H Q ∨ r' x y H Q) := fun _ _ _ _ _ m q => q.elim (fun a => .inl (h.go m a)) fun a => .inr (h'.go m a)
theorem we_two {a b : Expr} {σ : L2.St} {H : Hp} {r : R2} {r2 : D → D → Mem → QE → Prop} {Q : QE} (hl : OpL X.K r r2) (h : WE X a ρ M fun d1 M1 => WE X b ρ M1 fun d2 M2 => r2 d1 d2 M2 Q) (rr : R X.K ρ M σ H) : tOp r (cE X a) (cE X b) σ H (LE X.K ρ σ H Q) := by
  refine cE_mono ?_ (h σ H rr)
  rintro x H1 ⟨d1, M1, dn1, r1, t1, q1⟩
  refine cE_mono ?_ (q1 σ H1 r1)
  rintro y H2 ⟨d2, M2, dn2, r2, t2, q2⟩
  exact hl.go (dn1.mono t2) dn2 r2 (t1.trans t2) q2
theorem we_binop {a b : Expr} {o : Operator} {pos : Pos} {r2 : D → D → Mem → QE → Prop} {Q : QE} (op : OpB X (binaryOp o) r2) (h : WE X a ρ M fun d1 M1 => WE X b ρ M1 fun d2 M2 => r2 d1 d2 M2 Q) : WE X (.BinOp a o b pos) ρ M Q := fun σ H rr => by
  obtain ⟨r, h1, _, h3⟩ := op.ex
  exact cE_of (pe_op h1 peC peC) (we_two h3 h rr)
theorem we_cmp {a b : Expr} {o : CmpOp} {pos : Pos} {r2 : D → D → Mem → QE → Prop} {Q : QE} (op : OpB X (compareOp o) r2) (hm : behindInMarks o b = false) (h : WE X a ρ M fun d1 M1 => WE X b ρ M1 fun d2 M2 => r2 d1 d2 M2 Q) : WE X (.Compare a [o] [b] pos) ρ M Q := fun σ H rr => by
  obtain ⟨r, h1, _, h3⟩ := op.ex
  exact cE_of (pe_cmpR h1 peC peC hm) (we_two h3 h rr)
/-- the answer is a truth value -/
def isB (Q : Bool → Mem → Prop) : QE := fun d M => ∃ b, d = .bl b ∧ Q b M
theorem lt_of_le {σ : L2.St} {H : Hp} {Q : Bool → Mem → Prop} {v : V} {H' : Hp} (h : LE X.K ρ σ H (isB Q) v H') : ∃ k, v = .bl k ∧ LT X.K ρ σ H Q k H' := by
  obtain ⟨d, M', dn, r, t, b, rfl, q⟩ := h
  exact ⟨b, den_bl.mp dn, M', r, t, q⟩
theorem wt_cmp {a b : Expr} {o : CmpOp} {pos : Pos} {r2 : D → D → Mem → QE → Prop} {Q : Bool → Mem → Prop} (op : OpB X (compareOp o) r2) (hm : behindInMarks o b = false) (h : WE X a ρ M fun d1 M1 => WE X b ρ M1 fun d2 M2 => r2 d1 d2 M2 (isB Q)) : WT X (.Compare a [o] [b] pos) ρ M Q := fun σ H rr => by
  obtain ⟨r, h1, h2, h3⟩ := op.ex
  refine cT_of (pt_cmpR h1 peC peC hm) ?_
  have z := we_two h3 h rr
  show cE X a σ H fun x H1 => cE X b σ H1 fun y H2 => r x y H2 fun v H' => ∃ k, v = .bl k ∧ _
  exact cE_mono (fun x H1 q => cE_mono (fun y H2 q2 => h2.go (fun v H' q3 => lt_of_le q3) q2) q) z
/-- a op b op' c -/
theorem chain_run {a b c : Expr} {σ : L2.St} {H : Hp} {r r' : R2} {r2 r2' : D → D → Mem → QE → Prop} {Q : QE} (h2 : RMono r) (h3 : OpL X.K r r2) (h3' : OpL X.K r' r2')
    (h : WE X a ρ M fun d1 M1 => WE X b ρ M1 fun d2 M2 => r2 d1 d2 M2 (isB fun k M3 => Br k (WE X c ρ M3 fun d3 M4 => r2' d2 d3 M4 Q) (Q (.bl false) M3))) (rr : R X.K ρ M σ H) : tChain r r' (cE X a) (cE X b) (cE X c) σ H (LE X.K ρ σ H Q) := by
  refine cE_mono ?_ (h σ H rr)
  rintro x H1 ⟨d1, M1, dn1, r1, t1, q1⟩
  refine cE_mono ?_ (q1 σ H1 r1)
  rintro y H2 ⟨d2, M2, dn2, r2, t2, q2⟩
  refine h2.go ?_ (h3.go (dn1.mono t2) dn2 r2 (TK.refl H2) q2)
  rintro z H3 ⟨d3, M3, dn3, r3, t3, k, rfl, br⟩
  refine ⟨k, den_bl.mp dn3, ?_⟩
  cases k with
  | true =>
    rw [if_pos rfl]
    refine cE_mono ?_ (br.1 rfl σ H3 r3)
    rintro u H4 ⟨d4, M4, dn4, r4, t4, q4⟩
    exact h3'.go (dn2.mono (t3.trans t4)) dn4 r4 (((t1.trans t2).trans t3).trans t4) q4
  | false =>
    rw [if_neg Bool.false_ne_true]
    exact ⟨_, M3, den_bl.mpr rfl, r3, (t1.trans t2).trans t3, br.2 rfl⟩
theorem we_chain {a b c : Expr} {o o' : CmpOp} {pos : Pos} {r2 r2' : D → D → Mem → QE → Prop} {Q : QE} (op : OpB X (compareOp o) r2) (op' : OpB X (compareOp o') r2') (hm : lastMarks [o, o'] [b, c] = false)
    (h : WE X a ρ M fun d1 M1 => WE X b ρ M1 fun d2 M2 => r2 d1 d2 M2 (isB fun k M3 => Br k (WE X c ρ M3 fun d3 M4 => r2' d2 d3 M4 Q) (Q (.bl false) M3))) : WE X (.Compare a [o, o'] [b, c] pos) ρ M Q := fun σ H rr => by
  obtain ⟨r, h1, h2, h3⟩ := op.ex
  obtain ⟨r', h1', h2', h3'⟩ := op'.ex
  exact cE_of (pe_chain h1 h1' peC peC peC hm) (chain_run h2 h3 h3' h rr)
theorem tChain_mono {r r' : R2} (h2 : RMono r) (h2' : RMono r') {a b c : Expr} {σ : L2.St} {H : Hp} {Q Q' : VK} (m : ∀ v H, Q v H → Q' v H) (h : tChain r r' (cE X a) (cE X b) (cE X c) σ H Q) : tChain r r' (cE X a) (cE X b) (cE X c) σ H Q' :=
  cE_mono (fun x H1 q => cE_mono (fun y H2 q2 => h2.go (fun z H3 ⟨k, e, q3⟩ => ⟨k, e, by
    cases k with
    | true => rw [if_pos rfl] at q3 ⊢; exact cE_mono (fun u H4 q4 => h2'.go m q4) q3
    | false => rw [if_neg Bool.false_ne_true] at q3 ⊢; exact m _ _ q3⟩) q2) q) h
theorem wt_chain {a b c : Expr} {o o' : CmpOp} {pos : Pos} {r2 r2' : D → D → Mem → QE → Prop} {Q : Bool → Mem → Prop} (op : OpB X (compareOp o) r2) (op' : OpB X (compareOp o') r2') (hm : lastMarks [o, o'] [b, c] = false)
    (h : WE X a ρ M fun d1 M1 => WE X b ρ M1 fun d2 M2 => r2 d1 d2 M2 (isB fun k M3 => Br k (WE X c ρ M3 fun d3 M4 => r2' d2 d3 M4 (isB Q)) (isB Q (.bl false) M3))) : WT X (.Compare a [o, o'] [b, c] pos) ρ M Q := fun σ H rr => by
  obtain ⟨r, h1, h2, h3⟩ := op.ex
  obtain ⟨r', h1', h2', h3'⟩ := op'.ex
  exact cT_of (pt_chain h1 h1' peC peC peC hm) (tChain_mono h2 h2' (fun v H' q => lt_of_le q) (chain_run h2 h3 h3' h rr))

/-! ### which operation, by the data -/
def int2 (f : Int → Int → D) (ok : Int → Int → Prop) : D → D → Mem → QE → Prop
  | .int i, .int j, M, Q => ok i j ∧ Q (f i j) M
  | _, _, _, _ => False
theorem opl_int {K : PySem.W.Frag} {g : Int → Int → V} {f : Int → Int → D} {ok : Int → Int → Prop} (hg : ∀ (H : Hp) i j, Den K H (f i j) (g i j)) : OpL K (fun x y H Q => ∃ i j, x = .int i ∧ y = .int j ∧ ok i j ∧ Q (g i j) H) (int2 f ok) := by
  intro d1 d2 x y H ρ σ M H0 Q a b r t h
  cases d1 <;> cases d2 <;> try exact False.elim h
  rw [den_int] at a b
  exact ⟨_, _, a, b, h.1, _, M, hg _ _ _, r, t, h.2⟩
theorem rm_int {g : Int → Int → V} {ok : Int → Int → Prop} : RMono (fun x y H Q => ∃ i j, x = .int i ∧ y = .int j ∧ ok i j ∧ Q (g i j) H) := fun _ _ _ _ _ m ⟨i, j, a, b, c, q⟩ => ⟨i, j, a, b, c, m _ _ q⟩
theorem opr_i0 {f : Value → Value → Sem Value} {g : Int → Int → V} (h : OpR X f (rI0 g)) : OpR X f (fun x y H Q => ∃ i j, x = .int i ∧ y = .int j ∧ True ∧ Q (g i j) H) := fun pins s σ H x y v u Q I rx ry ⟨i, j, a, b, _, q⟩ => h pins s σ H x y v u Q I rx ry ⟨i, j, a, b, q⟩
/-- + -/
def add2 : D → D → Mem → QE → Prop
  | .int i, .int j, M, Q => Q (.int (i + j)) M
  | .str s, .str t, M, Q => s.length + t.length ≤ sizeLine ∧ Q (.str (s ++ t)) M
  | .tup ds, .tup es, M, Q => ds.length + es.length ≤ sizeLine ∧ Q (.tup (ds ++ es)) M
  | .obj a, .obj b, M, Q => ∃ ds es, M a = some (.lst ds) ∧ M b = some (.lst es) ∧ ds.length + es.length ≤ sizeLine ∧ ∀ p, M p = none → Q (.obj p) (mup M p (.lst (ds ++ es)))
  | _, _, _, _ => False
theorem R.put {H : Hp} {σ : L2.St} {p : Addr} {o : HO} {m : MO} (r : R K ρ M σ H) (t : TK K H (upd H p o)) (n : RepO K (upd H p o) p m) : R K ρ (mup M p m) σ (upd H p o) := ⟨r.env.mono t, r.rep.put t n⟩
theorem R.newL {H : Hp} {σ : L2.St} {p : Addr} {ds : List D} {vs : List V} (r : R K ρ M σ H) (h : H p = none) (l : DenL K H ds vs) : R K ρ (mup M p (.lst ds)) σ (upd H p (.lst vs)) :=
  r.put (TK.fresh h) ⟨vs, upd_same, l.mono (TK.fresh h)⟩
theorem R.newT {H : Hp} {σ : L2.St} {p : Addr} {o : HO} (r : R K ρ M σ H) (h : H p = none) : R K ρ M σ (upd H p o) := ⟨r.env.mono (TK.fresh h), r.rep.tup h⟩
theorem den_newT {H : Hp} {p : Addr} {ds : List D} {vs : List V} (h : H p = none) (l : DenL K H ds vs) : Den K (upd H p (.tup vs)) (.tup ds) (.ref p) :=
  den_tup.mpr ⟨p, vs, rfl, .inl (.inl upd_same), l.mono (TK.fresh h)⟩
theorem Rep.lst {H : Hp} (r : Rep K H M) {a : Addr} {ds : List D} (e : M a = some (.lst ds)) : ∃ xs, H a = some (.lst xs) ∧ DenL K H ds xs := r a _ e
theorem ob_add : OpB X (binaryOp .Add) add2 := by
  refine ⟨_, opr_or op_add (opr_or op_add_str (opr_or op_catA op_cat)), ?_, ?_⟩
  · refine rm_or ?_ (rm_or ?_ (rm_or ?_ ?_))
    · rintro x y H Q Q' m ⟨i, j, a, b, q⟩; exact ⟨i, j, a, b, m _ _ q⟩
    · rintro x y H Q Q' m ⟨i, j, a, b, c, q⟩; exact ⟨i, j, a, b, c, m _ _ q⟩
    · rintro x y H Q Q' m ⟨a, b, xs, ys, c, d, e, f, g, h1, h2, h3⟩; exact ⟨a, b, xs, ys, c, d, e, f, g, fun z => m _ _ (h1 z), fun z z2 => m _ _ (h2 z z2), fun z z2 p hp => m _ _ (h3 z z2 p hp)⟩
    · rintro x y H Q Q' m ⟨a, b, xs, ys, c, d, e, f, g, h1⟩; exact ⟨a, b, xs, ys, c, d, e, f, g, fun p hp => m _ _ (h1 p hp)⟩
  · intro d1 d2 x y H ρ σ M H0 Q a b r t h
    cases d1 <;> cases d2 <;> try exact False.elim h
    · rw [den_int] at a b
      exact .inl ⟨_, _, a, b, _, M, den_int.mpr rfl, r, t, h⟩
    · rw [den_str] at a b
      exact .inr (.inl ⟨_, _, a, b, h.1, _, M, den_str.mpr rfl, r, t, h.2⟩)
    · rename_i ds es
      obtain ⟨p, xs, rfl, sp, lp⟩ := den_tup.mp a
      obtain ⟨q, ys, rfl, sq, lq⟩ := den_tup.mp b
      obtain ⟨hz, hq⟩ := h
      refine .inr (.inr (.inl ⟨p, q, xs, ys, rfl, rfl, sp, sq, by rw [lp.length, lq.length]; exact hz, fun e => ?_, fun e1 e2 => ?_, fun e1 e2 n hn => ?_⟩))
      · subst e
        have : ds = [] := List.eq_nil_of_length_eq_zero (by rw [← lp.length]; rfl)
        subst this
        exact ⟨_, M, b, r, t, hq⟩
      · subst e2
        have : es = [] := List.eq_nil_of_length_eq_zero (by rw [← lq.length]; rfl)
        subst this
        rw [List.append_nil] at hq
        exact ⟨_, M, a, r, t, hq⟩
      · exact ⟨_, M, den_newT hn (lp.append lq), r.newT hn, t.trans (TK.fresh hn), hq⟩
    · rw [den_obj] at a b
      obtain ⟨ds, es, ha, hb, hz, hq⟩ := h
      obtain ⟨xs, hxa, lx⟩ := r.rep.lst ha
      obtain ⟨ys, hyb, ly⟩ := r.rep.lst hb
      refine .inr (.inr (.inr ⟨_, _, xs, ys, a, b, hxa, hyb, by rw [lx.length, ly.length]; exact hz, fun p hp => ?_⟩))
      exact ⟨.obj p, _, den_obj.mpr rfl, r.newL hp (lx.append ly), t.trans (TK.fresh hp), hq p (r.rep.free hp)⟩
theorem ob_sub : OpB X (binaryOp .Sub) (int2 (fun i j => .int (i - j)) fun _ _ => True) := ⟨_, opr_i0 op_sub, rm_int, opl_int fun _ _ _ => den_int.mpr rfl⟩
theorem ob_mod : OpB X (binaryOp .Mod) (int2 (fun i j => .int (i.fmod j)) fun _ j => j ≠ 0) := ⟨_, op_modN, rm_int, opl_int fun _ _ _ => den_int.mpr rfl⟩
theorem ob_pow : OpB X (binaryOp .Pow) (int2 (fun i j => .int (i ^ j.toNat)) CPow) := ⟨_, op_pow, rm_int, opl_int fun _ _ _ => den_int.mpr rfl⟩
theorem ob_fdiv : OpB X (binaryOp .FloorDiv) (int2 (fun i j => .int (i / j)) CDivW) := ⟨_, op_fdivW, rm_int, opl_int fun _ _ _ => den_int.mpr rfl⟩
theorem ob_lt : OpB X (compareOp .Lt) (int2 (fun i j => .bl (decide (i < j))) fun _ _ => True) := ⟨_, opr_i0 op_lt, rm_int, opl_int fun _ _ _ => den_bl.mpr rfl⟩
theorem ob_le : OpB X (compareOp .LtE) (int2 (fun i j => .bl (decide (i ≤ j))) fun _ _ => True) := ⟨_, opr_i0 op_le, rm_int, opl_int fun _ _ _ => den_bl.mpr rfl⟩
theorem ob_gt : OpB X (compareOp .Gt) (int2 (fun i j => .bl (decide (j < i))) fun _ _ => True) := ⟨_, opr_i0 op_gt, rm_int, opl_int fun _ _ _ => den_bl.mpr rfl⟩
theorem ob_ge : OpB X (compareOp .GtE) (int2 (fun i j => .bl (decide (j ≤ i))) fun _ _ => True) := ⟨_, opr_i0 op_ge, rm_int, opl_int fun _ _ _ => den_bl.mpr rfl⟩
end
end Y

set_option Elab.async false
set_option linter.all false
set_option autoImplicit false
set_option maxRecDepth 100000
set_option maxHeartbeats 4000000
namespace Y
open PySem PySem.Spec PyProof.Rows L2
section
variable {X : Cx} {ρ : St2} {M : Mem} {N : List Str} {sc : Nms} {P : Program} {w : World} {K : PySem.W.Frag} {mg : Str → Option Value} {base : Heap} {k0 : Nat}

/-! ### equality, is None, in -/
def flatD : D → Bool
  | .non => true | .bl _ => true | .int _ => true | .str _ => true | _ => false
def toV : D → V
  | .non => .non | .bl b => .bl b | .int i => .int i | .str x => .str x | .obj a => .ref a | .ty n => .ty n | .tup _ => .non | .ro _ => .non
theorem den_flat {H : Hp} {d : D} {v : V} (f : flatD d = true) (h : Den K H d v) : v = toV d := by
  cases d <;> first | (rw [den_non] at h; exact h) | (rw [den_bl] at h; exact h) | (rw [den_int] at h; exact h) | (rw [den_str] at h; exact h) | (exact absurd f (by simp [flatD]))
def scalD (a b : D) : Bool := flatD a && flatD b && scal (toV a) (toV b)
mutual
def D.py : D → PyData
  | .non => .none | .bl b => .bool b | .int i => .int i | .str x => .str x | .tup ds => .tuple (pyL ds) | .obj _ => .none | .ty _ => .none | .ro ds => .list (pyL ds)
def pyL : List D → List PyData
  | [] => []
  | d :: ds => D.py d :: pyL ds
end
mutual
/-- data all through -/
def isDat : D → Bool
  | .tup ds => isDatL ds
  | .ro ds => isDatL ds
  | .obj _ => false
  | .ty _ => false
  | _ => true
def isDatL : List D → Bool
  | [] => true
  | d :: ds => isDat d && isDatL ds
end
mutual
theorem den_dp {H : Hp} : ∀ {d : D} {v : V}, isDat d = true → Den K H d v → Dp K H v d.py
  | .non, v, _, h => by rw [den_non.mp h]; exact .non
  | .bl _, v, _, h => by rw [den_bl.mp h]; exact .bl _
  | .int _, v, _, h => by rw [den_int.mp h]; exact .int _
  | .str _, v, _, h => by rw [den_str.mp h]; exact .str _
  | .tup ds, v, f, h => by
    obtain ⟨a, xs, rfl, s, l⟩ := den_tup.mp h
    exact .tup s (denL_dp (by simpa [isDat] using f) l)
  | .ro ds, v, f, h => by
    obtain ⟨a, xs, rfl, s, l⟩ := den_ro.mp h
    exact .lst s.l (denL_dp (by simpa [isDat] using f) l)
  | .obj _, v, f, _ => by simp [isDat] at f
  | .ty _, v, f, _ => by simp [isDat] at f
theorem denL_dp {H : Hp} : ∀ {ds : List D} {vs : List V}, isDatL ds = true → DenL K H ds vs → DpAll K H vs (pyL ds)
  | [], vs, _, h => by rw [denL_nil.mp h]; exact .nil
  | d :: ds, vs, f, h => by
    obtain ⟨v, r, rfl, a, b⟩ := denL_cons.mp h
    simp only [isDatL, Bool.and_eq_true] at f
    exact .cons (den_dp f.1 a) (denL_dp f.2 b)
end
/-- a list's items -/
def lstOf : Option MO → Option (List D)
  | some (.lst ds) => some ds
  | _ => none
theorem lst_sq {H : Hp} {σ : L2.St} (r : R K ρ M σ H) {a : Addr} {ds : List D} (h : lstOf (M a) = some ds) : ∃ xs, SqL K H a xs ∧ DenL K H ds xs := by
  cases e : M a with
  | none => rw [e] at h; cases h
  | some o =>
    rw [e] at h
    cases o with
    | lst es => cases h; obtain ⟨xs, hx, l⟩ := r.rep a _ e; exact ⟨xs, .inl (.inl hx), l⟩
    | dk _ => cases h
    | ins _ _ => cases h
/-- the data a value is, lists of the memory among it (not nested) -/
def datOf (M : Mem) : D → Option PyData
  | .obj a => (lstOf (M a)).bind fun ds => if isDatL ds = true then some (.list (pyL ds)) else none
  | d => if isDat d = true then some d.py else none
theorem datOf_dp {H : Hp} {σ : L2.St} (r : R K ρ M σ H) {d : D} {v : V} {p : PyData} (h : datOf M d = some p) (a : Den K H d v) : Dp K H v p := by
  cases d with
  | obj q =>
    rw [den_obj] at a
    subst a
    simp only [datOf] at h
    cases e : lstOf (M q) with
    | none => rw [e] at h; cases h
    | some ds =>
      rw [e, Option.bind_some] at h
      by_cases c : isDatL ds = true
      · rw [if_pos c] at h
        cases h
        obtain ⟨xs, hx, l⟩ := lst_sq r e
        exact .lst hx (denL_dp c l)
      · rw [if_neg c] at h; cases h
  | ty n => simp [datOf, isDat] at h
  | non => simp only [datOf, isDat, if_true] at h; cases h; exact den_dp rfl a
  | bl b => simp only [datOf, isDat, if_true] at h; cases h; exact den_dp rfl a
  | int i => simp only [datOf, isDat, if_true] at h; cases h; exact den_dp rfl a
  | str x => simp only [datOf, isDat, if_true] at h; cases h; exact den_dp rfl a
  | tup ds =>
    simp only [datOf] at h
    by_cases c : isDat (.tup ds) = true
    · rw [if_pos c] at h; cases h; exact den_dp c a
    · rw [if_neg c] at h; cases h
  | ro ds =>
    simp only [datOf] at h
    by_cases c : isDat (.ro ds) = true
    · rw [if_pos c] at h; cases h; exact den_dp c a
    · rw [if_neg c] at h; cases h
def eq2 (g : Bool → Bool) (d1 d2 : D) (M : Mem) (Q : QE) : Prop :=
  (scalD d1 d2 = true ∧ Q (.bl (g (decide (toV d1 = toV d2)))) M) ∨
  (∃ p q, datOf M d1 = some p ∧ datOf M d2 = some q ∧ SeqAt.shaped p = true ∧ SeqAt.shaped q = true ∧ Q (.bl (g (PyData.eqv p q))) M)
theorem opl_eq : OpL K (fun x y H Q => rEq x y H Q ∨ rEqD K x y H Q) (eq2 id) := by
  intro d1 d2 x y H ρ σ M H0 Q a b r t h
  rcases h with ⟨s, q⟩ | ⟨p, q, h1, h2, s1, s2, hq⟩
  · unfold scalD at s
    simp only [Bool.and_eq_true] at s
    rw [den_flat s.1.1 a, den_flat s.1.2 b]
    exact .inl ⟨s.2, _, M, den_bl.mpr rfl, r, t, q⟩
  · exact .inr ⟨p, q, datOf_dp r h1 a, datOf_dp r h2 b, s1, s2, _, M, den_bl.mpr rfl, r, t, hq⟩
theorem opl_ne : OpL K (fun x y H Q => rNe x y H Q ∨ rNeD K x y H Q) (eq2 not) := by
  intro d1 d2 x y H ρ σ M H0 Q a b r t h
  rcases h with ⟨s, q⟩ | ⟨p, q, h1, h2, s1, s2, hq⟩
  · unfold scalD at s
    simp only [Bool.and_eq_true] at s
    rw [den_flat s.1.1 a, den_flat s.1.2 b]
    exact .inl ⟨s.2, _, M, den_bl.mpr rfl, r, t, q⟩
  · exact .inr ⟨p, q, datOf_dp r h1 a, datOf_dp r h2 b, s1, s2, _, M, den_bl.mpr rfl, r, t, hq⟩
theorem ob_eq (C : Cxt X N sc P w K mg base k0) : OpB X (compareOp .Eq) (eq2 id) :=
  ⟨_, opr_or op_eq (op_eqD C.room.units), rm_or (fun _ _ _ _ _ m ⟨a, q⟩ => ⟨a, m _ _ q⟩) (fun _ _ _ _ _ m ⟨a, b, c, d, e, f, q⟩ => ⟨a, b, c, d, e, f, m _ _ q⟩), opl_eq⟩
theorem ob_ne (C : Cxt X N sc P w K mg base k0) : OpB X (compareOp .NotEq) (eq2 not) :=
  ⟨_, opr_or op_ne (op_neD C.room.units), rm_or (fun _ _ _ _ _ m ⟨a, q⟩ => ⟨a, m _ _ q⟩) (fun _ _ _ _ _ m ⟨a, b, c, d, e, f, q⟩ => ⟨a, b, c, d, e, f, m _ _ q⟩), opl_ne⟩
/-- x is None -/
def isNon : D → Bool
  | .non => true
  | _ => false
theorem isNon_den {H : Hp} {d : D} {x : V} (a : Den K H d x) : decide (x = .non) = isNon d := by
  cases d with
  | non => rw [den_non] at a; subst a; rfl
  | bl b => rw [den_bl] at a; subst a; rfl
  | int i => rw [den_int] at a; subst a; rfl
  | str i => rw [den_str] at a; subst a; rfl
  | ty i => rw [den_ty] at a; subst a; rfl
  | obj i => rw [den_obj] at a; subst a; rfl
  | tup i => obtain ⟨p, xs, rfl, _⟩ := den_tup.mp a; rfl
  | ro i => obtain ⟨p, xs, rfl, _⟩ := den_ro.mp a; rfl
def is2 (g : Bool → Bool) : D → D → Mem → QE → Prop
  | d, .non, M, Q => Q (.bl (g (isNon d))) M
  | _, _, _, _ => False
theorem ob_is : OpB X (compareOp .Is) (is2 id) := by
  refine ⟨_, op_isN, fun _ _ _ _ _ m ⟨a, q⟩ => ⟨a, m _ _ q⟩, ?_⟩
  intro d1 d2 x y H ρ σ M H0 Q a b r t h
  cases d2 <;> try exact False.elim h
  exact ⟨den_non.mp b, _, M, den_bl.mpr (by rw [isNon_den a] <;> rfl), r, t, h⟩
theorem ob_isnot : OpB X (compareOp .IsNot) (is2 not) := by
  refine ⟨_, op_notN, fun _ _ _ _ _ m ⟨a, q⟩ => ⟨a, m _ _ q⟩, ?_⟩
  intro d1 d2 x y H ρ σ M H0 Q a b r t h
  cases d2 <;> try exact False.elim h
  exact ⟨den_non.mp b, _, M, den_bl.mpr (by rw [isNon_den a] <;> rfl), r, t, h⟩
/-- the items of a list or tuple -/
def itemsOf (M : Mem) : D → Option (List D)
  | .tup ds => some ds
  | .ro ds => some ds
  | .obj a => lstOf (M a)
  | _ => none
theorem itemsOf_sq {H : Hp} {σ : L2.St} (r : R K ρ M σ H) {d : D} {v : V} {ds : List D} (h : itemsOf M d = some ds) (a : Den K H d v) : ∃ p xs, v = .ref p ∧ (SqL K H p xs ∨ SqT K H p xs) ∧ DenL K H ds xs := by
  cases d with
  | tup es =>
    cases h
    obtain ⟨p, xs, e, s, l⟩ := den_tup.mp a
    exact ⟨p, xs, e, .inr s, l⟩
  | ro es =>
    cases h
    obtain ⟨p, xs, e, s, l⟩ := den_ro.mp a
    exact ⟨p, xs, e, .inl s.l, l⟩
  | obj q =>
    rw [den_obj] at a
    subst a
    obtain ⟨xs, s, l⟩ := lst_sq r (show lstOf (M q) = some ds from h)
    exact ⟨q, xs, rfl, .inl s, l⟩
  | non => cases h
  | bl _ => cases h
  | int _ => cases h
  | str _ => cases h
  | ty _ => cases h
theorem flat_all {H : Hp} : ∀ {ds : List D} {xs : List V}, ds.all flatD = true → DenL K H ds xs → xs = ds.map toV
  | [], xs, _, h => denL_nil.mp h
  | d :: ds, xs, f, h => by
    obtain ⟨v, r, rfl, a, b⟩ := denL_cons.mp h
    simp only [List.all_cons, Bool.and_eq_true] at f
    rw [den_flat f.1 a, flat_all f.2 b] <;> rfl
theorem flatV_toV {d : D} (f : flatD d = true) : flatV (toV d) = true := by cases d <;> first | rfl | (exact absurd f (by simp [flatD]))
theorem flatV_all {ds : List D} (f : ds.all flatD = true) : (ds.map toV).all flatV = true := by
  rw [List.all_map]
  rw [List.all_eq_true] at f ⊢
  exact fun d hd => flatV_toV (f d hd)
def in2 (g : Bool → Bool) (d1 d2 : D) (M : Mem) (Q : QE) : Prop := ∃ ds, itemsOf M d2 = some ds ∧ flatD d1 = true ∧ ds.all flatD = true ∧ Q (.bl (g (inV (toV d1) (ds.map toV)))) M
theorem ob_in : OpB X (compareOp .In) (in2 id) := by
  refine ⟨_, op_in_seq, fun _ _ _ _ _ m ⟨p, xs, a, b, c, d, q⟩ => ⟨p, xs, a, b, c, d, m _ _ q⟩, ?_⟩
  intro d1 d2 x y H ρ σ M H0 Q a b r t h
  obtain ⟨ds, e, f, fs, q⟩ := h
  obtain ⟨p, xs, rfl, s, l⟩ := itemsOf_sq r e b
  have e1 := flat_all fs l
  subst e1
  rw [den_flat f a]
  exact ⟨p, _, rfl, s, flatV_toV f, flatV_all fs, _, M, den_bl.mpr rfl, r, t, q⟩
theorem ob_notin : OpB X (compareOp .NotIn) (in2 not) := by
  refine ⟨_, op_notIn_seq, fun _ _ _ _ _ m ⟨p, xs, a, b, c, d, q⟩ => ⟨p, xs, a, b, c, d, m _ _ q⟩, ?_⟩
  intro d1 d2 x y H ρ σ M H0 Q a b r t h
  obtain ⟨ds, e, f, fs, q⟩ := h
  obtain ⟨p, xs, rfl, s, l⟩ := itemsOf_sq r e b
  have e1 := flat_all fs l
  subst e1
  rw [den_flat f a]
  exact ⟨p, _, rfl, s, flatV_toV f, flatV_all fs, _, M, den_bl.mpr rfl, r, t, q⟩

/-! ### subscripts, slices -/
def ix2 (d1 d2 : D) (M : Mem) (Q : QE) : Prop := ∃ ds i d, itemsOf M d1 = some ds ∧ d2 = .int i ∧ atI ds i = some d ∧ Q d M
theorem DenL.atI {H : Hp} {ds : List D} {xs : List V} (l : DenL K H ds xs) {i : Int} {d : D} (h : L2.atI ds i = some d) : ∃ v, L2.atI xs i = some v ∧ Den K H d v := by
  unfold L2.atI at h ⊢
  rw [l.length]
  cases e : ixN ds.length i with
  | none => rw [e] at h; cases h
  | some j => rw [e] at h; exact l.get' h
theorem we_ix {a b : Expr} {pos : Pos} {Q : QE} (hp : PlainIx b) (h : WE X a ρ M fun d1 M1 => WE X b ρ M1 fun d2 M2 => ix2 d1 d2 M2 Q) : WE X (.Subscript a b pos) ρ M Q := fun σ H rr => by
  refine cE_of (pe_ix ix_seq peC peC hp) (we_two (r2 := ix2) ?_ h rr)
  intro d1 d2 x y H ρ σ M H0 Q a b r t h
  obtain ⟨ds, i, d, e, rfl, ha, q⟩ := h
  obtain ⟨p, xs, rfl, s, l⟩ := itemsOf_sq r e a
  obtain ⟨v, hv, dn⟩ := l.atI ha
  rw [den_int.mp b]
  rcases s with s | s
  · exact .inl ⟨p, xs, i, v, rfl, rfl, s, hv, d, M, dn, r, t, q⟩
  · exact .inr (.inl ⟨p, xs, i, v, rfl, rfl, s, hv, d, M, dn, r, t, q⟩)
def cutD (xs : List D) (lo hi : Option Int) : List D := (xs.drop (HT.sIx xs.length 0 lo)).take (HT.sIx xs.length xs.length hi - HT.sIx xs.length 0 lo)
theorem DenL.cut {H : Hp} {ds : List D} {xs : List V} (l : DenL K H ds xs) (lo hi : Option Int) : DenL K H (cutD ds lo hi) (cutV xs lo hi) := by
  unfold cutD cutV
  rw [l.length]
  exact (l.drop _).take _
/-- an optional part of a slice -/
def WO (X : Cx) (e : Option Expr) (ρ : St2) (M : Mem) (Q : Option Int → Mem → Prop) : Prop := match e with
  | none => Q none M
  | some e => WE X e ρ M fun d M1 => ∃ i, d = .int i ∧ Q (some i) M1
theorem wo_none {Q : Option Int → Mem → Prop} (q : Q none M) : WO X none ρ M Q := q
theorem wo_some {e : Expr} {Q : Option Int → Mem → Prop} (h : WE X e ρ M fun d M1 => ∃ i, d = .int i ∧ Q (some i) M1) : WO X (some e) ρ M Q := h
def tO (X : Cx) (e : Option Expr) : TO := match e with
  | none => tNoPart
  | some e => tPart (cE X e)
theorem poC {e : Option Expr} : PO X e (tO X e) := by
  cases e with
  | none => exact po_none
  | some e => exact po_some peC
theorem wo_use {e : Option Expr} {Q : Option Int → Mem → Prop} (h : WO X e ρ M Q) {σ : L2.St} {H : Hp} (r : R X.K ρ M σ H) {R' : Option Int → Hp → Prop} (m : ∀ o M' H', R X.K ρ M' σ H' → TK X.K H H' → Q o M' → R' o H') : tO X e σ H R' := by
  cases e with
  | none => exact m _ _ _ r (TK.refl _) h
  | some e =>
    refine cE_mono ?_ (h σ H r)
    rintro v H' ⟨d, M', dn, r', t, i, rfl, q⟩
    exact ⟨i, den_int.mp dn, m _ _ _ r' t q⟩
def sl2 : D → Option Int → Option Int → Mem → QE → Prop
  | .tup ds, lo, hi, M, Q => Q (.tup (cutD ds lo hi)) M
  | .obj a, lo, hi, M, Q => ∃ ds, lstOf (M a) = some ds ∧ ∀ p, M p = none → Q (.obj p) (mup M p (.lst (cutD ds lo hi)))
  | .ro ds, lo, hi, M, Q => ∀ p, M p = none → Q (.obj p) (mup M p (.lst (cutD ds lo hi)))
  | .str z, lo, hi, M, Q => z.length ≤ sizeLine ∧ Q (.str (cutS z lo hi)) M
  | _, _, _, _, _ => False
theorem whole_cut {ds : List D} {lo hi : Option Int} (h : HT.sIx ds.length 0 lo = 0 ∧ HT.sIx ds.length ds.length hi = ds.length) : cutD ds lo hi = ds := by
  unfold cutD
  rw [h.1, h.2]
  simp
theorem slr_or {r r' : V → Option Int → Option Int → Hp → VK → Prop} (h : SlR X r) (h' : SlR X r') : SlR X (fun x l u H Q => r x l u H Q ∨ r' x l u H Q) := fun pins s σ H x v vl vu lo hi sl Q I r1 a b c q =>
  q.elim (h pins s σ H x v vl vu lo hi sl Q I r1 a b c) (h' pins s σ H x v vl vu lo hi sl Q I r1 a b c)
theorem we_slice {e : Expr} {lo hi : Option Expr} {pos p2 : Pos} {Q : QE} (h : WE X e ρ M fun d M1 => WO X lo ρ M1 fun l M2 => WO X hi ρ M2 fun u M3 => sl2 d l u M3 Q) : WE X (.Subscript e (.Slice lo hi none p2) pos) ρ M Q := fun σ H rr => by
  refine cE_of (pe_slice (slr_or sl_tupA (slr_or sl_list sl_str)) peC poC poC) ?_
  refine cE_mono ?_ (h σ H rr)
  rintro x H1 ⟨d, M1, dn, r1, t1, q1⟩
  refine wo_use q1 r1 fun l M2 H2 r2 t2 q2 => wo_use q2 r2 fun u M3 H3 r3 t3 q3 => ?_
  have dn3 := dn.mono (t2.trans t3)
  have tt := (t1.trans t2).trans t3
  cases d with
  | tup ds =>
    obtain ⟨a, xs, rfl, s, dl⟩ := den_tup.mp dn3
    refine .inl ⟨a, xs, rfl, s, fun c => ?_, fun c p hp => ?_⟩
    · rw [dl.length] at c
      refine ⟨_, M3, ?_, r3, tt, q3⟩
      rw [whole_cut c]
      exact dn3
    · exact ⟨_, M3, den_newT hp (dl.cut l u), r3.newT hp, tt.trans (TK.fresh hp), q3⟩
  | obj a =>
    obtain ⟨ds, e1, q⟩ := q3
    obtain ⟨xs, sL, dl⟩ := lst_sq r3 e1
    rw [den_obj.mp dn3]
    exact .inr (.inl ⟨a, xs, rfl, sL, fun n hn => ⟨.obj n, _, den_obj.mpr rfl, r3.newL hn (dl.cut l u), tt.trans (TK.fresh hn), q n (r3.rep.free hn)⟩⟩)
  | ro ds =>
    obtain ⟨a, xs, rfl, sf, dl⟩ := den_ro.mp dn3
    exact .inr (.inl ⟨a, xs, rfl, sf.l, fun n hn => ⟨.obj n, _, den_obj.mpr rfl, r3.newL hn (dl.cut l u), tt.trans (TK.fresh hn), q3 n (r3.rep.free hn)⟩⟩)
  | str z =>
    rw [den_str.mp dn3]
    exact .inr (.inr ⟨z, rfl, q3.1, _, M3, den_str.mpr rfl, r3, tt, q3.2⟩)
  | non => exact q3.elim
  | bl _ => exact q3.elim
  | int _ => exact q3.elim
  | ty _ => exact q3.elim
end
end Y

set_option Elab.async false
set_option linter.all false
set_option autoImplicit false
set_option maxRecDepth 100000
set_option maxHeartbeats 4000000
namespace Y
open PySem PySem.Spec PyProof.Rows L2
section
variable {X : Cx} {ρ : St2} {M : Mem} {N : List Str} {sc : Nms} {P : Program} {w : World} {K : PySem.W.Frag} {mg : Str → Option Value} {base : Heap} {k0 : Nat}

theorem nodup_ix {N : List Str} (nd : N.Nodup) {i j : Nat} {x : Str} (a : N[i]? = some x) (b : N[j]? = some x) : i = j := by
  obtain ⟨hi, ei⟩ := List.getElem?_eq_some_iff.mp a
  obtain ⟨hj, ej⟩ := List.getElem?_eq_some_iff.mp b
  have pw := List.pairwise_iff_getElem.mp nd
  rcases Nat.lt_trichotomy i j with l | l | l
  · exact absurd (ei.trans ej.symm) (pw i j hi hj l)
  · exact l
  · exact absurd (ej.trans ei.symm) (pw j i hj hi l)
/-! ### arguments, displays -/
theorem wa_nil {Q : List D → Mem → Prop} (q : Q [] M) : WA X [] ρ M Q := fun σ H r => cA_of pa_nil ⟨[], M, DenL.nil, r, TK.refl _, q⟩
theorem wa_cons {e : Expr} {es : List Expr} {Q : List D → Mem → Prop} (hs : starEach (e :: es) X.env = (false, eval e X.env) :: starEach es X.env)
    (h : WE X e ρ M fun d M1 => WA X es ρ M1 fun ds M2 => Q (d :: ds) M2) : WA X (e :: es) ρ M Q := fun σ H r => by
  refine cA_of (pa_cons peC paC hs) ?_
  refine cE_mono ?_ (h σ H r)
  rintro x H1 ⟨d, M1, dn, r1, t1, q1⟩
  refine cA_mono ?_ (q1 σ H1 r1)
  rintro xs H2 ⟨ds, M2, dn2, r2, t2, q2⟩
  exact ⟨d :: ds, M2, DenL.cons (dn.mono t2) dn2, r2, t1.trans t2, q2⟩
/-- *e among the arguments or items -/
theorem wa_star {e : Expr} {es : List Expr} {p : Pos} {Q : List D → Mem → Prop} (hs : starEach (.Starred e p :: es) X.env = (true, eval e X.env) :: starEach es X.env)
    (h : WE X e ρ M fun d M1 => ∃ ds, itemsOf M1 d = some ds ∧ WA X es ρ M1 fun es M2 => Q (ds ++ es) M2) : WA X (.Starred e p :: es) ρ M Q := fun σ H r => by
  refine cA_of (StX.pa_star peC paC hs) ?_
  refine cE_mono ?_ (h σ H r)
  rintro x H1 ⟨d, M1, dn, r1, t1, ds, e1, q1⟩
  obtain ⟨a, xs, rfl, s, l⟩ := itemsOf_sq r1 e1 dn
  refine ⟨a, xs, rfl, s.symm, ?_⟩
  refine cA_mono ?_ (q1 σ H1 r1)
  rintro ys H2 ⟨es, M2, dn2, r2, t2, q2⟩
  exact ⟨ds ++ es, M2, (l.mono t2).append dn2, r2, t1.trans t2, q2⟩
theorem we_tup {es : List Expr} {x1 : Nat} {pos : Pos} {Q : QE} (h : WA X es ρ M fun ds M1 => ds.length ≤ sizeLine ∧ Q (.tup ds) M1) : WE X (.Tuple es x1 pos) ρ M Q := fun σ H r => by
  refine cE_of (pe_tup paC) ?_
  refine cA_mono ?_ (h σ H r)
  rintro xs H1 ⟨ds, M1, dn, r1, t1, z, q⟩
  exact ⟨by rw [dn.length]; exact z, fun p hp => ⟨_, M1, den_newT hp dn, r1.newT hp, t1.trans (TK.fresh hp), q⟩⟩
theorem we_lst {es : List Expr} {pos : Pos} {Q : QE} (h : WA X es ρ M fun ds M1 => ds.length ≤ sizeLine ∧ ∀ p, M1 p = none → Q (.obj p) (mup M1 p (.lst ds))) : WE X (.List es pos) ρ M Q := fun σ H r => by
  refine cE_of (pe_lst paC) ?_
  refine cA_mono ?_ (h σ H r)
  rintro xs H1 ⟨ds, M1, dn, r1, t1, z, q⟩
  exact ⟨by rw [dn.length]; exact z, fun p hp => ⟨.obj p, _, den_obj.mpr rfl, r1.newL hp dn, t1.trans (TK.fresh hp), q p (r1.rep.free hp)⟩⟩

/-! ### truth, and, or, not, if else -/
/-- a value's truth -/
def truD : D → Mem → Option Bool
  | .non, _ => some false
  | .bl b, _ => some b
  | .int i, _ => some (i != 0)
  | .tup ds, _ => some (!ds.isEmpty)
  | .ro ds, _ => some (!ds.isEmpty)
  | .obj a, M => (lstOf (M a)).map fun ds => !ds.isEmpty
  | _, _ => none
theorem truV_of {H : Hp} {σ : L2.St} {d : D} {v : V} {k : Bool} (r : R K ρ M σ H) (a : Den K H d v) (h : truD d M = some k) : TruV K v H k := by
  cases d with
  | non => cases h; rw [den_non.mp a]; rfl
  | bl b => cases h; rw [den_bl.mp a]; rfl
  | int i => cases h; rw [den_int.mp a]; rfl
  | str _ => cases h
  | ty _ => cases h
  | tup ds =>
    cases h
    obtain ⟨p, xs, rfl, s, l⟩ := den_tup.mp a
    refine .inr (.inl ⟨xs, s, ?_⟩)
    cases ds with
    | nil => rw [denL_nil.mp l] <;> rfl
    | cons d ds => obtain ⟨v, r, rfl, _⟩ := denL_cons.mp l; rfl
  | ro ds =>
    cases h
    obtain ⟨p, xs, rfl, s, l⟩ := den_ro.mp a
    refine .inl ⟨xs, s.l, ?_⟩
    cases ds with
    | nil => rw [denL_nil.mp l] <;> rfl
    | cons d ds => obtain ⟨v, r, rfl, _⟩ := denL_cons.mp l; rfl
  | obj q =>
    rw [den_obj.mp a]
    simp only [truD] at h
    cases e : lstOf (M q) with
    | none => rw [e] at h; cases h
    | some ds =>
      rw [e] at h
      cases h
      obtain ⟨xs, s, l⟩ := lst_sq r e
      refine .inl ⟨xs, s, ?_⟩
      cases ds with
      | nil => rw [denL_nil.mp l] <;> rfl
      | cons d ds => obtain ⟨v, r, rfl, _⟩ := denL_cons.mp l; rfl
theorem wt_truth {e : Expr} {Q : Bool → Mem → Prop} (hp : ∀ whole, isTrue e X.env whole = (do let v ← whole; standAt e.pos; holding [v] (truthy v))) (h : WE X e ρ M fun d M1 => ∃ k, truD d M1 = some k ∧ Q k M1) : WT X e ρ M Q := fun σ H r => by
  refine cT_of (pt_truth peC hp) ?_
  refine cE_mono ?_ (h σ H r)
  rintro v H1 ⟨d, M1, dn, r1, t1, k, e1, q⟩
  exact ⟨k, truV_of r1 dn e1, M1, r1, t1, q⟩
theorem wt_not {a : Expr} {pos : Pos} {Q : Bool → Mem → Prop} (h : WT X a ρ M fun b M1 => Q (!b) M1) : WT X (.UnaryOp .Not a pos) ρ M Q := fun σ H r => cT_of (pt_not ptC) (h σ H r)
theorem ww_and1 {a : Expr} {pos : Pos} {Q : Bool → Mem → Prop} (h : WT X a ρ M Q) : WW X (.BoolOp .And [a] pos) ρ M Q := fun σ H r => cW_of (pw_and1 ptC) (h σ H r)
theorem ww_or1 {a : Expr} {pos : Pos} {Q : Bool → Mem → Prop} (h : WT X a ρ M Q) : WW X (.BoolOp .Or [a] pos) ρ M Q := fun σ H r => cW_of (pw_or1 ptC) (h σ H r)
theorem ww_and {a b : Expr} {rest : List Expr} {pos : Pos} {Q : Bool → Mem → Prop} (h : WT X a ρ M fun k M1 => Br k (WW X (.BoolOp .And (b :: rest) pos) ρ M1 Q) (Q false M1)) : WW X (.BoolOp .And (a :: b :: rest) pos) ρ M Q := fun σ H r => by
  refine cW_of (pw_and ptC pwC) ?_
  refine cT_mono ?_ (h σ H r)
  rintro k H1 ⟨M1, r1, t1, br⟩
  refine Br.ite (Br.mono br (fun z => cW_mono ?_ (z σ H1 r1)) fun z => ⟨M1, r1, t1, z⟩)
  rintro v H2 ⟨M2, r2, t2, q⟩
  exact ⟨M2, r2, t1.trans t2, q⟩
theorem ww_or {a b : Expr} {rest : List Expr} {pos : Pos} {Q : Bool → Mem → Prop} (h : WT X a ρ M fun k M1 => Br k (Q true M1) (WW X (.BoolOp .Or (b :: rest) pos) ρ M1 Q)) : WW X (.BoolOp .Or (a :: b :: rest) pos) ρ M Q := fun σ H r => by
  refine cW_of (pw_or ptC pwC) ?_
  refine cT_mono ?_ (h σ H r)
  rintro k H1 ⟨M1, r1, t1, br⟩
  refine Br.ite (Br.mono br (fun z => ⟨M1, r1, t1, z⟩) fun z => cW_mono ?_ (z σ H1 r1))
  rintro v H2 ⟨M2, r2, t2, q⟩
  exact ⟨M2, r2, t1.trans t2, q⟩
theorem wt_bool {op : BoolOp} {es : List Expr} {pos : Pos} {Q : Bool → Mem → Prop} (h : WW X (.BoolOp op es pos) ρ M Q) : WT X (.BoolOp op es pos) ρ M Q := fun σ H r => cT_of (PW.pt pwC) (h σ H r)
/-- and, or as values: all but the last are truth values -/
theorem we_and {a b : Expr} {rest : List Expr} {pos : Pos} {Q : QE} (h : WE X a ρ M (isB fun k M1 => Br k (WE X (.BoolOp .And (b :: rest) pos) ρ M1 Q) (Q (.bl false) M1))) : WE X (.BoolOp .And (a :: b :: rest) pos) ρ M Q := fun σ H r => by
  refine cE_of (pe_and peC peC) ?_
  refine cE_mono ?_ (h σ H r)
  rintro v H1 ⟨d, M1, dn, r1, t1, k, rfl, br⟩
  refine ⟨k, den_bl.mp dn, Br.ite (Br.mono br (fun z => cE_mono ?_ (z σ H1 r1)) fun z => ⟨_, M1, den_bl.mpr rfl, r1, t1, z⟩)⟩
  rintro u H2 ⟨d2, M2, dn2, r2, t2, q⟩
  exact ⟨d2, M2, dn2, r2, t1.trans t2, q⟩
theorem we_or {a b : Expr} {rest : List Expr} {pos : Pos} {Q : QE} (h : WE X a ρ M (isB fun k M1 => Br k (Q (.bl true) M1) (WE X (.BoolOp .Or (b :: rest) pos) ρ M1 Q))) : WE X (.BoolOp .Or (a :: b :: rest) pos) ρ M Q := fun σ H r => by
  refine cE_of (pe_or peC peC) ?_
  refine cE_mono ?_ (h σ H r)
  rintro v H1 ⟨d, M1, dn, r1, t1, k, rfl, br⟩
  refine ⟨k, den_bl.mp dn, Br.ite (Br.mono br (fun z => ⟨_, M1, den_bl.mpr rfl, r1, t1, z⟩) fun z => cE_mono ?_ (z σ H1 r1))⟩
  rintro u H2 ⟨d2, M2, dn2, r2, t2, q⟩
  exact ⟨d2, M2, dn2, r2, t1.trans t2, q⟩
theorem we_one {op : BoolOp} {a : Expr} {pos : Pos} {Q : QE} (h : WE X a ρ M Q) : WE X (.BoolOp op [a] pos) ρ M Q := fun σ H r => cE_of (pe_one peC) (h σ H r)
theorem we_not {a : Expr} {pos : Pos} {Q : QE} (h : WE X a ρ M (isB fun k M1 => Q (.bl (!k)) M1)) : WE X (.UnaryOp .Not a pos) ρ M Q := fun σ H r => by
  refine cE_of (pe_not peC) ?_
  refine cE_mono ?_ (h σ H r)
  rintro v H1 ⟨d, M1, dn, r1, t1, k, rfl, q⟩
  exact ⟨k, den_bl.mp dn, _, M1, den_bl.mpr rfl, r1, t1, q⟩
theorem we_neg {a : Expr} {pos : Pos} {Q : QE} (h : WE X a ρ M fun d M1 => ∃ i, d = .int i ∧ Q (.int (-i)) M1) : WE X (.UnaryOp .USub a pos) ρ M Q := fun σ H r => by
  refine cE_of (pe_un un_neg peC) ?_
  refine cE_mono ?_ (h σ H r)
  rintro v H1 ⟨d, M1, dn, r1, t1, i, rfl, q⟩
  exact ⟨i, den_int.mp dn, _, M1, den_int.mpr rfl, r1, t1, q⟩
theorem we_if {c a b : Expr} {pos : Pos} {Q : QE} (h : WT X c ρ M fun k M1 => Br k (WE X a ρ M1 Q) (WE X b ρ M1 Q)) : WE X (.IfExp c a b pos) ρ M Q := fun σ H r => by
  refine cE_of (pe_ifExp ptC peC peC) ?_
  refine cT_mono ?_ (h σ H r)
  rintro k H1 ⟨M1, r1, t1, br⟩
  refine Br.ite (Br.mono br (fun z => cE_mono ?_ (z σ H1 r1)) fun z => cE_mono ?_ (z σ H1 r1))
  all_goals
    rintro u H2 ⟨d2, M2, dn2, r2, t2, q⟩
    exact ⟨d2, M2, dn2, r2, t1.trans t2, q⟩

/-! ### calls of what is built in -/
def CallL (K : PySem.W.Frag) (r : List V → Hp → VK → Prop) (c2 : List D → Mem → QE → Prop) : Prop := ∀ (ds : List D) (vs : List V) (H : Hp) (ρ : St2) (σ : L2.St) (M : Mem) (H0 : Hp) (Q : QE), DenL K H ds vs → R K ρ M σ H → TK K H0 H → c2 ds M Q → r vs H (LE K ρ σ H0 Q)
theorem we_callB (C : Cxt X N sc P w K mg base k0) {x : Str} {p pos : Pos} {e : Expr} {es : List Expr} {id : String} {r : List V → Hp → VK → Prop} {c2 : List D → Mem → QE → Prop} {Q : QE} (hr : CallR X (.builtin id) r) (hl : CallL K r c2) (hg : (x : Str) ∈ sc.g) (hm : mg x = none) (hv : bootBuiltins x = some (.builtin id))
    (hs : starEach (e :: es) X.env = (false, eval e X.env) :: starEach es X.env) (hn : ∀ pos, (backTo pos (starEach es X.env)).any (·.1) = false) (h : WA X (e :: es) ρ M fun ds M1 => c2 ds M1 Q) : WE X (.Call (.Name x p) (e :: es) [] pos) ρ M Q := fun σ H rr => by
  obtain rfl := C.hmg
  obtain rfl := C.hK
  refine cE_of (pe_callB hr (C.gl x hg).1 hm hv paC (C.gl _ hg).2.2 (C.gl _ hg).2.1 hs (hn pos)) ?_
  refine cA_mono ?_ (h σ H rr)
  rintro vs H1 ⟨ds, M1, dn, r1, t1, q⟩
  exact hl ds vs H1 ρ σ M1 H Q dn r1 t1 q
theorem we_callT (C : Cxt X N sc P w K mg base k0) {x : Str} {p pos : Pos} {e : Expr} {es : List Expr} {T : String} {r : List V → Hp → VK → Prop} {c2 : List D → Mem → QE → Prop} {Q : QE} (hr : CallR X (.type T) r) (hl : CallL K r c2) (hg : (x : Str) ∈ sc.g) (hm : mg x = none) (hv : bootBuiltins x = some (.type T))
    (hs : starEach (e :: es) X.env = (false, eval e X.env) :: starEach es X.env) (hn : ∀ pos, (backTo pos (starEach es X.env)).any (·.1) = false) (h : WA X (e :: es) ρ M fun ds M1 => c2 ds M1 Q) : WE X (.Call (.Name x p) (e :: es) [] pos) ρ M Q := fun σ H rr => by
  obtain rfl := C.hmg
  obtain rfl := C.hK
  refine cE_of (pe_callTy hr (C.gl x hg).1 hm hv paC (C.gl _ hg).2.2 (C.gl _ hg).2.1 hs (hn pos)) ?_
  refine cA_mono ?_ (h σ H rr)
  rintro vs H1 ⟨ds, M1, dn, r1, t1, q⟩
  exact hl ds vs H1 ρ σ M1 H Q dn r1 t1 q
theorem one_arg {H : Hp} {ds : List D} {vs : List V} {d : D} (h : DenL K H [d] vs) : ∃ v, vs = [v] ∧ Den K H d v := by
  obtain ⟨v, r, rfl, a, b⟩ := denL_cons.mp h
  rw [denL_nil.mp b]
  exact ⟨v, rfl, a⟩
theorem two_args {H : Hp} {vs : List V} {d e : D} (h : DenL K H [d, e] vs) : ∃ v u, vs = [v, u] ∧ Den K H d v ∧ Den K H e u := by
  obtain ⟨v, r, rfl, a, b⟩ := denL_cons.mp h
  obtain ⟨u, s, rfl, a2, b2⟩ := denL_cons.mp b
  rw [denL_nil.mp b2]
  exact ⟨v, u, rfl, a, a2⟩
def len2 (ds : List D) (M : Mem) (Q : QE) : Prop := ∃ d es, ds = [d] ∧ itemsOf M d = some es ∧ Q (.int (es.length : Nat)) M
theorem cl_len : CallL K (fun xs H Q => ∃ p ys, xs = [V.ref p] ∧ (SqL K H p ys ∨ SqT K H p ys) ∧ Q (.int (ys.length : Nat)) H) len2 := by
  rintro ds vs H ρ σ M H0 Q dn r t ⟨d, es, rfl, e, q⟩
  obtain ⟨v, rfl, a⟩ := one_arg (ds := []) dn
  obtain ⟨p, xs, rfl, s, l⟩ := itemsOf_sq r e a
  exact ⟨p, xs, rfl, s, _, M, den_int.mpr (by rw [l.length]), r, t, q⟩
def int1 (ds : List D) (M : Mem) (Q : QE) : Prop := ∃ i, ds = [.int i] ∧ Q (.int i) M
theorem cl_int : CallL K (fun xs H Q => (∃ i, xs = [V.int i] ∧ Q (V.int i) H) ∨ ∃ k, xs = [V.bl k] ∧ Q (V.int (if k = true then 1 else 0)) H) int1 := by
  rintro ds vs H ρ σ M H0 Q dn r t ⟨i, rfl, q⟩
  obtain ⟨v, rfl, a⟩ := one_arg (ds := []) dn
  exact .inl ⟨i, by rw [den_int.mp a], _, M, den_int.mpr rfl, r, t, q⟩
def abs1 (ds : List D) (M : Mem) (Q : QE) : Prop := ∃ i, ds = [.int i] ∧ Q (.int (if i < 0 then -i else i)) M
theorem cl_abs : CallL K (fun xs H Q => ∃ i, xs = [V.int i] ∧ Q (V.int (if i < 0 then -i else i)) H) abs1 := by
  rintro ds vs H ρ σ M H0 Q dn r t ⟨i, rfl, q⟩
  obtain ⟨v, rfl, a⟩ := one_arg (ds := []) dn
  exact ⟨i, by rw [den_int.mp a], _, M, den_int.mpr rfl, r, t, q⟩
def min2i (ds : List D) (M : Mem) (Q : QE) : Prop := ∃ i j, ds = [.int i, .int j] ∧ Q (.int (if j < i then j else i)) M
def max2i (ds : List D) (M : Mem) (Q : QE) : Prop := ∃ i j, ds = [.int i, .int j] ∧ Q (.int (if j > i then j else i)) M
theorem cl_min2 : CallL K (fun xs H Q => ∃ i j, xs = [V.int i, V.int j] ∧ Q (V.int (if j < i then j else i)) H) min2i := by
  rintro ds vs H ρ σ M H0 Q dn r t ⟨i, j, rfl, q⟩
  obtain ⟨v, u, rfl, a, b⟩ := two_args dn
  exact ⟨i, j, by rw [den_int.mp a, den_int.mp b], _, M, den_int.mpr rfl, r, t, q⟩
theorem cl_max2 : CallL K (fun xs H Q => ∃ i j, xs = [V.int i, V.int j] ∧ Q (V.int (if j > i then j else i)) H) max2i := by
  rintro ds vs H ρ σ M H0 Q dn r t ⟨i, j, rfl, q⟩
  obtain ⟨v, u, rfl, a, b⟩ := two_args dn
  exact ⟨i, j, by rw [den_int.mp a, den_int.mp b], _, M, den_int.mpr rfl, r, t, q⟩
def tuple1 (ds : List D) (M : Mem) (Q : QE) : Prop := ∃ d es, ds = [d] ∧ itemsOf M d = some es ∧ Q (.tup es) M
theorem cl_tuple : CallL K (fun xs H Q => ∃ p ys, xs = [V.ref p] ∧ ((SqL K H p ys ∧ ∀ (l : Addr), H l = none → Q (V.ref l) (upd H l (HO.tup ys))) ∨ SqT K H p ys ∧ Q (V.ref p) H)) tuple1 := by
  rintro ds vs H ρ σ M H0 Q dn r t ⟨d, es, rfl, e, q⟩
  obtain ⟨v, rfl, a⟩ := one_arg (ds := []) dn
  obtain ⟨p, xs, rfl, s, l⟩ := itemsOf_sq r e a
  refine ⟨p, xs, rfl, ?_⟩
  rcases s with s | s
  · exact .inl ⟨s, fun n hn => ⟨_, M, den_newT hn l, r.newT hn, t.trans (TK.fresh hn), q⟩⟩
  · exact .inr ⟨s, _, M, den_tup.mpr ⟨p, xs, rfl, s, l⟩, r, t, q⟩
def list1 (ds : List D) (M : Mem) (Q : QE) : Prop := ∃ d es, ds = [d] ∧ itemsOf M d = some es ∧ ∀ p, M p = none → Q (.obj p) (mup M p (.lst es))
theorem cl_list : CallL K (fun xs H Q => ∃ p ys, xs = [V.ref p] ∧ (SqL K H p ys ∨ SqT K H p ys) ∧ ∀ (l : Addr), H l = none → Q (V.ref l) (upd H l (HO.lst ys))) list1 := by
  rintro ds vs H ρ σ M H0 Q dn r t ⟨d, es, rfl, e, q⟩
  obtain ⟨v, rfl, a⟩ := one_arg (ds := []) dn
  obtain ⟨p, xs, rfl, s, l⟩ := itemsOf_sq r e a
  exact ⟨p, xs, rfl, s, fun n hn => ⟨.obj n, _, den_obj.mpr rfl, r.newL hn l, t.trans (TK.fresh hn), q n (r.rep.free hn)⟩⟩
/-- of a list of ints -/
def intsOf (M : Mem) (d : D) (ns : List Int) : Prop := ∃ a, d = .obj a ∧ lstOf (M a) = some (ns.map D.int)
theorem ints_sq {H : Hp} {σ : L2.St} (r : R K ρ M σ H) {d : D} {v : V} {ns : List Int} (h : intsOf M d ns) (a : Den K H d v) : ∃ p, v = .ref p ∧ SqL K H p (ns.map V.int) := by
  obtain ⟨p, rfl, e⟩ := h
  obtain ⟨xs, s, l⟩ := lst_sq r e
  rw [l.ints] at s
  exact ⟨p, den_obj.mp a, s⟩
def sum1 (ds : List D) (M : Mem) (Q : QE) : Prop := ∃ d ns, ds = [d] ∧ intsOf M d ns ∧ Q (.int ns.sum) M
theorem cl_sum : CallL K (rSum K) sum1 := by
  rintro ds vs H ρ σ M H0 Q dn r t ⟨d, ns, rfl, e, q⟩
  obtain ⟨v, rfl, a⟩ := one_arg (ds := []) dn
  obtain ⟨p, rfl, s⟩ := ints_sq r e a
  exact ⟨p, ns, rfl, s, _, M, den_int.mpr rfl, r, t, q⟩
def min1 (ds : List D) (M : Mem) (Q : QE) : Prop := ∃ d ns, ds = [d] ∧ intsOf M d ns ∧ 0 < ns.length ∧ ∀ m, m ∈ ns → (∀ y, y ∈ ns → m ≤ y) → Q (.int m) M
theorem cl_min : CallL K (rMin K) min1 := by
  rintro ds vs H ρ σ M H0 Q dn r t ⟨d, ns, rfl, e, hl, q⟩
  obtain ⟨v, rfl, a⟩ := one_arg (ds := []) dn
  obtain ⟨p, rfl, s⟩ := ints_sq r e a
  exact ⟨p, ns, rfl, s, hl, fun m h1 h2 => ⟨_, M, den_int.mpr rfl, r, t, q m h1 h2⟩⟩
def max1 (ds : List D) (M : Mem) (Q : QE) : Prop := ∃ d ns, ds = [d] ∧ intsOf M d ns ∧ 0 < ns.length ∧ ∀ m, m ∈ ns → (∀ y, y ∈ ns → y ≤ m) → Q (.int m) M
theorem cl_max : CallL K (rMax K) max1 := by
  rintro ds vs H ρ σ M H0 Q dn r t ⟨d, ns, rfl, e, hl, q⟩
  obtain ⟨v, rfl, a⟩ := one_arg (ds := []) dn
  obtain ⟨p, rfl, s⟩ := ints_sq r e a
  exact ⟨p, ns, rfl, s, hl, fun m h1 h2 => ⟨_, M, den_int.mpr rfl, r, t, q m h1 h2⟩⟩
theorem DenL.bls {H : Hp} : ∀ {bs : List Bool} {vs : List V}, DenL K H (bs.map D.bl) vs → vs = bs.map V.bl
  | [], vs, h => denL_nil.mp h
  | n :: ns, vs, h => by
    obtain ⟨w, r, rfl, a', b⟩ := denL_cons.mp h
    rw [den_bl.mp a', DenL.bls b] <;> rfl
def all1 (ds : List D) (M : Mem) (Q : QE) : Prop := ∃ (a : Addr) (bs : List Bool), ds = [.obj a] ∧ lstOf (M a) = some (bs.map D.bl) ∧ Q (.bl (bs.all id)) M
def any1 (ds : List D) (M : Mem) (Q : QE) : Prop := ∃ (a : Addr) (bs : List Bool), ds = [.obj a] ∧ lstOf (M a) = some (bs.map D.bl) ∧ Q (.bl (bs.any id)) M
theorem cl_all : CallL K (rAll K) all1 := by
  rintro ds vs H ρ σ M H0 Q dn r t ⟨p, bs, rfl, e, q⟩
  obtain ⟨v, rfl, a⟩ := one_arg (ds := []) dn
  obtain ⟨xs, s, l⟩ := lst_sq r e
  rw [l.bls] at s
  exact ⟨p, bs, by rw [den_obj.mp a], s, _, M, den_bl.mpr rfl, r, t, q⟩
theorem cl_any : CallL K (rAny K) any1 := by
  rintro ds vs H ρ σ M H0 Q dn r t ⟨p, bs, rfl, e, q⟩
  obtain ⟨v, rfl, a⟩ := one_arg (ds := []) dn
  obtain ⟨xs, s, l⟩ := lst_sq r e
  rw [l.bls] at s
  exact ⟨p, bs, by rw [den_obj.mp a], s, _, M, den_bl.mpr rfl, r, t, q⟩
/-- isinstance(d, T), T built in -/
def tyD : D → Mem → Option String
  | .non, _ => some "NoneType" | .bl _, _ => some "bool" | .int _, _ => some "int" | .str _, _ => some "str" | .tup _, _ => some "tuple" | .ro _, _ => some "list"
  | .obj a, M => match M a with
    | some (.lst _) => some "list"
    | some (.dk _) => some "dict"
    | _ => none
  | .ty _, _ => none
theorem tyX_of {H : Hp} {σ : L2.St} {d : D} {v : V} {T : String} (r : R K ρ M σ H) (a : Den K H d v) (h : tyD d M = some T) : TyX K H v (.type T) := by
  cases d with
  | non => cases h; rw [den_non.mp a]; exact .base .non
  | bl b => cases h; rw [den_bl.mp a]; exact .base (.bl _)
  | int i => cases h; rw [den_int.mp a]; exact .base (.int _)
  | str i => cases h; rw [den_str.mp a]; exact .base (.str _)
  | ty i => cases h
  | tup ds =>
    cases h
    obtain ⟨p, xs, rfl, s, l⟩ := den_tup.mp a
    rcases s with (s | ⟨o, s⟩) | ⟨o, its, n, h1, h2, h3, _⟩
    · exact .base (.tup s)
    · exact .fTuple s
    · exact .kTuple h1 h2
  | ro ds =>
    cases h
    obtain ⟨p, xs, rfl, s, l⟩ := den_ro.mp a
    rcases s with ⟨o, s⟩ | ⟨o, its, n, h1, h2, _⟩
    · exact .base (.frz s)
    · exact .kList h1 h2
  | obj p =>
    rw [den_obj.mp a]
    simp only [tyD] at h
    cases e : M p with
    | none => rw [e] at h; cases h
    | some o =>
      rw [e] at h
      cases o with
      | lst ds => cases h; obtain ⟨xs, hx, _⟩ := r.rep p _ e; exact .base (.lst hx)
      | dk ds => cases h; obtain ⟨xs, hx, _⟩ := r.rep p _ e; exact .base (.dK hx)
      | ins _ _ => cases h
/-- isinstance(x, (c1, c2, ..)), however the tuple stands -/
def rIsiS (K : PySem.W.Frag) : List V → Hp → VK → Prop := fun xs H Q => ∃ (x : V) (tp : Addr) (cs : List V) (t : Value) (us : List Value) (b : Bool), xs = [x, .ref tp] ∧ SqT K H tp cs ∧ Paired ClsV cs us ∧ TyX K H x t ∧ PySem.W.kitAny K t us = some b ∧ Q (.bl b) H
theorem call_isiS {X : Cx} : CallR X (.builtin "isinstance") (rIsiS X.K) := by
  intro pins s σ H xs us Q I r h
  obtain ⟨x, tp, cs, t, ws, b, rfl, hT, k, ty, e, q⟩ := h
  obtain ⟨u1, u2, rfl, r1, r2⟩ := vals2 r
  cases (show u2 = Value.ref tp from r2)
  obtain ⟨P, Z, p, hx⟩ := kit_of I r1 ty
  obtain ⟨its, rv, ⟨o, h1, h2, n, h3⟩, _⟩ := I.tuple hT
  have e3 := ClsV.all k rv
  subst e3
  obtain ⟨oc, od, dt, sl⟩ := o
  simp only at h2 h3
  subst h2 h3
  exact PySem.W.kia_tup Z I.kIn p h1 e hx fun tk => ⟨.bl b, H, I.tok tk, rfl, q⟩
def kitAnyB (S : String) : List String → Option Bool
  | [] => some false
  | T :: Ts => match kitB S T with
    | some true => some true
    | some false => kitAnyB S Ts
    | none => none
theorem kitAnyB_of {K : PySem.W.Frag} {S : String} : ∀ {Ts : List String} {b : Bool}, kitAnyB S Ts = some b → PySem.W.kitAny K (.type S) (Ts.map Value.type) = some b ∨ kitAnyB S Ts = none
  | [], b, h => .inl (by cases h; exact kitAny_nil)
  | T :: Ts, b, h => by
    unfold kitAnyB at h
    cases e : kitB S T with
    | none => rw [e] at h; cases h
    | some c =>
      rw [e] at h
      cases c with
      | true => cases h; exact .inl (by
          show PySem.W.kitAny K _ (_ :: _) = _
          unfold PySem.W.kitAny; rw [kit_ty e])
      | false =>
        rcases kitAnyB_of (K := K) h with z | z
        · exact .inl (kitAny_cons (kit_ty e) (fun _ => z) (fun z => nomatch z))
        · rw [z] at h; cases h
theorem cls_tys {K : PySem.W.Frag} {H : Hp} : ∀ {Ts : List String} {vs : List V}, DenL K H (Ts.map D.ty) vs → Paired ClsV vs (Ts.map Value.type)
  | [], vs, h => by rw [denL_nil.mp h]; exact .nil
  | T :: Ts, vs, h => by
    obtain ⟨v, r, rfl, a, b⟩ := denL_cons.mp h
    rw [den_ty.mp a]
    exact .cons (.ty T) (cls_tys b)
def isi2 (ds : List D) (M : Mem) (Q : QE) : Prop := (∃ d T S b, ds = [d, .ty T] ∧ tyD d M = some S ∧ kitB S T = some b ∧ Q (.bl b) M) ∨ ∃ d Ts S b, ds = [d, .tup (Ts.map D.ty)] ∧ tyD d M = some S ∧ kitAnyB S Ts = some b ∧ Q (.bl b) M
theorem cl_isi : CallL K (fun xs H Q => rIsi K xs H Q ∨ rIsiS K xs H Q) isi2 := by
  rintro ds vs H ρ σ M H0 Q dn r t (⟨d, T, S, b, rfl, e, kb, q⟩ | ⟨d, T, S, b, rfl, e, kb, q⟩)
  · obtain ⟨v, u, rfl, a1, a2⟩ := two_args dn
    exact .inl ⟨v, .ty T, _, _, b, by rw [den_ty.mp a2], .ty T, tyX_of r a1 e, kit_ty kb, _, M, den_bl.mpr rfl, r, t, q⟩
  · obtain ⟨v, u, rfl, a1, a2⟩ := two_args dn
    obtain ⟨p, xs, rfl, s, l⟩ := den_tup.mp a2
    rcases kitAnyB_of (K := K) kb with z | z
    · exact .inr ⟨v, p, xs, _, _, b, rfl, s, cls_tys l, tyX_of r a1 e, z, _, M, den_bl.mpr rfl, r, t, q⟩
    · rw [z] at kb; cases kb

theorem sw_pair {env : Env} {x y : Str} {px py pt pt2 : Pos} {kt k2} {a b : Expr} (hk : env.blockKind = .function) (hx : env.scope.names.lookup x = some .local) (hy : env.scope.names.lookup y = some .local)
    (hl : (py.line == px.line) = true) (hne : ([x, y].eraseDups.length != 2) = false) (h1 : ([a, b].any fun | .Starred .. => true | _ => false) = false) (h2 : [a, b].all (foldedForSure 8) = false) (h3 : [a, b].all (constantsAlone 8) = false) :
    swappedStores [.Tuple [.Name x px, .Name y py] kt pt] (.Tuple [a, b] k2 pt2) env = pure (some [x, y]) := by
  have kx : env.kindOf x = some .local := hx
  have ky : env.kindOf y = some .local := hy
  have hl' : py.line = px.line := by simpa using hl
  have hne' : [x, y].eraseDups.length = 2 := by simpa using hne
  simp only [List.any_cons, List.any_nil, Bool.or_false, Bool.or_eq_false_iff] at h1
  simp only [List.all_cons, List.all_nil, Bool.and_true] at h2 h3
  unfold swappedStores
  simp only [List.length_cons, List.length_nil, hk, List.any_cons, List.any_nil, h1.1, h1.2, List.head?_cons, Option.map_some, Option.getD_some, Expr.pos, List.filterMap_cons, kx, ky, hl', beq_self_eq_true, Bool.and_self, if_true, List.filterMap_nil, hne', List.all_cons, List.all_nil, Bool.and_true, h2, h3, Bool.or_self, Bool.false_eq_true, if_false, bne_self_eq_false]
  refine (if_neg (by decide)).trans ((if_neg ?_).trans rfl)
  intro z
  rcases (Bool.or_eq_true _ _).mp z with z | z
  · exact Bool.noConfusion (z.symm.trans h1.1)
  · rw [Bool.or_false] at z
    exact Bool.noConfusion (z.symm.trans h1.2)

/-! ### statements -/
theorem wss_nil {E : Ends2} (q : E.nx ρ M) : WSs X [] E ρ M := fun σ H r => cSs_of pss_nil ⟨ρ, M, r, TK.refl _, q⟩
theorem wss_cons {st : Stmt} {rest : List Stmt} {E : Ends2} (h : WS X st (consE X rest E) ρ M) : WSs X (st :: rest) E ρ M := fun σ H r => by
  refine cSs_of (pss_cons psC pssC) ?_
  exact cS_mono (D := LS X.K H { E with nx := WSs X rest E }) (D' := { LS X.K H E with nx := cSs X rest (LS X.K H E) }) (fun σ1 H1 ⟨ρ1, M1, r1, t1, q⟩ => cSs_back t1 (q σ1 H1 r1)) (fun _ _ q => q) (fun _ _ q => q) (fun _ _ q => q) (h σ H r)
theorem wss_one {st : Stmt} {E : Ends2} (h : WS X st E ρ M) : WSs X [st] E ρ M := fun σ H r => cSs_of (pss_one psC) (h σ H r)
/-- a block, its end told by a word of one's own -/
theorem wss_cut {st : Stmt} {rest : List Stmt} {E : Ends2} (I : St2 → Mem → Prop) (h : WS X st { E with nx := I } ρ M) (k : ∀ ρ M, I ρ M → WSs X rest E ρ M) : WSs X (st :: rest) E ρ M :=
  wss_cons (WS.mono (E := { E with nx := I }) (E' := { E with nx := WSs X rest E }) (fun _ _ q => k _ _ q) (fun _ _ q => q) (fun _ _ q => q) (fun _ _ q => q) h)
theorem ws_ret {e : Expr} {pos : Pos} {E : Ends2} (h : WE X e ρ M E.rt) : WS X (.Return (some e) pos) E ρ M := fun σ H r => by
  refine cS_of (ps_ret peC) ?_
  refine cE_mono ?_ (h σ H r)
  rintro v H1 ⟨d, M1, dn, r1, t1, q⟩
  exact ⟨d, M1, dn, r1.rep, t1, q⟩
theorem ws_expr {e : Expr} {pos : Pos} {E : Ends2} (hs : swapsWith e none pos.line X.env = pure false) (h : WE X e ρ M fun _ M1 => E.nx ρ M1) : WS X (.Expr e pos) E ρ M := fun σ H r => by
  refine cS_of (ps_expr peC hs) ?_
  refine cE_mono ?_ (h σ H r)
  rintro v H1 ⟨d, M1, dn, r1, t1, q⟩
  exact ⟨ρ, M1, r1, t1, q⟩
theorem ws_brk {pos : Pos} {E : Ends2} (q : E.bk ρ M) : WS X (.Break pos) E ρ M := fun σ H r => cS_of ps_break ⟨ρ, M, r, TK.refl _, q⟩
theorem ws_cont {pos : Pos} {E : Ends2} (q : E.ct ρ M) : WS X (.Continue pos) E ρ M := fun σ H r => cS_of ps_continue ⟨ρ, M, r, TK.refl _, q⟩
theorem ws_if {c : Expr} {a b : List Stmt} {pos : Pos} {E : Ends2} (h : WT X c ρ M fun k M1 => Br k (WSs X a E ρ M1) (WSs X b E ρ M1)) : WS X (.If c a b pos) E ρ M := fun σ H r => by
  refine cS_of (ps_if ptC pssC pssC) ?_
  refine cT_mono ?_ (h σ H r)
  rintro k H1 ⟨M1, r1, t1, br⟩
  exact Br.ite (Br.mono br (fun z => cSs_back t1 (z σ H1 r1)) fun z => cSs_back t1 (z σ H1 r1))
theorem ws_asg {tg e : Expr} {pos : Pos} {E : Ends2} (h1 : swapsWithSole [tg] e pos.line X.env = pure false) (h2 : swappedStores [tg] e X.env = pure none) (h3 : List.map (fun x => x.2) (assignEach [tg] X.env) = [assign tg X.env])
    (h : WE X e ρ M fun d M1 => WG X tg d ρ M1 E.nx) : WS X (.Assign [tg] e pos) E ρ M := fun σ H r => by
  refine cS_of (ps_asg peC pgC h1 h2 h3) ?_
  refine cE_mono ?_ (h σ H r)
  rintro v H1 ⟨d, M1, dn, r1, t1, q⟩
  refine cG_mono ?_ (q v σ H1 r1 dn)
  rintro σ2 H2 ⟨ρ2, M2, r2, t2, q2⟩
  exact ⟨ρ2, M2, r2, t1.trans t2, q2⟩
theorem wg_name (C : Cxt X N sc P w K mg base k0) {x : Str} {i : Nat} {pos : Pos} {d : D} {ρ' : St2} {Q : St2 → Mem → Prop} (nm : Nm N i x) (hx : x ∈ sc.l) (pt : Put N ρ x d ρ') (q : Q ρ' M) : WG X (.Name x pos) d ρ M Q := fun v σ H r dn => by
  obtain ⟨j, ej, rfl⟩ := pt.get
  have e : j = i := nodup_ix C.nd ej nm.get
  subst e
  refine cG_of (pg_name (i := j) (by rw [C.hN]; exact C.nd) (by rw [C.hN]; exact nm.get) (C.loc x hx) (C.fn x hx)) ?_
  exact ⟨_, M, ⟨r.env.set j dn, r.rep⟩, TK.refl _, q⟩
/-- o[i] = v of a list -/
theorem wg_sub {o i : Expr} {pos : Pos} {d : D} {Q : St2 → Mem → Prop}
    (ha : ∀ v, assign (.Subscript o i pos) X.env v = (do let ov ← holding [v] (eval o X.env); let iv ← holding [v, ov] (eval i X.env); standAt pos; holding [v, ov, iv] (setItem ov iv v); release [v, ov, iv] []))
    (h : WE X o ρ M fun d1 M1 => WE X i ρ M1 fun d2 M2 => ∃ a ds k j, d1 = .obj a ∧ d2 = .int k ∧ M2 a = some (.lst ds) ∧ ixN ds.length k = some j ∧ Q ρ (mup M2 a (.lst (ds.set j d)))) : WG X (.Subscript o i pos) d ρ M Q := fun v σ H r dn => by
  refine cG_of (pg_sub peC peC set_list ha) ?_
  refine cE_mono ?_ (h σ H r)
  rintro ov H1 ⟨d1, M1, dn1, r1, t1, q1⟩
  refine cE_mono ?_ (q1 σ H1 r1)
  rintro iv H2 ⟨d2, M2, dn2, r2, t2, a, ds, k, j, rfl, rfl, ea, ex, q⟩
  obtain ⟨xs, hx, l⟩ := r2.rep a _ ea
  rw [den_obj.mp (dn1.mono t2), den_int.mp dn2]
  have tk := TK.lst (K := X.K) (o := .lst (xs.set j v)) hx
  refine ⟨a, xs, k, j, rfl, rfl, hx, by rw [l.length]; exact ex, ρ, _, r2.put (m := .lst (ds.set j d)) tk ⟨_, upd_same, ?_⟩, (t1.trans t2).trans tk, q⟩
  exact (DenL.set (dn.mono (t1.trans t2)) j l).mono tk
/-- x op= e, by the operator's rule on ints, lists are not served -/
theorem ws_augI (C : Cxt X N sc P w K mg base k0) {x : Str} {i : Nat} {e : Expr} {pos pos' : Pos} {E : Ends2} {n : Int} (sl : Slot N ρ i x (.int n)) (hx : x ∈ sc.l) (h : WE X e ρ M fun d M1 => ∃ m ρ', d = .int m ∧ Put N ρ x (.int (n + m)) ρ' ∧ E.nx ρ' M1) : WS X (.AugAssign (.Name x pos') .Add e pos) E ρ M := fun σ H r => by
  refine cS_of (ps_aug (i := i) (by rw [C.hN]; exact C.nd) (by rw [C.hN]; exact sl.get.1) (C.loc x hx) peC ip_add (C.fn x hx)) ?_
  obtain ⟨v, ev, dv⟩ := r.env.at_ i _ sl.get.2
  refine ⟨v, ev, ?_⟩
  refine cE_mono ?_ (h σ H r)
  rintro u H1 ⟨d, M1, dn, r1, t1, m, ρ', rfl, pt, q⟩
  obtain ⟨j, ej, rfl⟩ := pt.get
  have e : j = i := nodup_ix C.nd ej sl.get.1
  subst e
  exact ⟨n, m, den_int.mp dv, den_int.mp dn, _, M1, ⟨r1.env.set j (den_int.mpr rfl), r1.rep⟩, t1, q⟩
/-- a, b = e1, e2 -/
theorem ws_par (C : Cxt X N sc P w K mg base k0) {i j : Nat} {x y : Str} {a b : Expr} {px py pt : Pos} {kt k2 : Nat} {pt2 pos : Pos} {E : Ends2} (hi : Nm N i x) (hj : Nm N j y) (hij : i ≠ j) (lx : x ∈ sc.c) (ly : y ∈ sc.c)
    (hl : (py.line == px.line) = true) (hne : ([x, y].eraseDups.length != 2) = false) (q1 : ([a, b].any fun | .Starred .. => true | _ => false) = false) (q2 : [a, b].all (foldedForSure 8) = false) (q3 : [a, b].all (constantsAlone 8) = false) (h2 : swapsWithSole [Expr.Tuple [Expr.Name x px, Expr.Name y py] kt pt] (Expr.Tuple [a, b] k2 pt2) pos.line X.env = pure false)
    (h : WA X [a, b] ρ M fun ds M1 => ∃ d e ρ1 ρ2, ds = [d, e] ∧ Put N ρ x d ρ1 ∧ Put N ρ1 y e ρ2 ∧ E.nx ρ2 M1) : WS X (.Assign [Expr.Tuple [Expr.Name x px, Expr.Name y py] kt pt] (Expr.Tuple [a, b] k2 pt2) pos) E ρ M := fun σ H r => by
  refine cS_of (ps_par (i := i) (j := j) C.calm (by rw [C.hN]; exact C.nd) (by rw [C.hN]; exact hi.get) (by rw [C.hN]; exact hj.get) hij (C.lcl x lx) (C.lcl y ly) paC (sw_pair (by unfold Env.blockKind; rw [C.kind]; rfl) (C.lcl x lx) (C.lcl y ly) hl hne q1 q2 q3) h2) ?_
  refine cA_mono ?_ (h σ H r)
  rintro vs H1 ⟨ds, M1, dn, r1, t1, d, e, ρ1, ρ2, rfl, p1, p2, q⟩
  obtain ⟨v, u, rfl, a1, a2⟩ := two_args dn
  obtain ⟨i', ei, rfl⟩ := p1.get
  obtain ⟨j', ej, rfl⟩ := p2.get
  obtain rfl : i' = i := nodup_ix C.nd ei hi.get
  obtain rfl : j' = j := nodup_ix C.nd ej hj.get
  exact ⟨v, u, rfl, _, M1, ⟨(r1.env.set i' a1).set j' a2, r1.rep⟩, t1, q⟩

/-! ### targets of loops and unpacking: names, nested -/
inductive Tgt where
  | nm (i : Nat)
  | tp (ts : List Tgt)
mutual
def gT (K : PySem.W.Frag) : Tgt → TG
  | .nm i => gName i
  | .tp ts => gTup K ts.length (gTs K ts)
def gTs (K : PySem.W.Frag) : List Tgt → TGs
  | [] => gNil
  | t :: ts => gCons (gT K t) (gTs K ts)
end
mutual
def bT : Tgt → D → St2 → Option St2
  | .nm i, d, ρ => some (ρ.set i (some d))
  | .tp ts, .tup ds, ρ => bTs ts ds ρ
  | .tp _, _, _ => none
def bTs : List Tgt → List D → St2 → Option St2
  | [], [], ρ => some ρ
  | t :: ts, d :: ds, ρ => (bT t d ρ).bind fun ρ' => bTs ts ds ρ'
  | _, _, _ => none
end
mutual
/-- the slots that are stored -/
def slT : Tgt → List Nat
  | .nm i => [i]
  | .tp ts => slTs ts
def slTs : List Tgt → List Nat
  | [] => []
  | t :: ts => slT t ++ slTs ts
end
/-- s' differs from s in the slots vs alone -/
def Off (vs : List Nat) (σ σ' : L2.St) : Prop := σ'.length = σ.length ∧ ∀ i, i ∉ vs → σ'[i]? = σ[i]?
theorem Off.refl {vs : List Nat} {σ : L2.St} : Off vs σ σ := ⟨rfl, fun _ _ => rfl⟩
theorem Off.trans {vs : List Nat} {σ σ' σ2 : L2.St} (a : Off vs σ σ') (b : Off vs σ' σ2) : Off vs σ σ2 := ⟨b.1.trans a.1, fun i h => (b.2 i h).trans (a.2 i h)⟩
theorem Off.more {vs ws : List Nat} {σ σ' : L2.St} (h : ∀ i ∈ vs, i ∈ ws) (a : Off vs σ σ') : Off ws σ σ' := ⟨a.1, fun i z => a.2 i fun y => z (h i y)⟩
theorem len_bTs : ∀ (ts : List Tgt) (ds : List D) (ρ ρ' : St2), bTs ts ds ρ = some ρ' → ds.length = ts.length
  | [], [], _, _, _ => rfl
  | [], _ :: _, _, _, h => by simp [bTs] at h
  | _ :: _, [], _, _, h => by simp [bTs] at h
  | t :: ts, d :: ds, ρ, ρ', h => by
    simp only [bTs] at h
    cases e : bT t d ρ with
    | none => rw [e] at h; cases h
    | some ρ1 => rw [e] at h; simp [len_bTs ts ds ρ1 ρ' h]
mutual
theorem gT_run {H : Hp} : ∀ (t : Tgt) (d : D) (v : V) (ρ ρ' : St2) (σ : L2.St) (Q : L2.St → Hp → Prop), bT t d ρ = some ρ' → Den K H d v → EnvR K H ρ σ → (∀ σ', EnvR K H ρ' σ' → Off (slT t) σ σ' → Q σ' H) → gT K t v σ H Q
  | .nm i, d, v, ρ, ρ', σ, Q, h, dn, er, k => by
    simp only [bT] at h
    cases h
    exact k _ (er.set i dn) ⟨List.length_set, fun j hj => List.getElem?_set_ne (by intro e; exact hj (by simp [slT, e]))⟩
  | .tp ts, .tup ds, v, ρ, ρ', σ, Q, h, dn, er, k => by
    simp only [bT] at h
    obtain ⟨a, xs, rfl, s, l⟩ := den_tup.mp dn
    refine ⟨a, xs, rfl, s, by rw [l.length]; exact len_bTs ts ds ρ ρ' h, ?_⟩
    exact gTs_run ts ds xs ρ ρ' σ Q h l er fun σ' e o => k σ' e (by simpa [slT] using o)
  | .tp _, .non, _, _, _, _, _, h, _, _, _ => by simp [bT] at h
  | .tp _, .bl _, _, _, _, _, _, h, _, _, _ => by simp [bT] at h
  | .tp _, .int _, _, _, _, _, _, h, _, _, _ => by simp [bT] at h
  | .tp _, .str _, _, _, _, _, _, h, _, _, _ => by simp [bT] at h
  | .tp _, .obj _, _, _, _, _, _, h, _, _, _ => by simp [bT] at h
  | .tp _, .ty _, _, _, _, _, _, h, _, _, _ => by simp [bT] at h
  | .tp _, .ro _, _, _, _, _, _, h, _, _, _ => by simp [bT] at h
theorem gTs_run {H : Hp} : ∀ (ts : List Tgt) (ds : List D) (vs : List V) (ρ ρ' : St2) (σ : L2.St) (Q : L2.St → Hp → Prop), bTs ts ds ρ = some ρ' → DenL K H ds vs → EnvR K H ρ σ → (∀ σ', EnvR K H ρ' σ' → Off (slTs ts) σ σ' → Q σ' H) → gTs K ts vs σ H Q
  | [], [], vs, ρ, ρ', σ, Q, h, dn, er, k => by
    simp only [bTs] at h
    cases h
    exact ⟨denL_nil.mp dn, k σ er Off.refl⟩
  | [], _ :: _, _, _, _, _, _, h, _, _, _ => by simp [bTs] at h
  | _ :: _, [], _, _, _, _, _, h, _, _, _ => by simp [bTs] at h
  | t :: ts, d :: ds, vs, ρ, ρ', σ, Q, h, dn, er, k => by
    simp only [bTs] at h
    obtain ⟨v, r, rfl, a, b⟩ := denL_cons.mp dn
    cases e : bT t d ρ with
    | none => rw [e] at h; cases h
    | some ρ1 =>
      rw [e] at h
      refine ⟨v, r, rfl, gT_run t d v ρ ρ1 σ _ e a er fun σ1 er1 o1 => ?_⟩
      exact gTs_run ts ds r ρ1 ρ' σ1 Q h b er1 fun σ' er' o' => k σ' er' (Off.trans (Off.more (fun i hi => by simp [slTs, hi]) o1) (Off.more (fun i hi => by simp [slTs, hi]) o'))
end
/-- how a written target stores -/
structure PT2 (X : Cx) (tg : Expr) (t : Tgt) : Prop where
  pg : PG X tg (gT X.K t)
structure PTs2 (X : Cx) (tgs : List Expr) (ts : List Tgt) : Prop where
  pg : PGs X tgs (gTs X.K ts)
theorem pt2_name (C : Cxt X N sc P w K mg base k0) {x : Str} {i : Nat} {pos : Pos} (nm : Nm N i x) (hx : x ∈ sc.l) : PT2 X (.Name x pos) (.nm i) :=
  ⟨by simp only [gT]; exact pg_name (i := i) (by rw [C.hN]; exact C.nd) (by rw [C.hN]; exact nm.get) (C.loc x hx) (C.fn x hx)⟩
theorem pts2_nil : PTs2 X [] [] := ⟨by simp only [gTs]; exact pgs_nil⟩
theorem pts2_cons {e : Expr} {es : List Expr} {t : Tgt} {ts : List Tgt} (hs : (assignEach (e :: es) X.env).map (·.2) = assign e X.env :: (assignEach es X.env).map (·.2)) (h1 : PT2 X e t) (h2 : PTs2 X es ts) : PTs2 X (e :: es) (t :: ts) :=
  ⟨by simp only [gTs]; exact pgs_cons h1.pg h2.pg hs⟩
theorem pt2_tup (C : Cxt X N sc P w K mg base k0) {es : List Expr} {k : Nat} {pos : Pos} {ts : List Tgt} (h1 : (assignEach es X.env).length = ts.length) (h2 : List.findIdx? (fun x => x.1) (assignEach es X.env) = none) (h : PTs2 X es ts) : PT2 X (.Tuple es k pos) (.tp ts) :=
  ⟨by simp only [gT]; exact pg_tup C.calm h.pg h1 h2⟩
theorem wg_tgt {tg : Expr} {t : Tgt} {d : D} {Q : St2 → Mem → Prop} (h : PT2 X tg t) {ρ' : St2} (hb : bT t d ρ = some ρ') (q : Q ρ' M) : WG X tg d ρ M Q := fun v σ H r dn =>
  cG_of h.pg (gT_run t d v ρ ρ' σ _ hb dn r.env fun σ' er _ => ⟨ρ', M, ⟨er, r.rep⟩, TK.refl _, q⟩)

/-- targets of a tuple, of any kind -/
def cGs (X : Cx) (tgs : List Expr) : TGs := fun vs σ H Q => ∀ pins s us, Inv X pins σ H s → Vals vs us → wpAny (model X.prog X.w) X.A (assignInOrder ((assignEach tgs X.env).map (·.2)) us) (fun _ s' => ∃ σ' H', Inv X pins σ' H' s' ∧ Q σ' H') X.xe s
theorem pgsC {tgs : List Expr} : PGs X tgs (cGs X tgs) := ⟨fun pins s σ H vs us Q I r h => h pins s us I r⟩
theorem cGs_of {tgs : List Expr} {t : TGs} (h : PGs X tgs t) {vs : List V} {σ : L2.St} {H : Hp} {Q : L2.St → Hp → Prop} (q : t vs σ H Q) : cGs X tgs vs σ H Q := fun pins s us I r => h.run pins s σ H vs us Q I r q
theorem cGs_mono {tgs : List Expr} {vs : List V} {σ : L2.St} {H : Hp} {Q Q' : L2.St → Hp → Prop} (m : ∀ v H', Q v H' → Q' v H') (h : cGs X tgs vs σ H Q) : cGs X tgs vs σ H Q' := fun pins s us I r =>
  thn (h pins s us I r) fun _ _ ⟨a, b, c, d⟩ => ⟨a, b, c, m _ _ d⟩
def WGs (X : Cx) (tgs : List Expr) (ds : List D) (ρ : St2) (M : Mem) (Q : St2 → Mem → Prop) : Prop := ∀ vs σ H, R X.K ρ M σ H → DenL X.K H ds vs → cGs X tgs vs σ H (LN X.K H Q)
theorem wgs_nil {Q : St2 → Mem → Prop} (q : Q ρ M) : WGs X [] [] ρ M Q := fun vs σ H r dn => cGs_of pgs_nil ⟨denL_nil.mp dn, ρ, M, r, TK.refl _, q⟩
theorem wgs_cons {e : Expr} {es : List Expr} {d : D} {ds : List D} {Q : St2 → Mem → Prop} (hs : (assignEach (e :: es) X.env).map (·.2) = assign e X.env :: (assignEach es X.env).map (·.2))
    (h : WG X e d ρ M fun ρ1 M1 => WGs X es ds ρ1 M1 Q) : WGs X (e :: es) (d :: ds) ρ M Q := fun vs σ H r dn => by
  obtain ⟨v, vr, rfl, a, b⟩ := denL_cons.mp dn
  refine cGs_of (pgs_cons pgC pgsC hs) ⟨v, vr, rfl, ?_⟩
  refine cG_mono ?_ (h v σ H r a)
  rintro σ1 H1 ⟨ρ1, M1, r1, t1, q⟩
  refine cGs_mono ?_ (q vr σ1 H1 r1 (b.mono t1))
  rintro σ2 H2 ⟨ρ2, M2, r2, t2, q2⟩
  exact ⟨ρ2, M2, r2, t1.trans t2, q2⟩
theorem wg_tup (C : Cxt X N sc P w K mg base k0) {es : List Expr} {k : Nat} {pos : Pos} {ds : List D} {Q : St2 → Mem → Prop} (h1 : (assignEach es X.env).length = ds.length) (h2 : List.findIdx? (fun x => x.1) (assignEach es X.env) = none) (h : WGs X es ds ρ M Q) : WG X (.Tuple es k pos) (.tup ds) ρ M Q := fun v σ H r dn => by
  obtain ⟨p, xs, rfl, s, l⟩ := den_tup.mp dn
  exact cG_of (pg_tup C.calm pgsC h1 h2) ⟨p, xs, rfl, s, l.length, h xs σ H r l⟩

/-! ### what is walked -/
def cI (X : Cx) (tg iter : Expr) : TI := fun σ H R => ∀ pins s, Inv X pins σ H s → wpAny (model X.prog X.w) X.A (eval iter X.env) (fun v s1 => wpAny (model X.prog X.w) X.A (pyIter v) (PIE X pins σ tg R) X.xe s1) X.xe s
theorem piC {tg iter : Expr} : PI X tg iter (cI X tg iter) := ⟨fun pins s σ H R I h => h pins s I⟩
theorem cI_of {tg iter : Expr} {t : TI} (h : PI X tg iter t) {σ : L2.St} {H : Hp} {R : It → Hp → Prop} (q : t σ H R) : cI X tg iter σ H R := fun pins s I => h.run pins s σ H R I q
/-- J gives the items xs, one by one, while the memory is as stays says -/
structure Adeq (K : PySem.W.Frag) (H1 : Hp) (J : It) (xs : List D) (stays : Mem → Prop) : Prop where
  go : ∀ (i : Nat) (ρ : St2) (M : Mem) (σ : L2.St) (H : Hp), R K ρ M σ H → TK K H1 H → stays M → i < xs.length → J.go i H
  yld : ∀ (i : Nat) (ρ : St2) (M : Mem) (σ : L2.St) (H : Hp) (x : V) (d : D) (H' : Hp), R K ρ M σ H → TK K H1 H → stays M → xs[i]? = some d → J.yld i H x H' → R K ρ M σ H' ∧ TK K H H' ∧ Den K H' d x
  stop : ∀ (ρ : St2) (M : Mem) (σ : L2.St) (H : Hp), R K ρ M σ H → TK K H1 H → stays M → J.stop xs.length H
abbrev QI := List D → (Mem → Prop) → Mem → Prop
def LI (K : PySem.W.Frag) (ρ : St2) (σ : L2.St) (H : Hp) (Q : QI) : It → Hp → Prop := fun J H1 => ∃ xs stays M1, R K ρ M1 σ H1 ∧ TK K H H1 ∧ Adeq K H1 J xs stays ∧ Q xs stays M1
def WI (X : Cx) (tg iter : Expr) (ρ : St2) (M : Mem) (Q : QI) : Prop := ∀ σ H, R X.K ρ M σ H → cI X tg iter σ H (LI X.K ρ σ H Q)
theorem adeq_list {H1 : Hp} {a : Addr} {ds : List D} : Adeq K H1 (Itl K a) ds (fun M => lstOf (M a) = some ds) where
  go := fun i ρ M σ H r t s hi => by
    obtain ⟨xs, sq, l⟩ := lst_sq r s
    obtain ⟨v, hv, _⟩ := l.get' (List.getElem?_eq_getElem hi)
    exact ⟨xs, v, sq, hv⟩
  yld := fun i ρ M σ H x d H' r t s hd ⟨e, y⟩ => by
    subst e
    obtain ⟨xs, sq, l⟩ := lst_sq r s
    obtain ⟨v, hv, dn⟩ := l.get' hd
    have := y xs sq
    rw [hv] at this
    cases this
    exact ⟨r, TK.refl _, dn⟩
  stop := fun ρ M σ H r t s => by
    obtain ⟨xs, sq, l⟩ := lst_sq r s
    exact ⟨xs, sq, by rw [l.length]; exact Nat.le_refl _⟩
theorem adeq_tup {H1 : Hp} {a : Addr} {ds : List D} {xs : List V} (s0 : SqT K H1 a xs) (l0 : DenL K H1 ds xs) : Adeq K H1 (Itt K a) ds (fun _ => True) where
  go := fun i ρ M σ H r t s hi => by
    obtain ⟨v, hv, _⟩ := l0.get' (List.getElem?_eq_getElem hi)
    exact ⟨xs, v, t.t _ _ s0, hv⟩
  yld := fun i ρ M σ H x d H' r t s hd ⟨e, y⟩ => by
    subst e
    obtain ⟨v, hv, dn⟩ := l0.get' hd
    have := y xs (t.t _ _ s0)
    rw [hv] at this
    cases this
    exact ⟨r, TK.refl _, dn.mono t⟩
  stop := fun ρ M σ H r t s => ⟨xs, t.t _ _ s0, by rw [l0.length]; exact Nat.le_refl _⟩
theorem adeq_rng {H1 : Hp} {lo : Int} {n : Nat} : Adeq K H1 (Itr lo n) ((List.range n).map fun i => D.int (lo + (i : Nat))) (fun _ => True) where
  go := fun i ρ M σ H r t s hi => by show i < n; simpa using hi
  yld := fun i ρ M σ H x d H' r t s hd ⟨e, y⟩ => by
    subst e
    subst y
    rw [List.getElem?_map] at hd
    cases e : (List.range n)[i]? with
    | none => rw [e] at hd; cases hd
    | some j =>
      rw [e] at hd
      cases hd
      have : j = i := by
        rw [List.getElem?_eq_some_iff] at e
        obtain ⟨h, e⟩ := e
        rw [← e]; simp
      subst this
      exact ⟨r, TK.refl _, den_int.mpr rfl⟩
  stop := fun ρ M σ H r t s => by show n ≤ _; simp
theorem wi_list {tg l : Expr} {Q : QI} (h : WE X l ρ M fun d M1 => ∃ a ds, d = .obj a ∧ lstOf (M1 a) = some ds ∧ Q ds (fun M => lstOf (M a) = some ds) M1) : WI X tg l ρ M Q := fun σ H r => by
  refine cI_of (pi_list peC) ?_
  refine cE_mono ?_ (h σ H r)
  rintro v H1 ⟨d, M1, dn, r1, t1, a, ds, rfl, e, q⟩
  obtain ⟨xs, s, l⟩ := lst_sq r1 e
  exact ⟨a, den_obj.mp dn, ⟨xs, s⟩, ds, _, M1, r1, t1, adeq_list, q⟩
theorem wi_tup {tg l : Expr} {Q : QI} (h : WE X l ρ M fun d M1 => ∃ ds, d = .tup ds ∧ Q ds (fun _ => True) M1) : WI X tg l ρ M Q := fun σ H r => by
  refine cI_of (pi_tup peC) ?_
  refine cE_mono ?_ (h σ H r)
  rintro v H1 ⟨d, M1, dn, r1, t1, ds, rfl, q⟩
  obtain ⟨a, xs, rfl, s, l⟩ := den_tup.mp dn
  exact ⟨a, rfl, ⟨xs, s⟩, ds, _, M1, r1, t1, adeq_tup s l, q⟩
theorem adeq_ro {H1 : Hp} {a : Addr} {ds : List D} {xs : List V} (s0 : SqF K H1 a xs) (l0 : DenL K H1 ds xs) : Adeq K H1 (Itl K a) ds (fun _ => True) where
  go := fun i ρ M σ H r t s hi => by
    obtain ⟨v, hv, _⟩ := l0.get' (List.getElem?_eq_getElem hi)
    exact ⟨xs, v, (t.f _ _ s0).l, hv⟩
  yld := fun i ρ M σ H x d H' r t s hd ⟨e, y⟩ => by
    subst e
    obtain ⟨v, hv, dn⟩ := l0.get' hd
    have z := y xs (t.f _ _ s0).l
    rw [hv] at z
    cases z
    exact ⟨r, TK.refl _, dn.mono t⟩
  stop := fun ρ M σ H r t s => ⟨xs, (t.f _ _ s0).l, by rw [l0.length]; exact Nat.le_refl _⟩
theorem wi_ro {tg l : Expr} {Q : QI} (h : WE X l ρ M fun d M1 => ∃ ds, d = .ro ds ∧ Q ds (fun _ => True) M1) : WI X tg l ρ M Q := fun σ H r => by
  refine cI_of (pi_list peC) ?_
  refine cE_mono ?_ (h σ H r)
  rintro v H1 ⟨d, M1, dn, r1, t1, ds, rfl, q⟩
  obtain ⟨a, xs, rfl, s, l⟩ := den_ro.mp dn
  exact ⟨a, rfl, ⟨xs, s.l⟩, ds, _, M1, r1, t1, adeq_ro s l, q⟩
theorem wi_rng1 (C : Cxt X N sc P w K mg base k0) {tg a : Expr} {p pos : Pos} {Q : QI} (hg : ("range" : Str) ∈ sc.g) (hm : mg "range" = none) (hs : starEach [a] X.env = [(false, eval a X.env)])
    (h : WE X a ρ M fun d M1 => ∃ j : Int, d = .int j ∧ -(2 ^ 62) ≤ j ∧ j < 2 ^ 62 ∧ Q ((List.range j.toNat).map fun i => D.int (0 + (i : Nat))) (fun _ => True) M1) : WI X tg (.Call (.Name "range" p) [a] [] pos) ρ M Q := fun σ H r => by
  obtain rfl := C.hmg
  refine cI_of (pi_range1 (C.gl _ hg).1 hm (pa_cons peC pa_nil hs) hs) ?_
  refine cE_mono ?_ (h σ H r)
  rintro v H1 ⟨d, M1, dn, r1, t1, j, rfl, h1, h2, q⟩
  rw [den_int.mp dn]
  exact ⟨j, rfl, h1, h2, _, _, M1, r1, t1, adeq_rng, q⟩
theorem wi_rng2 (C : Cxt X N sc P w K mg base k0) {tg a b : Expr} {p pos : Pos} {Q : QI} (hg : ("range" : Str) ∈ sc.g) (hm : mg "range" = none) (hs : starEach [a, b] X.env = [(false, eval a X.env), (false, eval b X.env)]) (hs2 : starEach [b] X.env = [(false, eval b X.env)])
    (h : WA X [a, b] ρ M fun ds M1 => ∃ i j : Int, ds = [.int i, .int j] ∧ (-(2 ^ 62) ≤ i ∧ i < 2 ^ 62 ∧ -(2 ^ 62) ≤ j ∧ j < 2 ^ 62) ∧ Q ((List.range (j - i).toNat).map fun k => D.int (i + (k : Nat))) (fun _ => True) M1) : WI X tg (.Call (.Name "range" p) [a, b] [] pos) ρ M Q := fun σ H r => by
  obtain rfl := C.hmg
  refine cI_of (pi_range2 (C.gl _ hg).1 hm paC hs hs2) ?_
  refine cA_mono ?_ (h σ H r)
  rintro vs H1 ⟨ds, M1, dn, r1, t1, i, j, rfl, h1, q⟩
  obtain ⟨v, u, rfl, a1, a2⟩ := two_args dn
  exact ⟨i, j, by rw [den_int.mp a1, den_int.mp a2], h1, _, _, M1, r1, t1, adeq_rng, q⟩
/-- pairs of the turn and the item -/
def enumD (ds : List D) : List D := ds.zipIdx.map fun p => D.tup [.int (p.2 : Nat), p.1]
theorem enumD_len (ds : List D) : (enumD ds).length = ds.length := by simp [enumD]
theorem enumD_get {ds : List D} {i : Nat} {d : D} (h : (enumD ds)[i]? = some d) : ∃ e, ds[i]? = some e ∧ d = .tup [.int (i : Nat), e] := by
  unfold enumD at h
  rw [List.getElem?_map, List.getElem?_zipIdx] at h
  cases e : ds[i]? with
  | none => rw [e] at h; cases h
  | some x => rw [e] at h; simp at h; exact ⟨x, rfl, h.symm⟩
theorem pair_new {H : Hp} {σ : L2.St} {T : Addr} {d1 d2 : D} {v1 v2 : V} (r : R K ρ M σ H) (hT : H T = none) (a : Den K H d1 v1) (b : Den K H d2 v2) : R K ρ M σ (upd H T (.tup [v1, v2])) ∧ TK K H (upd H T (.tup [v1, v2])) ∧ Den K (upd H T (.tup [v1, v2])) (.tup [d1, d2]) (.ref T) :=
  ⟨r.newT hT, TK.fresh hT, den_newT hT (DenL.cons a (DenL.cons b DenL.nil))⟩
theorem adeq_enumL {H1 : Hp} {a : Addr} {ds : List D} : Adeq K H1 (Ite K a) (enumD ds) (fun M => lstOf (M a) = some ds) where
  go := fun i ρ M σ H r t s hi => by
    obtain ⟨xs, sq, l⟩ := lst_sq r s
    rw [enumD_len] at hi
    obtain ⟨v, hv, _⟩ := l.get' (List.getElem?_eq_getElem hi)
    exact ⟨xs, v, sq, hv⟩
  yld := fun i ρ M σ H x d H' r t s hd ⟨T, y, e1, hT, e2, hy⟩ => by
    subst e1 e2
    obtain ⟨xs, sq, l⟩ := lst_sq r s
    obtain ⟨e, he, rfl⟩ := enumD_get hd
    obtain ⟨v, hv, dn⟩ := l.get' he
    have := hy xs sq
    rw [hv] at this
    cases this
    exact pair_new r hT (den_int.mpr rfl) dn
  stop := fun ρ M σ H r t s => by
    obtain ⟨xs, sq, l⟩ := lst_sq r s
    exact ⟨xs, sq, by rw [l.length, enumD_len]; exact Nat.le_refl _⟩
theorem adeq_enumR {H1 : Hp} {a : Addr} {ds : List D} {xs : List V} (s0 : SqF K H1 a xs) (l0 : DenL K H1 ds xs) : Adeq K H1 (Ite K a) (enumD ds) (fun _ => True) where
  go := fun i ρ M σ H r t s hi => by
    rw [enumD_len] at hi
    obtain ⟨v, hv, _⟩ := l0.get' (List.getElem?_eq_getElem hi)
    exact ⟨xs, v, (t.f _ _ s0).l, hv⟩
  yld := fun i ρ M σ H x d H' r t s hd ⟨T, y, e1, hT, e2, hy⟩ => by
    subst e1 e2
    obtain ⟨e, he, rfl⟩ := enumD_get hd
    obtain ⟨v, hv, dn⟩ := l0.get' he
    have z := hy xs (t.f _ _ s0).l
    rw [hv] at z
    cases z
    exact pair_new r hT (den_int.mpr rfl) (dn.mono t)
  stop := fun ρ M σ H r t s => ⟨xs, (t.f _ _ s0).l, by rw [l0.length, enumD_len]; exact Nat.le_refl _⟩
/-- pairs of the items of two -/
def zipD (ds es : List D) : List D := (ds.zip es).map fun p => D.tup [p.1, p.2]
theorem zipD_len (ds es : List D) : (zipD ds es).length = min ds.length es.length := by simp [zipD]
theorem zipD_get {ds es : List D} {i : Nat} {d : D} (h : (zipD ds es)[i]? = some d) : ∃ a b, ds[i]? = some a ∧ es[i]? = some b ∧ d = .tup [a, b] := by
  unfold zipD at h
  rw [List.getElem?_map] at h
  cases e : (ds.zip es)[i]? with
  | none => rw [e] at h; cases h
  | some x =>
    rw [e] at h
    rw [List.getElem?_zip_eq_some] at e
    exact ⟨x.1, x.2, e.1, e.2, by cases h; rfl⟩
theorem adeq_zipL {H1 : Hp} {a b : Addr} {ds es : List D} : Adeq K H1 (Itz K a b) (zipD ds es) (fun M => lstOf (M a) = some ds ∧ lstOf (M b) = some es) where
  go := fun i ρ M σ H r t s hi => by
    obtain ⟨xs, sq, l⟩ := lst_sq r s.1
    obtain ⟨ys, sq2, l2⟩ := lst_sq r s.2
    rw [zipD_len] at hi
    obtain ⟨v, hv, _⟩ := l.get' (List.getElem?_eq_getElem (Nat.lt_of_lt_of_le hi (Nat.min_le_left _ _)))
    obtain ⟨u, hu, _⟩ := l2.get' (List.getElem?_eq_getElem (Nat.lt_of_lt_of_le hi (Nat.min_le_right _ _)))
    exact ⟨xs, ys, v, u, sq, sq2, hv, hu⟩
  yld := fun i ρ M σ H x d H' r t s hd ⟨T, y, z, e1, hT, e2, hy, hz⟩ => by
    subst e1 e2
    obtain ⟨xs, sq, l⟩ := lst_sq r s.1
    obtain ⟨ys, sq2, l2⟩ := lst_sq r s.2
    obtain ⟨e, f, he, hf, rfl⟩ := zipD_get hd
    obtain ⟨v, hv, dn⟩ := l.get' he
    obtain ⟨u, hu, dn2⟩ := l2.get' hf
    have h1 := hy xs sq
    have h2 := hz ys sq2
    rw [hv] at h1
    rw [hu] at h2
    cases h1
    cases h2
    exact pair_new r hT dn dn2
  stop := fun ρ M σ H r t s => by
    obtain ⟨xs, sq, l⟩ := lst_sq r s.1
    obtain ⟨ys, sq2, l2⟩ := lst_sq r s.2
    refine ⟨xs, ys, sq, sq2, ?_⟩
    rw [l.length, l2.length, zipD_len]
    omega
theorem adeq_zipT {H1 : Hp} {a b : Addr} {ds es : List D} {xs ys : List V} (s1 : SqT K H1 a xs) (l1 : DenL K H1 ds xs) (s2 : SqT K H1 b ys) (l2 : DenL K H1 es ys) : Adeq K H1 (RZ.ItzT K a b) (zipD ds es) (fun _ => True) where
  go := fun i ρ M σ H r t s hi => by
    rw [zipD_len] at hi
    obtain ⟨v, hv, _⟩ := l1.get' (List.getElem?_eq_getElem (Nat.lt_of_lt_of_le hi (Nat.min_le_left _ _)))
    obtain ⟨u, hu, _⟩ := l2.get' (List.getElem?_eq_getElem (Nat.lt_of_lt_of_le hi (Nat.min_le_right _ _)))
    exact ⟨xs, ys, v, u, t.t _ _ s1, t.t _ _ s2, hv, hu⟩
  yld := fun i ρ M σ H x d H' r t s hd ⟨T, y, z, e1, hT, e2, hy, hz⟩ => by
    subst e1 e2
    obtain ⟨e, f, he, hf, rfl⟩ := zipD_get hd
    obtain ⟨v, hv, dn⟩ := l1.get' he
    obtain ⟨u, hu, dn2⟩ := l2.get' hf
    have h1 := hy xs (t.t _ _ s1)
    have h2 := hz ys (t.t _ _ s2)
    rw [hv] at h1
    rw [hu] at h2
    cases h1
    cases h2
    exact pair_new r hT (dn.mono t) (dn2.mono t)
  stop := fun ρ M σ H r t s => by
    refine ⟨xs, ys, t.t _ _ s1, t.t _ _ s2, ?_⟩
    rw [l1.length, l2.length, zipD_len]
    omega
theorem wi_zip (C : Cxt X N sc P w K mg base k0) {e e2 : Expr} {p pos tpos : Pos} {elts : List Expr} {kk : Nat} {Q : QI} (hg : ("zip" : Str) ∈ sc.g) (hm : mg "zip" = none) (hs : starEach [e, e2] X.env = (false, eval e X.env) :: starEach [e2] X.env) (hn : ∀ pos, (backTo pos (starEach [e2] X.env)).any (·.1) = false)
    (h : WA X [e, e2] ρ M fun ds M1 => (∃ a b as bs, ds = [.obj a, .obj b] ∧ lstOf (M1 a) = some as ∧ lstOf (M1 b) = some bs ∧ Q (zipD as bs) (fun M => lstOf (M a) = some as ∧ lstOf (M b) = some bs) M1) ∨ (∃ as bs, ds = [.tup as, .tup bs] ∧ Q (zipD as bs) (fun _ => True) M1)) :
    WI X (.Tuple elts kk tpos) (.Call (.Name "zip" p) [e, e2] [] pos) ρ M Q := fun σ H r => by
  obtain rfl := C.hmg
  refine cI_of (RZ.pi_zipA (C.gl _ hg).1 hm paC hs (hn pos)) ?_
  refine cA_mono ?_ (h σ H r)
  rintro vs H1 ⟨ds, M1, dn, r1, t1, ⟨a, b, as, bs, rfl, ha, hb, q⟩ | ⟨as, bs, rfl, q⟩⟩
  · obtain ⟨v, u, rfl, a1, a2⟩ := two_args dn
    obtain ⟨xs, sq, l⟩ := lst_sq r1 ha
    obtain ⟨ys, sq2, l2⟩ := lst_sq r1 hb
    rw [den_obj.mp a1, den_obj.mp a2]
    exact ⟨a, b, xs, ys, rfl, .inl ⟨sq, sq2, _, _, M1, r1, t1, adeq_zipL, q⟩⟩
  · obtain ⟨v, u, rfl, a1, a2⟩ := two_args dn
    obtain ⟨a, xs, rfl, sq, l⟩ := den_tup.mp a1
    obtain ⟨b, ys, rfl, sq2, l2⟩ := den_tup.mp a2
    exact ⟨a, b, xs, ys, rfl, .inr ⟨sq, sq2, _, _, M1, r1, t1, adeq_zipT sq l sq2 l2, q⟩⟩
theorem wi_enumL (C : Cxt X N sc P w K mg base k0) {e : Expr} {p pos tpos : Pos} {elts : List Expr} {kk : Nat} {Q : QI} (hg : ("enumerate" : Str) ∈ sc.g) (hm : mg "enumerate" = none) (hs : starEach [e] X.env = [(false, eval e X.env)])
    (h : WE X e ρ M fun d M1 => ∃ a as, d = .obj a ∧ lstOf (M1 a) = some as ∧ Q (enumD as) (fun M => lstOf (M a) = some as) M1) : WI X (.Tuple elts kk tpos) (.Call (.Name "enumerate" p) [e] [] pos) ρ M Q := fun σ H r => by
  obtain rfl := C.hmg
  refine cI_of (pi_enum (C.gl _ hg).1 hm (pa_cons peC pa_nil hs) hs) ?_
  refine cE_mono ?_ (h σ H r)
  rintro v H1 ⟨d, M1, dn, r1, t1, a, as, rfl, ha, q⟩
  obtain ⟨xs, sq, l⟩ := lst_sq r1 ha
  rw [den_obj.mp dn]
  exact ⟨a, xs, rfl, sq, _, _, M1, r1, t1, adeq_enumL, q⟩

theorem wi_enumR (C : Cxt X N sc P w K mg base k0) {e : Expr} {p pos tpos : Pos} {elts : List Expr} {kk : Nat} {Q : QI} (hg : ("enumerate" : Str) ∈ sc.g) (hm : mg "enumerate" = none) (hs : starEach [e] X.env = [(false, eval e X.env)])
    (h : WE X e ρ M fun d M1 => ∃ as, d = .ro as ∧ Q (enumD as) (fun _ => True) M1) : WI X (.Tuple elts kk tpos) (.Call (.Name "enumerate" p) [e] [] pos) ρ M Q := fun σ H r => by
  obtain rfl := C.hmg
  refine cI_of (pi_enum (C.gl _ hg).1 hm (pa_cons peC pa_nil hs) hs) ?_
  refine cE_mono ?_ (h σ H r)
  rintro v H1 ⟨d, M1, dn, r1, t1, as, rfl, q⟩
  obtain ⟨a, xs, rfl, s, l⟩ := den_ro.mp dn
  exact ⟨a, xs, rfl, s.l, _, _, M1, r1, t1, adeq_enumR s l, q⟩

/-! ### loops -/
theorem ws_for (C : Cxt X N sc P w K mg base k0) {tg iter : Expr} {body : List Stmt} {pos : Pos} {E : Ends2} {t : Tgt} (ht : PT2 X tg t) (hf : ∀ x, foldedSetIterable iter X.env x = pure x)
    (h : WI X tg iter ρ M fun xs stays M1 => ∃ I : Nat → St2 → Mem → Prop, I 0 ρ M1 ∧ (∀ i ρ M, I i ρ M → stays M) ∧
      (∀ (i : Nat) (d : D) (ρ : St2) (M : Mem), xs[i]? = some d → I i ρ M → ∃ ρ', bT t d ρ = some ρ' ∧ WSs X body (loopE E (I (i + 1))) ρ' M) ∧ (∀ ρ M, I xs.length ρ M → E.nx ρ M)) : WS X (.For tg iter body [] pos) E ρ M := fun σ H r => by
  refine cS_of (ps_for C.never C.calm piC ht.pg pssC hf) ?_
  refine fun pins s Iv => wpAny_mono (h σ H r pins s Iv) (fun v s1 q => wpAny_mono q (fun itv s2 z => ?_) fun _ _ z => z) fun _ _ z => z
  obtain ⟨it, fp, tn, J, H1, e1, I1, tu, tn0, fo, xs, stays, M1, r1, t1, ad, I, i0, ist, ibody, iend⟩ := z
  refine ⟨it, fp, tn, J, H1, e1, I1, tu, tn0, fo, ?_⟩
  refine ⟨fun i m σ2 H2 => m + i = xs.length ∧ ∃ ρ2 M2, R X.K ρ2 M2 σ2 H2 ∧ TK X.K H1 H2 ∧ I i ρ2 M2, ⟨xs.length, rfl, ρ, M1, r1, TK.refl _, i0⟩, ?_⟩
  rintro i m σ2 H2 ⟨em, ρ2, M2, r2, t2, ii⟩
  by_cases c : i < xs.length
  · refine .inr ⟨ad.go i ρ2 M2 σ2 H2 r2 t2 (ist _ _ _ ii) c, _, fun σ' H' z => z, fun x H3 y => ?_⟩
    have hd := List.getElem?_eq_getElem c
    obtain ⟨r3, t3, dn⟩ := ad.yld i ρ2 M2 σ2 H2 x _ H3 r2 t2 (ist _ _ _ ii) hd y
    obtain ⟨ρ', hb, wb⟩ := ibody i _ ρ2 M2 hd ii
    refine gT_run t _ x ρ2 ρ' σ2 _ hb dn r3.env fun σ' er _ => ?_
    have r4 : R X.K ρ' M2 σ' H3 := ⟨er, r3.rep⟩
    refine cSs_mono (D := LS X.K H3 _) ?_ ?_ ?_ ?_ (wb σ' H3 r4)
    · rintro σ5 H5 ⟨ρ5, M5, r5, t5, q⟩
      exact ⟨m - 1, by omega, by omega, ρ5, M5, r5, (t2.trans t3).trans t5, q⟩
    · rintro v5 H5 ⟨d5, M5, dn5, r5, t5, q⟩
      exact ⟨d5, M5, dn5, r5, ((t1.trans t2).trans t3).trans t5, q⟩
    · rintro σ5 H5 ⟨ρ5, M5, r5, t5, q⟩
      exact ⟨ρ5, M5, r5, ((t1.trans t2).trans t3).trans t5, q⟩
    · rintro σ5 H5 ⟨ρ5, M5, r5, t5, q⟩
      exact ⟨m - 1, by omega, by omega, ρ5, M5, r5, (t2.trans t3).trans t5, q⟩
  · have e : i = xs.length := by omega
    subst e
    exact .inl ⟨ad.stop ρ2 M2 σ2 H2 r2 t2 (ist _ _ _ ii), ρ2, M2, r2, t1.trans t2, iend _ _ ii⟩
theorem ws_while (C : Cxt X N sc P w K mg base k0) {c : Expr} {body : List Stmt} {pos : Pos} {E : Ends2} (I : Nat → St2 → Mem → Prop) (m0 : Nat) (i0 : I m0 ρ M)
    (h : ∀ m ρ M, I m ρ M → WT X c ρ M fun k M1 => Br k (WSs X body (loopE E (fun ρ' M' => ∃ m', m' < m ∧ I m' ρ' M')) ρ M1) (E.nx ρ M1)) : WS X (.While c body [] pos) E ρ M := fun σ H r => by
  refine cS_of (ps_while C.never ptC pssC) ?_
  refine ⟨fun m σ2 H2 => ∃ ρ2 M2, R X.K ρ2 M2 σ2 H2 ∧ TK X.K H H2 ∧ I m ρ2 M2, ⟨m0, ρ, M, r, TK.refl _, i0⟩, ?_⟩
  rintro m σ2 H2 ⟨ρ2, M2, r2, t2, ii⟩
  refine cT_mono ?_ (h m ρ2 M2 ii σ2 H2 r2)
  rintro k H3 ⟨M3, r3, t3, br⟩
  refine Br.ite (Br.mono br (fun z => ⟨_, fun σ' H' z => z, ?_⟩) fun z => ⟨ρ2, M3, r3, t2.trans t3, z⟩)
  refine cSs_mono (D := LS X.K H3 _) ?_ ?_ ?_ ?_ (z σ2 H3 r3)
  · rintro σ5 H5 ⟨ρ5, M5, r5, t5, m', hm, q⟩
    exact ⟨m', hm, ρ5, M5, r5, (t2.trans t3).trans t5, q⟩
  · rintro v5 H5 ⟨d5, M5, dn5, r5, t5, q⟩
    exact ⟨d5, M5, dn5, r5, (t2.trans t3).trans t5, q⟩
  · rintro σ5 H5 ⟨ρ5, M5, r5, t5, q⟩
    exact ⟨ρ5, M5, r5, (t2.trans t3).trans t5, q⟩
  · rintro σ5 H5 ⟨ρ5, M5, r5, t5, m', hm, q⟩
    exact ⟨m', hm, ρ5, M5, r5, (t2.trans t3).trans t5, q⟩

/-! ### list comprehensions, one for -/
def wipe2 (ρ : St2) : List Nat → St2
  | [] => ρ
  | v :: vs => (wipe2 ρ vs).set v none
theorem envR_wipe {H : Hp} {σ : L2.St} (h : EnvR K H ρ σ) : ∀ vs, EnvR K H (wipe2 ρ vs) (wipe σ vs)
  | [] => h
  | v :: vs => by
    have ih := envR_wipe h vs
    refine ⟨by show ((wipe2 ρ vs).set v none).length = ((wipe σ vs).set v none).length; rw [List.length_set, List.length_set]; exact ih.len, fun i d e => ?_⟩
    have e' : ((wipe2 ρ vs).set v none)[i]? = some (some d) := e
    show ∃ u, ((wipe σ vs).set v none)[i]? = some (some u) ∧ _
    rw [List.getElem?_set] at e' ⊢
    by_cases c : v = i
    · subst c
      rw [if_pos rfl] at e'
      by_cases z : v < (wipe2 ρ vs).length
      · rw [if_pos z] at e'; cases e'
      · rw [if_neg z] at e'; cases e'
    · rw [if_neg c] at e' ⊢
      exact ih.at_ i d e'
theorem wipe_len (σ : L2.St) : ∀ vs, (wipe σ vs).length = σ.length
  | [] => rfl
  | v :: vs => by show ((wipe σ vs).set v none).length = _; rw [List.length_set]; exact wipe_len σ vs
theorem wipe_at (σ : L2.St) : ∀ (vs : List Nat) (i : Nat), (wipe σ vs)[i]? = if i ∈ vs then (σ[i]?).map (fun _ => none) else σ[i]?
  | [], i => by simp [wipe]
  | v :: vs, i => by
    show ((wipe σ vs).set v none)[i]? = _
    rw [List.getElem?_set, wipe_len]
    by_cases c : v = i
    · subst c
      rw [if_pos rfl, if_pos List.mem_cons_self]
      by_cases z : v < σ.length
      · rw [if_pos z, List.getElem?_eq_getElem z]; rfl
      · rw [if_neg z, List.getElem?_eq_none (by omega)]; rfl
    · rw [if_neg c, wipe_at σ vs i]
      have e : (i ∈ v :: vs) ↔ i ∈ vs := by simp [Ne.symm c]
      by_cases z : i ∈ vs
      · rw [if_pos z, if_pos (e.mpr z)]
      · rw [if_neg z, if_neg (fun q => z (e.mp q))]
theorem wipe_off {vs : List Nat} {σ σ' : L2.St} (o : Off vs (wipe σ vs) σ') : wipe σ' vs = wipe σ vs := by
  refine List.ext_getElem? fun i => ?_
  rw [wipe_at, wipe_at]
  have l : σ'.length = σ.length := o.1.trans (wipe_len σ vs)
  by_cases z : i ∈ vs
  · rw [if_pos z, if_pos z]
    by_cases y : i < σ.length
    · rw [List.getElem?_eq_getElem y, List.getElem?_eq_getElem (by omega)]; rfl
    · rw [List.getElem?_eq_none (by omega), List.getElem?_eq_none (by omega)]
  · rw [if_neg z, if_neg z, o.2 i z, wipe_at, if_neg z]
/-- a comprehension's block -/
structure Blk (X : Cx) (scope : Scope) (X' : Cx) : Prop where
  ex : ∃ (s : Shared) (H : Hp) (C : Addr) (cl : List (Str × Addr)) (fp : List Addr), X' = X.blk s H scope (compEnvC scope cl C X.env) fp
theorem relab {scope : Scope} {env : Env} {x : Str} {k : NameKind} (h : scope.names.lookup x = some k) : (relabel scope env).names.lookup x = some k ∨ (k = .free ∧ (relabel scope env).names.lookup x = some .cell) := by
  unfold relabel
  simp only
  generalize scope.names = l at h ⊢
  induction l with
  | nil => simp at h
  | cons p l ih =>
    obtain ⟨n, k'⟩ := p
    rw [List.map_cons]
    by_cases c : (x == n) = true
    · rw [List.lookup_cons, c] at h
      have hk : k' = k := Option.some.inj h
      subst hk
      by_cases z : (k' == NameKind.free && env.scope.kind == .function && env.kindOf n == some .cell) = true
      · right
        have : k' = .free := by
          simp only [Bool.and_eq_true] at z
          have := z.1.1
          cases k' <;> first | rfl | (exact absurd this (by decide))
        refine ⟨this, ?_⟩
        simp only [z, if_true, List.lookup_cons, c]
      · left
        rw [Bool.not_eq_true] at z
        simp only [z, Bool.false_eq_true, if_false, List.lookup_cons, c]
    · have c' : (x == n) = false := by simpa using c
      rw [List.lookup_cons, c'] at h
      have := ih h
      by_cases z : (k' == NameKind.free && env.scope.kind == .function && env.kindOf n == some .cell) = true
      · simp only [z, if_true, List.lookup_cons, c']
        exact this
      · rw [Bool.not_eq_true] at z
        simp only [z, Bool.false_eq_true, if_false, List.lookup_cons, c']
        exact this
theorem vis_of {sc : Scope} {x : Str} (h : visB sc x = true) : Vis sc x := by
  unfold visB at h
  simp only [Bool.and_eq_true] at h
  have h1 := h.1.1
  cases e : sc.names.lookup x with
  | none => rw [e] at h1; cases h1
  | some k =>
    rw [e] at h1
    cases k with
    | «local» => exact .inl e
    | cell => exact .inr (.inl e)
    | free => exact .inr (.inr e)
    | _ => cases h1
theorem loc_of {sc : Scope} {x : Str} (h : locB sc x = true) : L2.Loc sc x := by
  unfold locB at h
  cases e : sc.names.lookup x with
  | none => rw [e] at h; cases h
  | some k =>
    rw [e] at h
    cases k with
    | «local» => exact .inl e
    | cell => exact .inr e
    | _ => cases h
theorem lcl_of {sc : Scope} {x : Str} (h : lclB sc x = true) : sc.names.lookup x = some .local := by
  unfold lclB at h
  cases e : sc.names.lookup x with
  | none => rw [e] at h; cases h
  | some k =>
    rw [e] at h
    cases k with
    | «local» => rfl
    | _ => cases h
theorem gl_of {sc : Scope} {x : Str} (h : glB sc x = true) : sc.names.lookup x = some .globalImplicit := by
  unfold glB at h
  simp only [Bool.and_eq_true] at h
  have h1 := h.1.1
  cases e : sc.names.lookup x with
  | none => rw [e] at h1; cases h1
  | some k =>
    rw [e] at h1
    cases k with
    | globalImplicit => rfl
    | _ => cases h1
theorem fr_of {sc : Scope} {x : Str} (h : frB sc x = true) : sc.names.lookup x = some .cell ∨ sc.names.lookup x = some .free := by
  unfold frB at h
  cases e : sc.names.lookup x with
  | none => rw [e] at h; cases h
  | some k =>
    rw [e] at h
    cases k with
    | cell => exact .inl rfl
    | free => exact .inr rfl
    | _ => cases h
theorem Nms.at_ {n : Nms} {sc : Scope} (h : n.ok sc = true) : (∀ x ∈ n.v, visB sc x = true) ∧ (∀ x ∈ n.l, locB sc x = true) ∧ (∀ x ∈ n.c, lclB sc x = true) ∧ (∀ x ∈ n.g, glB sc x = true) ∧ (∀ x ∈ n.f, frB sc x = true) := by
  unfold Nms.ok at h
  simp only [Bool.and_eq_true] at h
  exact ⟨List.all_eq_true.mp h.1.1.1.1, List.all_eq_true.mp h.1.1.1.2, List.all_eq_true.mp h.1.1.2, List.all_eq_true.mp h.1.2, List.all_eq_true.mp h.2⟩
theorem Cxt.blk {sc2 : Nms} (C : Cxt X N sc P w K mg base k0) {scope : Scope} {X' : Cx} (B : Blk X scope X') (hk : scope.kind = .function) (ok : sc2.ok scope = true) : Cxt X' N sc2 P w K mg base k0 := by
  obtain ⟨s, H, A, cl, fp, rfl⟩ := B.ex
  obtain ⟨ov, ol, oc, og, of⟩ := Nms.at_ ok
  refine { hP := C.hP, hw := C.hw, hK := C.hK, hmg := C.hmg, hbase := C.hbase, hN := C.hN, nd := C.nd, calm := C.calm, vis := ?_, loc := ?_, lcl := ?_, gl := ?_, fn := ?_, fr := ?_, kind := hk, room := C.room, gd := C.gd, never := PassesOwn.never }
  · intro x hx
    refine ⟨?_, visB_dbg (ov x hx)⟩
    rcases vis_of (ov x hx) with e | e | e
    · exact .inl ((relab (env := X.env) e).elim (fun z => z) fun z => by cases z.1)
    · exact .inr (.inl ((relab (env := X.env) e).elim (fun z => z) fun z => by cases z.1))
    · exact (relab (env := X.env) e).elim (fun z => .inr (.inr z)) fun z => .inr (.inl z.2)
  · intro x hx
    rcases loc_of (ol x hx) with e | e
    · exact .inl ((relab (env := X.env) e).elim (fun z => z) fun z => by cases z.1)
    · exact .inr ((relab (env := X.env) e).elim (fun z => z) fun z => by cases z.1)
  · intro x hx
    exact (relab (env := X.env) (lcl_of (oc x hx))).elim (fun z => z) fun z => by cases z.1
  · intro x hx
    exact ⟨(relab (env := X.env) (gl_of (og x hx))).elim (fun z => z) (fun z => by cases z.1), glB_dbg (og x hx)⟩
  · intro x hx
    rcases loc_of (ol x hx) with e | e
    · exact .inr ((relab (env := X.env) e).elim (fun z => z) fun z => by cases z.1)
    · exact .inl (by show (scope.names.lookup x == some .cell) = true; rw [e]; rfl)
  · intro x hx
    rcases fr_of (of x hx) with e | e
    · exact .inl ((relab (env := X.env) e).elim (fun z => z) fun z => by cases z.1)
    · exact (relab (env := X.env) e).elim .inr fun z => .inl z.2
/-- a block's names, by one look -/
def blkB (N fr : List Str) (scope : Scope) (own : List (Str × Nat)) : Bool :=
  (match scope.kind with | .function => true | _ => false) && (scope.names.all fun y => decide (scope.names.lookup y.1 = some y.2)) && (own.all fun p => decide (N[p.2]? = some p.1)) &&
    (scope.names.all fun y => match y.2 with
      | .free => decide (y.1 ∈ fr)
      | .local => decide (y.1 ∈ own.map (·.1)) || decide (y.1 ∉ N)
      | .cell => decide (y.1 ∈ own.map (·.1)) || decide (y.1 ∉ N)
      | _ => true)
theorem blk_ok (C : Cxt X N sc P w K mg base k0) {scope : Scope} {own : List (Str × Nat)} (h : blkB N sc.f scope own = true) : BlkOk X.N X.env.scope scope own := by
  unfold blkB at h
  simp only [Bool.and_eq_true] at h
  obtain ⟨⟨⟨h1, h2⟩, h3⟩, h4⟩ := h
  rw [List.all_eq_true] at h2 h3 h4
  refine ⟨?_, fun y hy => of_decide_eq_true (h2 y hy), fun p hp => by rw [C.hN]; exact of_decide_eq_true (h3 p hp), fun y hy e => ?_, fun y hy e => ?_⟩
  · cases e : scope.kind with
    | function => rfl
    | _ => rw [e] at h1; cases h1
  · have z := h4 y hy
    rw [e] at z
    exact C.fr _ (of_decide_eq_true z)
  · have z := h4 y hy
    rw [C.hN]
    rcases e with e | e <;> (rw [e] at z; simpa using z)
theorem kind_of {N fr : List Str} {scope : Scope} {own : List (Str × Nat)} (h : blkB N fr scope own = true) : scope.kind = .function := by
  unfold blkB at h
  simp only [Bool.and_eq_true] at h
  have h1 := h.1.1.1
  cases e : scope.kind with
  | function => rfl
  | _ => rw [e] at h1; cases h1
/-- the tests of a comprehension -/
def WTs (X : Cx) (ifs : List Expr) (ρ : St2) (M : Mem) (Q : Bool → Mem → Prop) : Prop := match ifs with
  | [] => Q true M
  | [c] => WT X c ρ M Q
  | _ => False
def cTs (X : Cx) (ifs : List Expr) : TT := match ifs with
  | [] => tYes
  | [c] => cT X c
  | _ => fun _ _ _ => False
theorem ptsC {X : Cx} {ifs : List Expr} : PTs X ifs (cTs X ifs) := by
  match ifs with
  | [] => exact pts_nil
  | [c] => exact pts_one ptC
  | a :: b :: r => exact ⟨fun _ _ _ _ _ _ h => h.elim⟩
theorem wts_use {ifs : List Expr} {Q : Bool → Mem → Prop} (h : WTs X ifs ρ M Q) {σ : L2.St} {H : Hp} (r : R X.K ρ M σ H) : cTs X ifs σ H (LT X.K ρ σ H Q) := by
  match ifs, h with
  | [], h => exact ⟨M, r, TK.refl _, h⟩
  | [c], h => exact h σ H r
theorem cTs_mono {X : Cx} {ifs : List Expr} {σ : L2.St} {H : Hp} {Q Q' : Bool → Hp → Prop} (m : ∀ v H', Q v H' → Q' v H') (h : cTs X ifs σ H Q) : cTs X ifs σ H Q' := by
  match ifs, h with
  | [], h => exact m _ _ h
  | [c], h => exact cT_mono m h
theorem lc_run {tg iter elt : Expr} {ifs : List Expr} {scope : Scope} {t : Tgt} {own : List Nat} {Q : QE} (ho : ∀ i ∈ slT t, i ∈ own)
    (h : WI X tg iter ρ M fun xs stays M1 => ∀ Dd, M1 Dd = none → ∃ I : Nat → Mem → Prop, I 0 (mup M1 Dd (.lst [])) ∧ (∀ i M, I i M → stays M) ∧
      (∀ (i : Nat) (d : D) (M : Mem), xs[i]? = some d → I i M → ∃ ρ', bT t d (wipe2 ρ own) = some ρ' ∧ ∀ X', Blk X scope X' → WTs X' ifs ρ' M fun b M3 => Br b (∀ X2, Blk X scope X2 → WE X2 elt ρ' M3 fun y M4 => ∃ acc, M4 Dd = some (.lst acc) ∧ acc.length < sizeLine ∧ I (i + 1) (mup M4 Dd (.lst (acc ++ [y])))) (I (i + 1) M3)) ∧
      (∀ M, I xs.length M → Q (.obj Dd) M)) {σ : L2.St} {H : Hp} (r : R X.K ρ M σ H) :
    tLc (cI X tg iter) (gT X.K t) (fun σ H Q => ∀ X', Blk X scope X' → cTs X' ifs σ H Q) (fun σ H Q => ∀ X', Blk X scope X' → cE X' elt σ H Q) own σ H (LE X.K ρ σ H Q) := by
  have bK : ∀ {X'}, Blk X scope X' → X'.K = X.K := fun b => by obtain ⟨_, _, _, _, _, rfl⟩ := b.ex; rfl
  refine fun pins s Iv => wpAny_mono (h σ H r pins s Iv) (fun v s1 q => wpAny_mono q (fun itv s2 z => ?_) fun _ _ z => z) fun _ _ z => z
  obtain ⟨it, fp, tn, J, H1, e1, I1, tu, tn0, fo, xs, stays, M1, r1, t1, ad, k⟩ := z
  refine ⟨it, fp, tn, J, H1, e1, I1, tu, tn0, fo, fun Dd hD => ?_⟩
  obtain ⟨I, i0, ist, ib, ie⟩ := k Dd (r1.rep.free hD)
  have r1' := r1.newL (ds := []) (vs := []) hD DenL.nil
  have tD : TK X.K H1 (upd H1 Dd (.lst [])) := TK.fresh hD
  refine ⟨fun i m H2 => m + i = xs.length ∧ ∃ M2, R X.K ρ M2 σ H2 ∧ TK X.K H1 H2 ∧ I i M2, ⟨xs.length, rfl, _, r1', tD, i0⟩, ?_⟩
  rintro i m H2 ⟨em, M2, r2, t2, ii⟩
  by_cases c : i < xs.length
  · refine .inr ⟨ad.go i ρ M2 σ H2 r2 t2 (ist _ _ ii) c, _, fun H' z => z, fun x H3 y => ?_⟩
    have hd := List.getElem?_eq_getElem c
    obtain ⟨r3, t3, dn⟩ := ad.yld i ρ M2 σ H2 x _ H3 r2 t2 (ist _ _ ii) hd y
    obtain ⟨ρ', hb, wb⟩ := ib i _ M2 hd ii
    refine gT_run t _ x (wipe2 ρ own) ρ' (wipe σ own) _ hb dn (envR_wipe r3.env own) fun σ' er off => ?_
    refine ⟨wipe_off (Off.more ho off), fun X' B => ?_⟩
    have hK := bK B
    have r4 : R X'.K ρ' M2 σ' H3 := by rw [hK]; exact ⟨er, r3.rep⟩
    have back : ∀ {M5 : Mem} {H5 : Hp}, R X.K ρ' M5 σ' H5 → TK X.K H3 H5 → R X.K ρ M5 σ H5 := fun a b => ⟨r3.env.mono b, a.rep⟩
    refine cTs_mono ?_ (wts_use (wb X' B) r4)
    rintro b H5 ⟨M5, r5, t5, br⟩
    rw [hK] at r5 t5
    refine Br.ite (Br.mono br (fun z X2 B2 => ?_) fun z => ⟨m - 1, by omega, by omega, M5, back r5 t5, ((t2.trans t3).trans t5), z⟩)
    have hK2 := bK B2
    refine cE_mono ?_ (z X2 B2 σ' H5 (by rw [hK2]; exact r5))
    rintro y H6 ⟨d6, M6, dn6, r6, t6, acc, ea, la, i6⟩
    rw [hK2] at dn6 r6 t6
    obtain ⟨ys, hy, ly⟩ := r6.rep Dd _ ea
    have tk := TK.lst (K := X.K) (o := .lst (ys ++ [y])) hy
    refine ⟨ys, hy, by rw [ly.length]; exact la, m - 1, by omega, by omega, _, ?_, ((((t2.trans t3).trans t5).trans t6).trans tk), i6⟩
    exact (back r6 (t5.trans t6)).put (m := .lst (acc ++ [d6])) tk ⟨_, upd_same, (ly.append (DenL.cons dn6 DenL.nil)).mono tk⟩
  · have e : i = xs.length := by omega
    subst e
    exact .inl ⟨ad.stop ρ M2 σ H2 r2 t2 (ist _ _ ii), .obj Dd, M2, den_obj.mpr rfl, r2, t1.trans t2, ie _ ii⟩
theorem tLc_mono {wi : TI} {g : TG} {tt : TT} {te : TE} {vs : List Nat} {σ : L2.St} {H : Hp} {Q Q' : VK} (m : ∀ v H, Q v H → Q' v H) (hw : ∀ {R R' : It → Hp → Prop}, (∀ J H, R J H → R' J H) → wi σ H R → wi σ H R') (h : tLc wi g tt te vs σ H Q) : tLc wi g tt te vs σ H Q' :=
  hw (fun J H1 k Dd hD => by
    obtain ⟨W, w0, ws⟩ := k Dd hD
    exact ⟨W, w0, fun i n H w => (ws i n H w).elim (fun z => .inl ⟨z.1, m _ _ z.2⟩) fun z => .inr z⟩) h
theorem cI_mono {tg iter : Expr} {σ : L2.St} {H : Hp} {R R' : It → Hp → Prop} (m : ∀ J H, R J H → R' J H) (h : cI X tg iter σ H R) : cI X tg iter σ H R' := fun pins s Iv =>
  wpAny_mono (h pins s Iv) (fun v s1 q => wpAny_mono q (fun itv s2 ⟨a, b, c, d, e, f, g, h, i, j, k⟩ => ⟨a, b, c, d, e, f, g, h, i, j, m _ _ k⟩) fun _ _ z => z) fun _ _ z => z
theorem we_lc (C : Cxt X N sc P w K mg base k0) {tg iter elt : Expr} {ifs : List Expr} {scope : Scope} {pos : Pos} {t : Tgt} {own : List (Str × Nat)} {Q : QE} (hb : blkB N sc.f scope own = true) (ho : ∀ i ∈ slT t, i ∈ own.map (·.2)) (ht : ∀ X', Blk X scope X' → PT2 X' tg t) (hf : ∀ x, foldedSetIterable iter X.env x = pure x)
    (h : WI X tg iter ρ M fun xs stays M1 => ∀ Dd, M1 Dd = none → ∃ I : Nat → Mem → Prop, I 0 (mup M1 Dd (.lst [])) ∧ (∀ i M, I i M → stays M) ∧
      (∀ (i : Nat) (d : D) (M : Mem), xs[i]? = some d → I i M → ∃ ρ', bT t d (wipe2 ρ (own.map (·.2))) = some ρ' ∧ ∀ X', Blk X scope X' → WTs X' ifs ρ' M fun b M3 => Br b (∀ X2, Blk X scope X2 → WE X2 elt ρ' M3 fun y M4 => ∃ acc, M4 Dd = some (.lst acc) ∧ acc.length < sizeLine ∧ I (i + 1) (mup M4 Dd (.lst (acc ++ [y])))) (I (i + 1) M3)) ∧
      (∀ M, I xs.length M → Q (.obj Dd) M)) : WE X (.ListComp elt [{ target := tg, iter := iter, ifs := ifs, is_async := 0 }] scope pos) ρ M Q := fun σ H r => by
  refine cE_of (pe_lc (own := own) C.calm (by rw [C.hN]; exact C.nd) piC (blk_ok C hb) ?_ ?_ ?_ hf) (lc_run ho h r)
  · intro s H A cl fp
    have B : Blk X scope (X.blk s H scope (compEnvC scope cl A X.env) fp) := ⟨s, H, A, cl, fp, rfl⟩
    exact (ht _ B).pg
  · intro s H A cl fp
    exact ⟨fun pins s' σ H Q I h => ptsC.run pins s' σ H Q I (h _ ⟨s, _, A, cl, fp, rfl⟩)⟩
  · intro s H A cl fp
    exact ⟨fun pins s' σ H Q I h => h _ ⟨s, _, A, cl, fp, rfl⟩ pins s' I⟩
theorem ws_setLc (C : Cxt X N sc P w K mg base k0) {i : Nat} {y : Str} {py : Pos} {tg iter elt : Expr} {ifs : List Expr} {scope : Scope} {pos spos : Pos} {t : Tgt} {own : List (Str × Nat)} {E : Ends2} (nm : Nm N i y) (ly : y ∈ sc.c) (hl : (py.line == pos.line) = true) (ha : (scope.names.any fun (n, k) => n == y && (k == .local || k == .cell)) = false)
    (hb : blkB N sc.f scope own = true) (ho : ∀ i ∈ slT t, i ∈ own.map (·.2)) (ht : ∀ X', Blk X scope X' → PT2 X' tg t) (hf : ∀ x, foldedSetIterable iter X.env x = pure x)
    (h : WI X tg iter ρ M fun xs stays M1 => ∀ Dd, M1 Dd = none → ∃ I : Nat → Mem → Prop, I 0 (mup M1 Dd (.lst [])) ∧ (∀ i M, I i M → stays M) ∧
      (∀ (i : Nat) (d : D) (M : Mem), xs[i]? = some d → I i M → ∃ ρ', bT t d (wipe2 ρ (own.map (·.2))) = some ρ' ∧ ∀ X', Blk X scope X' → WTs X' ifs ρ' M fun b M3 => Br b (∀ X2, Blk X scope X2 → WE X2 elt ρ' M3 fun y M4 => ∃ acc, M4 Dd = some (.lst acc) ∧ acc.length < sizeLine ∧ I (i + 1) (mup M4 Dd (.lst (acc ++ [y])))) (I (i + 1) M3)) ∧
      (∀ M, I xs.length M → ∃ ρ', Put N ρ y (.obj Dd) ρ' ∧ E.nx ρ' M)) : WS X (.Assign [.Name y py] (.ListComp elt [{ target := tg, iter := iter, ifs := ifs, is_async := 0 }] scope pos) spos) E ρ M := fun σ H r => by
  refine cS_of (ps_setLc (i := i) (own := own) (g := gT X.K t) (tt := fun σ H Q => ∀ X', Blk X scope X' → cTs X' ifs σ H Q) (te := fun σ H Q => ∀ X', Blk X scope X' → cE X' elt σ H Q) C.calm (by rw [C.hN]; exact C.nd) (by rw [C.hN]; exact nm.get) (C.lcl y ly) (sw_true C.kind (C.lcl y ly) hl ha) piC (blk_ok C hb) ?_ ?_ ?_ hf) ?_
  · intro s H A cl fp
    have B : Blk X scope (X.blk s H scope (compEnvC scope cl A X.env) fp) := ⟨s, H, A, cl, fp, rfl⟩
    exact (ht _ B).pg
  · intro s H A cl fp
    exact ⟨fun pins s' σ H Q I h => ptsC.run pins s' σ H Q I (h _ ⟨s, _, A, cl, fp, rfl⟩)⟩
  · intro s H A cl fp
    exact ⟨fun pins s' σ H Q I h => h _ ⟨s, _, A, cl, fp, rfl⟩ pins s' I⟩
  · have z := lc_run (Q := fun d M => ∃ ρ', Put N ρ y d ρ' ∧ E.nx ρ' M) ho h r
    refine tLc_mono ?_ cI_mono z
    rintro v H1 ⟨d, M1, dn, r1, t1, ρ', pt, q⟩
    obtain ⟨j, ej, rfl⟩ := pt.get
    obtain rfl : j = i := nodup_ix C.nd ej nm.get
    exact ⟨_, M1, ⟨r1.env.set j dn, r1.rep⟩, t1, q⟩
end
end Y

set_option Elab.async false
set_option linter.all false
set_option autoImplicit false
set_option maxRecDepth 100000
set_option maxHeartbeats 4000000
namespace Y
open PySem PySem.Spec PyProof.Rows L2

/-! ### defs -/
/-- an own exception leaves: its class, its fields, the memory -/
abbrev XQ := Addr → List (Str × D) → Mem → Prop
abbrev Sp2 := List D → Mem → QE → XQ → Prop
def XL (K : PySem.W.Frag) (H : Hp) (E : XQ) : XK := fun cls d H' => ∃ C a fs vs M', cls = .ref C ∧ d = some a ∧ H' a = some (.xd vs) ∧ FVs K H' fs vs ∧ Rep K H' M' ∧ TK K H H' ∧ E C fs M'
structure Fn2 (P : Program) (w : World) (K : PySem.W.Frag) (mg : Str → Option Value) (base : Heap) (CX : CXT) (k : Nat) (f : Addr) (fd : FuncData) (ps : List Str) (sp : Sp2) : Prop where
  len : ∀ ds M Q E, sp ds M Q E → ds.length = ps.length
  run : ∀ (A : Around) (outer : List Env) (s : Shared) (H : Hp) (args : Args) (us : List Value) (vs : List V) (ds : List D) (M : Mem) (Q : QE) (E : XQ), Room k A → A.guards = some [] → Env0 P w K mg base A outer s H → BindsTo s fd args (ps.zip us) → Vals vs us → DenL K H ds vs → Rep K H M → sp ds M Q E →
    codeAny (model P w) A (.call (.ref f) args) (CR CX outer P w H s (LR K H Q) (XL K H E)) s
def start2 (N : List Str) (ds : List D) : St2 := ds.map some ++ List.replicate (N.length - ds.length) none
theorem start_env {K : PySem.W.Frag} {H : Hp} {N : List Str} {ds : List D} {vs : List V} (l : DenL K H ds vs) : EnvR K H (start2 N ds) (L2.start N vs) := by
  have hl := l.length
  refine ⟨by simp [start2, L2.start, hl], fun i d e => ?_⟩
  unfold start2 at e
  unfold L2.start
  by_cases c : i < ds.length
  · rw [List.getElem?_append_left (by simpa using c), List.getElem?_map] at e
    rw [List.getElem?_append_left (by simpa [hl] using c), List.getElem?_map]
    cases q : ds[i]? with
    | none => rw [q] at e; cases e
    | some d' =>
      rw [q] at e
      cases e
      obtain ⟨v, hv, dn⟩ := l.get' q
      exact ⟨v, by rw [hv] <;> rfl, dn⟩
  · rw [List.getElem?_append_right (by simpa using c), List.getElem?_replicate] at e
    split at e <;> cases e
section
variable {P : Program} {w : World} {K : PySem.W.Frag} {mg : Str → Option Value} {base : Heap}
theorem cxt_of {CX : CXT} {N ps : List Str} {sc : Nms} {qual : Str} {scope : Scope} {f : Addr} {cd : Value} {A : Around} {outer : List Env} {s : Shared} {H : Hp} {E : XK} {k : Nat} (S : FnScope N ps scope) (ok : sc.ok scope = true) (hr : Room k (A.deeper (envOfC qual scope s.heap.objs.size f cd))) (hg : A.guards = some []) :
    Cxt (cxOf CX P w K mg base N qual scope f cd A outer s H E).nox N sc P w K mg base k where
  hP := rfl
  hw := rfl
  hK := rfl
  hmg := rfl
  hbase := rfl
  hN := rfl
  nd := S.nd
  calm := rfl
  vis := fun x h => ⟨vis_of ((Nms.at_ ok).1 x h), visB_dbg ((Nms.at_ ok).1 x h)⟩
  loc := fun x h => loc_of ((Nms.at_ ok).2.1 x h)
  lcl := fun x h => lcl_of ((Nms.at_ ok).2.2.1 x h)
  gl := fun x h => ⟨gl_of ((Nms.at_ ok).2.2.2.1 x h), glB_dbg ((Nms.at_ ok).2.2.2.1 x h)⟩
  fn := fun _ _ => .inl rfl
  fr := fun x h => fr_of ((Nms.at_ ok).2.2.2.2 x h)
  kind := S.kind
  room := hr
  gd := hg
  never := PassesOwn.never
/-- a def that lets no exception out, by its body -/
theorem fn2_of {CX : CXT} {x qual : Str} {st : Stmt} {f : Addr} {fd : FuncData} {N ps : List Str} {k : Nat} {sp : Sp2} (F : Fun K x qual st f fd) (S : FnScope N ps (defScope st)) {sc : Nms} (ok : sc.ok (defScope st) = true) (len : ∀ ds M Q E, sp ds M Q E → ds.length = ps.length)
    (hbody : ∀ (X : Cx) (ds : List D) (M : Mem) (Q : QE) (E : XQ), Cxt X N sc P w K mg base k → sp ds M Q E → WSs X (defBody st) { nx := fun _ M' => Q .non M', rt := Q } (start2 N ds) M) : Fn2 P w K mg base CX (k + 1) f fd ps sp := by
  obtain ⟨oc, od, kV, doc, pm, an, cdv, ct, osl, rfl, lk, hcd⟩ := F.ex
  refine ⟨len, ?_⟩
  intro A outer s H args us vs ds M Q E hr hg e0 hb r dl rp h
  have hl : vs.length = ps.length := dl.length.trans (len _ _ _ _ h)
  have old : ∀ b o, base.get? b = some o → s.heap.get? b = some o := fun b o e => (e0.bs b o e).1
  have KX : K.In s.heap := e0.mod.kin.keeps old
  refine codeAny_call_function hr.depth (KX _ _ lk) rfl S.co S.gen rfl (PySem.W.codeRec_of KX hcd) (hb _ _ _ _ (wpAny_newFunctionEnv_cells S.kind ?_ fun env he s1 ic => ?_))
  · rintro ⟨n, v⟩ hy
    exact (S.par n (List.of_mem_zip hy).1).elim .inl fun q => .inr ⟨q, PySem.W.cellsFrom_some _ _ _ (.inl q)⟩
  · subst he
    refine ⟨(e0.mod.nolimit.keeps old).keeps ic.toInCall.keep, codeAny_func ?_⟩
    have I := inv_start (CX := CX) (E := XL K H E) S hr.hd e0 hl r ic
    have C := cxt_of (CX := CX) (P := P) (w := w) (K := K) (mg := mg) (base := base) (qual := qual) (f := f) (cd := cdv) (outer := outer) (H := H) (E := XL K H E) (s := s) S ok (hr.deeper _) hg
    have W := hbody _ ds M Q E C h (L2.start N vs) H ⟨start_env dl, rp⟩
    have W2 := (PSs.nox (t := _) (pssC (st := defBody st))).run [] s1 (L2.start N vs) H _ I W
    refine wpAny_mono W2 (fun fl s' hs => ?_) fun _ _ z => z
    cases fl with
    | next =>
      obtain ⟨σ', H', J, ρ', M', r', t', q⟩ := hs
      exact ⟨.non, H', J.os, J.bare, J.base, J.hok, rfl, .non, M', den_non.mpr rfl, r'.rep, t', q⟩
    | ret u =>
      obtain ⟨v, σ', H', J, rv, q⟩ := hs
      exact ⟨v, H', J.os, J.bare, J.base, J.hok, rv, q⟩
    | brk => obtain ⟨_, _, _, _, _, _, _, q⟩ := hs; exact q.elim
    | cont => obtain ⟨_, _, _, _, _, _, _, q⟩ := hs; exact q.elim
/-- a def as callers know it -/
structure Def2 (P : Program) (w : World) (K : PySem.W.Frag) (mg : Str → Option Value) (base : Heap) (CX : CXT) (k : Nat) (x : Str) (ps : List Str) (sp : Sp2) : Prop where
  ex : ∃ f fd, mg x = some (.ref f) ∧ PySem.W.keepIn K (.ref f) = true ∧ Binds K fd ps [] ∧ Fn2 P w K mg base CX k f fd ps sp
end
theorem un_tk {K : PySem.W.Frag} {fs ex : List Addr} {H H' : Hp} {h h' : Heap} (u : Un fs ex H H' h h') : TK K H H' := by
  refine ⟨fun a xs s => ?_, fun a xs s => ?_⟩
  · rcases s with (s | ⟨o, s⟩) | s
    · exact .inl (.inl (u.tups a xs s))
    · exact .inl (.inr ⟨o, u.frzs a o _ s⟩)
    · exact .inr s
  · rcases s with ⟨o, s⟩ | s
    · exact .inl ⟨o, u.frzs a o _ s⟩
    · exact .inr s
section
variable {X : Cx} {ρ : St2} {M : Mem} {N : List Str} {sc : Nms} {P : Program} {w : World} {K : PySem.W.Frag} {mg : Str → Option Value} {base : Heap} {k0 : Nat}
theorem we_call (C : Cxt X N sc P w K mg base k0) {x : Str} {p pos : Pos} {e : Expr} {es : List Expr} {k : Nat} {ps : List Str} {sp : Sp2} {Q : QE} (G : Def2 P w K mg base CX0 k x ps sp) (hk : k ≤ k0) (hg : (x : Str) ∈ sc.g)
    (hs : starEach (e :: es) X.env = (false, eval e X.env) :: starEach es X.env) (hn : ∀ pos, (backTo pos (starEach es X.env)).any (·.1) = false) (h : WA X (e :: es) ρ M fun ds M1 => sp ds M1 Q fun _ _ _ => False) : WE X (.Call (.Name x p) (e :: es) [] pos) ρ M Q := fun σ H rr pins s I => by
  obtain rfl := C.hP
  obtain rfl := C.hw
  obtain rfl := C.hK
  obtain rfl := C.hmg
  obtain rfl := C.hbase
  obtain ⟨f, fd, hm, hkp, hb, F⟩ := G.ex
  refine wpAny_Call_Name_kw (ld_glob I (C.gl x hg).1 hm (PySem.W.callWith_K (h₀ := X.base) I.ok.mod.kin hkp (thn (h σ H rr pos pins s I) ?_) hs (hn pos)) (C.gl _ hg).2.1)
  rintro us s1 ⟨vs, H1, I1, rv, ds, M1, dn, r1, t1, q⟩
  refine ⟨I1.kIn, ?_⟩
  have hl : us.length = ps.length := by rw [← rv.length, dn.length]; exact F.len _ _ _ _ q
  have hb' := hb s1 us I1.kIn (by simpa using hl)
  rw [List.append_nil] at hb'
  have run := F.run X.A X.stack s1 H1 ⟨us, []⟩ us vs ds M1 Q _ (C.room.mono hk) C.gd I1.env0 hb' rv dn r1.rep q
  refine wpAny_call (codeAny_mono run fun r s' hq => ?_)
  cases r with
  | error e => exact hq.elim
  | ok fl =>
    cases fl with
    | ret u =>
      obtain ⟨v, H', os, bare, un, hok, rv', d, M', dn', rp', tk', qq⟩ := hq
      have tk := un_tk (K := X.K) un
      exact I1.after ⟨v, H', os, bare, un, hok, rv', d, M', dn', ⟨r1.env.mono tk, rp'⟩, t1.trans tk, qq⟩
    | next => exact hq.elim
    | brk => exact hq.elim
    | cont => exact hq.elim
theorem we_call0 (C : Cxt X N sc P w K mg base k0) {x : Str} {p pos : Pos} {k : Nat} {sp : Sp2} {Q : QE} (G : Def2 P w K mg base CX0 k x [] sp) (hk : k ≤ k0) (hg : (x : Str) ∈ sc.g) (h : sp [] M Q fun _ _ _ => False) : WE X (.Call (.Name x p) [] [] pos) ρ M Q := fun σ H rr pins s I => by
  obtain rfl := C.hP
  obtain rfl := C.hw
  obtain rfl := C.hK
  obtain rfl := C.hmg
  obtain rfl := C.hbase
  obtain ⟨f, fd, hm, hkp, hb, F⟩ := G.ex
  refine wpAny_Call_Name_kw (ld_glob I (C.gl x hg).1 hm (PySem.W.callWith_K0 I.kIn hkp ?_) (C.gl _ hg).2.1)
  have hb' := hb s [] I.kIn rfl
  have run := F.run X.A X.stack s H ⟨[], []⟩ [] [] [] M Q _ (C.room.mono hk) C.gd I.env0 hb' .nil DenL.nil rr.rep h
  refine wpAny_call (codeAny_mono run fun r s' hq => ?_)
  cases r with
  | error e => exact hq.elim
  | ok fl =>
    cases fl with
    | ret u =>
      obtain ⟨v, H', os, bare, un, hok, rv', d, M', dn', rp', tk', qq⟩ := hq
      have tk := un_tk (K := X.K) un
      exact I.after ⟨v, H', os, bare, un, hok, rv', d, M', dn', ⟨rr.env.mono tk, rp'⟩, tk, qq⟩
    | next => exact hq.elim
    | brk => exact hq.elim
    | cont => exact hq.elim

/-! ### methods of lists -/
theorem we_append {o e : Expr} {apos cpos : Pos} {Q : QE} (hb : attributeBase o "append" X.env (eval o X.env) = eval o X.env) (hl : (apos.endLine == cpos.line) = true) (hs : starEach [e] X.env = [(false, eval e X.env)])
    (hf : ((backTo cpos (starEach [e] X.env)).all (fun x => !x.1) && (backToKw cpos (keywordEach [] X.env)).all (fun x => x.1.isSome) && decide (([e] : List Expr).length + ([] : List Keyword).length + (if ([] : List Keyword).isEmpty then 0 else 1) < 30)) = true)
    (h : WE X o ρ M fun d M1 => ∃ a ds0, d = .obj a ∧ M1 a = some (.lst ds0) ∧ WE X e ρ M1 fun x M2 => ∃ ds, M2 a = some (.lst ds) ∧ ds.length < sizeLine ∧ Q .non (mup M2 a (.lst (ds ++ [x])))) : WE X (.Call (.Attribute o "append" apos) [e] [] cpos) ρ M Q := fun σ H r => by
  refine cE_of (pe_bm PySem.F.plainAttrs_list PySem.F.slot_list_append PySem.F.type_list_append mt_append peC (pa_cons peC pa_nil hs) hb hf hl hs rfl) ?_
  refine cE_mono ?_ (h σ H r)
  rintro v H1 ⟨d, M1, dn, r1, t1, a, ds0, rfl, e0, q1⟩
  obtain ⟨ys, hy, _⟩ := r1.rep a _ e0
  rw [den_obj.mp dn]
  refine ⟨.inl ⟨rfl, ys, .inl (.inl hy)⟩, ?_⟩
  refine cE_mono ?_ (q1 σ H1 r1)
  rintro u H2 ⟨x, M2, dn2, r2, t2, ds, e1, hz, q⟩
  obtain ⟨xs, hx, lx⟩ := r2.rep a _ e1
  have tk := TK.lst (K := X.K) (o := .lst (xs ++ [u])) hx
  exact ⟨a, xs, u, rfl, rfl, hx, by rw [lx.length]; exact hz, .non, _, den_non.mpr rfl, r2.put (m := .lst (ds ++ [x])) tk ⟨_, upd_same, (lx.append (DenL.cons dn2 DenL.nil)).mono tk⟩, (t1.trans t2).trans tk, q⟩
theorem we_pop {o : Expr} {apos cpos : Pos} {Q : QE} (hb : attributeBase o "pop" X.env (eval o X.env) = eval o X.env) (hl : (apos.endLine == cpos.line) = true)
    (h : WE X o ρ M fun d M1 => ∃ a ds x, d = .obj a ∧ M1 a = some (.lst ds) ∧ ds[ds.length - 1]? = some x ∧ Q x (mup M1 a (.lst ds.dropLast))) : WE X (.Call (.Attribute o "pop" apos) [] [] cpos) ρ M Q := fun σ H r => by
  refine cE_of (pe_bm0 PySem.F.plainAttrs_list PySem.F.slot_list_pop PySem.F.type_list_pop mt_pop peC hb hl) ?_
  refine cE_mono ?_ (h σ H r)
  rintro v H1 ⟨d, M1, dn, r1, t1, a, ds, x, rfl, e0, ex, q⟩
  obtain ⟨ys, hy, ly⟩ := r1.rep a _ e0
  rw [den_obj.mp dn]
  obtain ⟨u, hu, du⟩ := ly.get' ex
  have tk := TK.lst (K := X.K) (o := .lst ys.dropLast) hy
  refine ⟨.inl ⟨rfl, ys, .inl (.inl hy)⟩, a, ys, u, rfl, rfl, hy, by rw [ly.length]; exact hu, x, _, du.mono tk, r1.put (m := .lst ds.dropLast) tk ⟨_, upd_same, ?_⟩, t1.trans tk, q⟩
  have z : DenL X.K H1 ds.dropLast ys.dropLast := by
    rw [List.dropLast_eq_take, List.dropLast_eq_take, ly.length]
    exact ly.take _
  exact z.mono tk
/-! ### dicts with int and text keys -/
def valD (kvs : List (Key × D)) (k : Key) : Option D := (kvs.find? fun kv => decide (kv.1 = k)).map (·.2)
def putD (kvs : List (Key × D)) (k : Key) (d : D) : List (Key × D) := if (kvs.any fun kv => decide (kv.1 = k)) = true then kvs.map (fun kv => if kv.1 = k then (kv.1, d) else kv) else kvs ++ [(k, d)]
theorem KVs.val {H : Hp} {k : Key} {d : D} : ∀ {kvs : List (Key × D)} {vs : List (Key × V)}, KVs K H kvs vs → valD kvs k = some d → ∃ v, valV vs k = some v ∧ Den K H d v := by
  intro kvs vs r
  induction r with
  | nil => intro h; cases h
  | @cons p q ps qs a b ih =>
    intro h
    unfold valD at h
    unfold valV
    rw [List.find?_cons] at h ⊢
    rw [← a.1]
    by_cases c : p.1 = k
    · rw [decide_eq_true c] at h ⊢
      cases h
      exact ⟨q.2, rfl, a.2⟩
    · rw [decide_eq_false c] at h ⊢
      exact ih h
theorem KVs.any {H : Hp} {k : Key} {kvs : List (Key × D)} {vs : List (Key × V)} (r : KVs K H kvs vs) : (vs.any fun kv => decide (kv.1 = k)) = (kvs.any fun kv => decide (kv.1 = k)) := by
  induction r with
  | nil => rfl
  | cons a b ih => rw [List.any_cons, List.any_cons, ih, a.1]
theorem KVs.put {H : Hp} {k : Key} {d : D} {v : V} {kvs : List (Key × D)} {vs : List (Key × V)} (r : KVs K H kvs vs) (dn : Den K H d v) : KVs K H (putD kvs k d) (putK vs k v) := by
  unfold putD putK
  rw [r.any]
  by_cases c : (kvs.any fun kv => decide (kv.1 = k)) = true
  · rw [if_pos c, if_pos c]
    clear c
    induction r with
    | nil => exact .nil
    | @cons p q ps qs a b ih =>
      rw [List.map_cons, List.map_cons]
      refine .cons ?_ ih
      rw [← a.1]
      by_cases e : p.1 = k
      · rw [if_pos e, if_pos e]; exact ⟨rfl, dn⟩
      · rw [if_neg e, if_neg e]; exact a
  · rw [if_neg c, if_neg c]
    exact Paired.snoc r ⟨rfl, dn⟩
theorem KVs.len {H : Hp} {kvs : List (Key × D)} {vs : List (Key × V)} (r : KVs K H kvs vs) : kvs.length = vs.length := Paired.length r
/-- the key that a value is -/
def keyD : D → Option Key
  | .int i => some (.inl i)
  | .str x => some (.inr x)
  | _ => none
theorem keyD_v {H : Hp} {d : D} {k : Key} {v : V} (e : keyD d = some k) (a : Den K H d v) : v = kV k := by
  cases d <;> first | cases e | skip
  · rw [den_int.mp a]; rfl
  · rw [den_str.mp a]; rfl
theorem we_dget (C : Cxt X N sc P w K mg base k0) {o i : Expr} {pos : Pos} {Q : QE} (ns : NoSl i) (h : WE X o ρ M fun d1 M1 => WE X i ρ M1 fun d2 M2 => ∃ a kvs k d, d1 = .obj a ∧ keyD d2 = some k ∧ M2 a = some (.dk kvs) ∧ valD kvs k = some d ∧ Q d M2) : WE X (.Subscript o i pos) ρ M Q := fun σ H r => by
  refine cE_of (pe_dget (hu_of C.room) peC peC ns) ?_
  refine cE_mono ?_ (h σ H r)
  rintro x H1 ⟨d1, M1, dn1, r1, t1, q1⟩
  refine cE_mono ?_ (q1 σ H1 r1)
  rintro y H2 ⟨d2, M2, dn2, r2, t2, a, kvs, k, d, rfl, ek, ea, ev, q⟩
  obtain ⟨vs, hv, kv⟩ := r2.rep a _ ea
  obtain ⟨v, e1, dn⟩ := kv.val ev
  rw [den_obj.mp (dn1.mono t2), keyD_v ek dn2]
  exact ⟨a, v, rfl, .inl ⟨vs, k, .inl hv, rfl, e1.symm⟩, d, M2, dn, r2, t1.trans t2, q⟩
theorem ws_dput (C : Cxt X N sc P w K mg base k0) {o i e : Expr} {pos pos' : Pos} {E : Ends2} (hs : swapsWith e (some (.Subscript o i pos')) pos.line X.env = pure false)
    (h : WE X e ρ M fun d M1 => WE X o ρ M1 fun d1 M2 => WE X i ρ M2 fun d2 M3 => ∃ a kvs k, d1 = .obj a ∧ keyD d2 = some k ∧ M3 a = some (.dk kvs) ∧ kvs.length < sizeLine ∧ E.nx ρ (mup M3 a (.dk (putD kvs k d)))) : WS X (.Assign [.Subscript o i pos'] e pos) E ρ M := fun σ H r => by
  refine cS_of (ps_dput (hu_of C.room) peC peC peC hs) ?_
  refine cE_mono ?_ (h σ H r)
  rintro v H1 ⟨d, M1, dn, r1, t1, q1⟩
  refine cE_mono ?_ (q1 σ H1 r1)
  rintro x H2 ⟨d1, M2, dn1, r2, t2, q2⟩
  refine cE_mono ?_ (q2 σ H2 r2)
  rintro y H3 ⟨d2, M3, dn2, r3, t3, a, kvs, k, rfl, ek, ea, hz, q⟩
  obtain ⟨vs, hv, kv⟩ := r3.rep a _ ea
  rw [den_obj.mp (dn1.mono t3), keyD_v ek dn2]
  have tk := TK.dK (K := X.K) (o := .dK (putK vs k v)) hv
  refine ⟨a, _, rfl, .inl ⟨vs, k, hv, rfl, by rw [← kv.len]; exact hz, rfl⟩, ρ, _, r3.put (m := .dk (putD kvs k d)) tk ⟨_, upd_same, (kv.put (dn.mono (t2.trans t3))).mono tk⟩, ((t1.trans t2).trans t3).trans tk, q⟩
theorem we_dnil {pos : Pos} {Q : QE} (h : ∀ p, M p = none → Q (.obj p) (mup M p (.dk []))) : WE X (.Dict [] [] pos) ρ M Q := fun σ H r => cE_of pe_dnewK fun p hp =>
  ⟨.obj p, _, den_obj.mpr rfl, r.put (m := .dk []) (TK.fresh hp) ⟨[], upd_same, .nil⟩, TK.fresh hp, h p (r.rep.free hp)⟩
/-- a display of three text keys -/
theorem we_disp3 {k1 k2 k3 : Str} {j1 j2 j3 : Nat} {q1 q2 q3 pos : Pos} {e1 e2 e3 : Expr} {Q : QE} (n12 : k2 ≠ k1) (n13 : k3 ≠ k1) (n23 : k3 ≠ k2)
    (h : ∀ p, M p = none → WE X e1 ρ (mup M p (.dk [])) fun d1 M1 => WE X e2 ρ M1 fun d2 M2 => WE X e3 ρ M2 fun d3 M3 => M3 p = some (.dk []) ∧ Q (.obj p) (mup M3 p (.dk [(.inr k1, d1), (.inr k2, d2), (.inr k3, d3)]))) :
    WE X (.Dict [some (.Constant (.str k1) j1 q1), some (.Constant (.str k2) j2 q2), some (.Constant (.str k3) j3 q3)] [e1, e2, e3] pos) ρ M Q := fun σ H r => by
  refine cE_of (pe_disp (pps_cons pe_str peC (pps_cons pe_str peC (pps_cons pe_str peC pps_nil))) rfl rfl (by simp) (by show 3 ≤ 15; decide)) ?_
  intro p hp
  have r0 := r.put (m := .dk []) (o := .dK []) (TK.fresh hp) ⟨[], upd_same, .nil⟩
  refine cE_mono ?_ (h p (r.rep.free hp) σ _ r0)
  rintro v1 H1 ⟨d1, M1, dn1, r1, t1, z1⟩
  refine cE_mono ?_ (z1 σ H1 r1)
  rintro v2 H2 ⟨d2, M2, dn2, r2, t2, z2⟩
  refine cE_mono ?_ (z2 σ H2 r2)
  rintro v3 H3 ⟨d3, M3, dn3, r3, t3, ep, q⟩
  obtain ⟨vs, hv, kv⟩ := r3.rep p _ ep
  cases kv
  refine ⟨hv, [(.inr k1, v1), (.inr k2, v2), (.inr k3, v3)], rfl, by show 3 ≤ 15; decide, ?_⟩
  have e : mergeK [] [((.inr k1 : Key), v1), (.inr k2, v2), (.inr k3, v3)] = [(.inr k1, v1), (.inr k2, v2), (.inr k3, v3)] := by
    have c1 : ¬ ((Sum.inr k1 : Key) = Sum.inr k2) := fun z => n12 (Sum.inr.inj z).symm
    have c2 : ¬ ((Sum.inr k1 : Key) = Sum.inr k3) := fun z => n13 (Sum.inr.inj z).symm
    have c3 : ¬ ((Sum.inr k2 : Key) = Sum.inr k3) := fun z => n23 (Sum.inr.inj z).symm
    simp [mergeK, putK, c1, c2, c3]
  rw [e]
  have tk := TK.dK (K := X.K) (o := .dK [(.inr k1, v1), (.inr k2, v2), (.inr k3, v3)]) hv
  refine ⟨.obj p, _, den_obj.mpr rfl, r3.put (m := .dk [(.inr k1, d1), (.inr k2, d2), (.inr k3, d3)]) tk ⟨_, upd_same, ?_⟩, (((TK.fresh hp).trans t1).trans (t2.trans t3)).trans tk, q⟩
  exact .cons ⟨rfl, (dn1.mono ((t2.trans t3).trans tk))⟩ (.cons ⟨rfl, dn2.mono (t3.trans tk)⟩ (.cons ⟨rfl, dn3.mono tk⟩ .nil))
end
end Y

set_option Elab.async false
set_option linter.all false
set_option autoImplicit false
set_option maxRecDepth 100000
set_option maxHeartbeats 4000000
/-! what the hand layer lacks: enumerate(tuple), sum(tuple of ints), tuple * 1 -/
namespace Y
open PySem PySem.Spec PyProof.Rows L2

/-! ### enumerate(tuple) -/
set_option maxHeartbeats 1000000 in
theorem meets_enumT {v : Value} {o : Obj} {H : Heap → Prop} (B : Begins v o H) : Meets (Builtin.«enumerate.__new__» ⟨[.type "enumerate", v], []⟩) (fun _ R s => H s.heap ∧ R (.ok (.ret (.ref (s.heap.push o).objs.size)))
    { s with heap := (s.heap.push o).push { cls := .type "enumerate", data := .fields #[.none, .bool false, .ref s.heap.objs.size, rawInt 0, .none, .none] } }) :=
  .of_wp fun prog w A R s h => by
    obtain ⟨hp, g, d, tk, os⟩ := s
    obtain ⟨h1, h⟩ := h
    have hsub := sub_enumerate
    have q1 {A' : Around} {E : Value → Shared → Prop} {Q : Value → Shared → Prop} (q : Q (.ref hp.objs.size) ⟨hp.push o, g, d, tk, os⟩) : wpAny (model prog w) A' (pyIter v) Q E ⟨hp, g, d, tk, os⟩ := B.iter prog w _ _ ⟨hp, g, d, tk, os⟩ _ h1 q
    wp_walk using q1
    refine wpAny_stack_any fun st => wpAny_pure ?_
    split
    · rename_i c _ _ _ _ _
      cases (c == Value.type "enumerate") <;> (wp_walk using q1; exact ⟨_, rfl, h⟩)
    · wp_walk using q1
      exact ⟨_, rfl, h⟩
section
variable {prog : Program} {w : World} {A : Around} {E : Value → Shared → Prop} {s : Shared}
theorem call_enumT {v : Value} {o : Obj} {H : Heap → Prop} {Q : Value → Shared → Prop} (B : Begins v o H) (h1 : H s.heap)
    (h : ∀ h', IsEnum h' (s.heap.objs.size + 1) s.heap.objs.size 0 .none → h'.get? s.heap.objs.size = some o → h'.objs.size = s.heap.objs.size + 2 → (∀ b o, s.heap.get? b = some o → h'.get? b = some o) → Q (.ref (s.heap.objs.size + 1)) { s with heap := h' }) : wpAny (model prog w) A (call (.type "enumerate") [v]) Q E s := by
  refine callType_new F.called_enumerate (by decide) (F.typeCall_enumerate_1 _) (F.newCall_enumerate_1 _) (fun obj => F.args_object_init_2 obj _) F.entry_enumerate_new (meets_enumT B) ⟨h1, ?_⟩
  have hz : (s.heap.push o).objs.size = s.heap.objs.size + 1 := Heap.size_push ..
  show _ ∧ _
  rw [hz]
  generalize hg : ({ cls := .type "enumerate", data := .fields #[.none, .bool false, .ref s.heap.objs.size, rawInt 0, .none, .none] } : Obj) = ob
  have he : ((s.heap.push o).push ob).get? (s.heap.objs.size + 1) = some ob := by
    have := Heap.get?_push_size (s.heap.push o) (o := ob) (by rw [← hg]; rfl)
    rw [hz] at this
    exact this
  have he' : IsEnum ((s.heap.push o).push ob) (s.heap.objs.size + 1) s.heap.objs.size 0 .none := by subst hg; exact he
  refine ⟨⟨ob, he, by rw [← hg]⟩, h _ he' (Heap.get?_push_of_some _ (Heap.get?_push_size _ B.free)) (by rw [Heap.size_push, hz]) fun b u x => Heap.get?_push_of_some _ (Heap.get?_push_of_some _ x)⟩
end
/-- the tuple at a, each item in a new pair -/
def IteT (K : PySem.W.Frag) (a : Addr) : It where
  go := fun i H => ∃ (xs : List V) (x : V), SqT K H a xs ∧ xs[i]? = some x
  yld := fun i H v H' => ∃ T x, v = .ref T ∧ H T = none ∧ H' = upd H T (.tup [.int (i : Nat), x]) ∧ ∀ xs, SqT K H a xs → xs[i]? = some x
  stop := fun i H => ∃ xs : List V, SqT K H a xs ∧ xs.length = i
def stT (a e it : Addr) (its : Array Value) : Nat → Heap → Prop := fun i h => (∃ old, IsEnum h e it ((i : Nat) : Int) old) ∧ h.IsTupleIter it a i ∧ h.IsTuple a its
theorem turn_enumT {P : Program} {w : World} {K : PySem.W.Frag} {elts : List Expr} {kk : Nat} {tpos : Pos} {a e it : Addr} {its : Array Value} (hne : e ≠ it) (hae : e ≠ a) (hai : a ≠ it) : Turn P w K (.Tuple elts kk tpos) (IteT K a) [e, it] e (fun i h => (∃ old, IsEnum h e it ((i : Nat) : Int) old) ∧ h.IsTupleIter it a i) where
  mem := List.mem_cons_self
  obj := by
    rintro i h ⟨⟨old, he⟩, o, ho, hc, hd⟩ b hb
    rcases List.mem_cons.mp hb with rfl | hb
    · exact ⟨_, he, fun v q => nomatch q⟩
    · obtain rfl := List.mem_singleton.mp hb
      exact ⟨o, ho, fun v q => by rw [hd] at q; cases q⟩
  keep := fun i h h' ⟨⟨old, he⟩, hi⟩ k => ⟨⟨old, k e List.mem_cons_self _ he⟩, hi.at fun o q => k it (List.mem_cons_of_mem _ List.mem_cons_self) o q⟩
  item := by
    rintro X rfl rfl rfl hc i pins s σ H E I hf ⟨⟨old, he⟩, hit⟩ ⟨xs, x, hq, hx⟩
    obtain ⟨its, rv, ⟨oa, ea, ca, na, da⟩, hz⟩ := I.tuple hq
    have p : s.heap.IsTuple a its.toArray := ⟨oa, ea, ca, na, da⟩
    obtain ⟨u, hu, ru⟩ := rv.get hx
    have hel : e < s.heap.objs.size := Heap.lt_size he
    have hil : it < s.heap.objs.size := by obtain ⟨_, q, _⟩ := hit; exact Heap.lt_size q
    have hsz : i < its.toArray.size := by
      rw [List.size_toArray]
      exact (List.getElem?_eq_some_iff.mp hu).1
    refine wpAny_pyNext_enum_itemC (Draws.tuple (A := X.A.in1) (I.ok.hd hc) it a hai its.toArray) he ⟨hit, p⟩ hsz hne ?_ fun x' h' tk hP ho st' hT hz' hk => ?_
    · intro hm
      rcases List.mem_cons.mp hm with z | hm
      · exact hne z
      · exact hae (List.mem_singleton.mp hm)
    have ex : x' = u := by
      have z : its.toArray[i]? = some u := by simpa using hu
      exact Option.some.inj (hP.symm.trans z)
    subst ex
    refine ⟨_, rfl, wpAny_letOwnedTupleGo_enum (s := { s with heap := h', toks := tk + 1 }) ho fun h2 he' sb => ?_⟩
    have hT2 := (sb.2 _ (Nat.ne_of_gt hel)).trans hT
    have new : ObjOk X.prog X.w (upd H s.heap.objs.size (.tup [.int (i : Nat), x])) h2 s.heap.objs.size (.tup [.int (i : Nat), x]) := ⟨by show 2 ≤ sizeLine; decide, _, .cons ⟨tk, rfl⟩ (.cons ru .nil), ⟨_, hT2, rfl, _, rfl⟩⟩
    have I1 := I.turnedNew (t' := tk + 1) (ch := [e, it]) (fun b ob hb q => (sb.2 b (fun z => hb (by simp [z]))).trans (hk b ob (fun z => hb (by simp [z])) (fun z => hb (by simp [z])) q)) hf (Nat.le_refl _) new
    refine ⟨.ref s.heap.objs.size, _, I1, rfl, ⟨_, x, rfl, I.hok.fresh (Nat.le_refl _), rfl, fun ys hy => by rw [I.tuple_inj hy hq]; exact hx⟩, ⟨⟨x', ?_⟩, st'.1.at fun o q => (sb.2 it (Ne.symm hne)).trans q⟩, fun b hb => ?_⟩
    · rw [show ((i + 1 : Nat) : Int) = (i : Int) + 1 by omega]
      exact he'
    · have hb' : b < s.heap.objs.size := by
        rcases List.mem_cons.mp hb with z | z
        · rw [z]; exact hel
        · rw [List.mem_singleton.mp z]; exact hil
      rw [upd_ne (Nat.ne_of_lt hb')]
      exact (hf b hb).1
  done := by
    rintro X rfl rfl rfl hc i pins s σ H E I hf ⟨⟨old, he⟩, hit⟩ ⟨xs, hq, hx⟩
    obtain ⟨its, rv, ⟨oa, ea, ca, na, da⟩, hz⟩ := I.tuple hq
    have p : s.heap.IsTuple a its.toArray := ⟨oa, ea, ca, na, da⟩
    obtain ⟨f0, f1, f2, f3, f4, f5⟩ := hf it (by simp)
    have hn : i = its.toArray.size := by rw [List.size_toArray, ← hx]; exact rv.length
    subst hn
    exact wpAny_pyNext_enum_endD (Draws.tuple (A := X.A.in1) (I.ok.hd hc) it a hai its.toArray) he ⟨hit, p⟩ fun h' eb => ⟨rfl, I.turned (t' := s.toks) (fun b o hb q => eb b o hb q) f0 f1 f3 f4 f5⟩
  self := fun A i s Q E ⟨⟨_, he⟩, _⟩ h => wpAny_pyIter_enum he h
def iEnumT (K : PySem.W.Frag) (ta : TA) : TI := fun σ H R => ta σ H fun vs H1 => ∃ a xs, vs = [.ref a] ∧ SqT K H1 a xs ∧ R (IteT K a) H1
theorem pi_enumT {X : Cx} {e : Expr} {ta : TA} {p pos tpos : Pos} {elts : List Expr} {kk : Nat} (hg : Gl X "enumerate") (hm : X.mg "enumerate" = none) (ha : PA X [e] ta) (hs : starEach [e] X.env = [(false, eval e X.env)]) :
    PI X (.Tuple elts kk tpos) (.Call (.Name "enumerate" p) [e] [] pos) (iEnumT X.K ta) := by
  refine ⟨fun pins s σ H R I h => Call_ (ld_blt I hg hm boot_enumerate (PyProof.Rows.callWith_type1 (thn (ha.run pos pins s σ H _ I h) ?_) hs rfl))⟩
  rintro us s1 ⟨vs, H1, I1, r1, a, xs, rfl, hq, q⟩
  obtain rfl := Vals.ref1 r1
  obtain ⟨its, rv, ⟨oa, ea, ca, na, da⟩, hz⟩ := I1.tuple hq
  have hla : a < s1.heap.objs.size := Heap.lt_size ea
  refine call_enumT (begins_tuple a its.toArray) ⟨oa, ea, ca, na, da⟩ fun h' he hit hsz hk => wpAny_pyIter_enum he ?_
  have I2 := I1.kept (t' := s1.toks) hk
  refine ⟨s1.heap.objs.size + 1, [s1.heap.objs.size + 1, s1.heap.objs.size], _, _, H1, rfl, I2, turn_enumT (its := its.toArray) (a := a) (Nat.succ_ne_self _) (Nat.ne_of_gt (Nat.lt_succ_of_lt hla)) (Nat.ne_of_lt hla), ⟨⟨.none, he⟩, ⟨_, hit, rfl, rfl⟩⟩, fun b hb => ?_, q⟩
  have hle : s1.heap.objs.size ≤ b := by
    rcases List.mem_cons.mp hb with z | z
    · rw [z]; exact Nat.le_succ _
    · rw [List.mem_singleton.mp z]; exact Nat.le_refl _
  exact I1.fpOk hle (I1.hok.fresh hle)
theorem adeq_enumT {K : PySem.W.Frag} {H1 : Hp} {a : Addr} {ds : List D} {xs : List V} (s0 : SqT K H1 a xs) (l0 : DenL K H1 ds xs) : Adeq K H1 (IteT K a) (enumD ds) (fun _ => True) where
  go := fun i ρ M σ H r t s hi => by
    rw [enumD_len] at hi
    obtain ⟨v, hv, _⟩ := l0.get' (List.getElem?_eq_getElem hi)
    exact ⟨xs, v, t.t _ _ s0, hv⟩
  yld := fun i ρ M σ H x d H' r t s hd ⟨T, y, e1, hT, e2, hy⟩ => by
    subst e1 e2
    obtain ⟨e, he, rfl⟩ := enumD_get hd
    obtain ⟨v, hv, dn⟩ := l0.get' he
    have z := hy xs (t.t _ _ s0)
    rw [hv] at z
    cases z
    exact pair_new r hT (den_int.mpr rfl) (dn.mono t)
  stop := fun ρ M σ H r t s => ⟨xs, t.t _ _ s0, by rw [enumD_len]; exact l0.length⟩

/-! ### sum(tuple of ints) -/
def rSumT (K : PySem.W.Frag) : List V → Hp → VK → Prop := fun vs H Q => ∃ (a : Addr) (ns : List Int), vs = [V.ref a] ∧ SqT K H a (ns.map V.int) ∧ Q (.int ns.sum) H
theorem cr_sumT {X : Cx} (hc : X.calm = true) : CallR X (.builtin "sum") (rSumT X.K) := by
  rintro pins s σ H vs us Q I r ⟨a, ns, rfl, hs, q⟩
  obtain ⟨its, rv, ⟨oa, ea, ca, na, da⟩, hz⟩ := I.tuple hs
  rw [Vals.ref1 r]
  have hi := rv.ints
  obtain ⟨xs, e⟩ := hi.allInts.items
  have hn : numsOf (intItems xs).toList = ns := by rw [← e]; exact hi.numsOf
  rw [nums_intItems] at hn
  have ht : s.heap.IsTuple a (intItems xs) := by rw [← e]; exact ⟨oa, ea, ca, na, da⟩
  refine PySem.W.ktm_sumG (I.ok.hd hc) ht fun h' tk t' hk => ?_
  rw [preSum_eq, List.take_of_length_le (by simp), hn]
  exact ⟨.int _, H, I.kept hk, ⟨_, rfl⟩, q⟩

/-! ### tuple * 1 -/
theorem tuple_mul1 (l : Addr) (items : Array Value) (n : Nat) (dd : Option Addr) (sl : Array (Option Value)) (u : Tok) (ne : items.isEmpty = false) :
    Meets (Builtin.«tuple.__mul__» ⟨[.ref l, .int 1 u], []⟩) (fun _ R s => s.heap.get? l = some { cls := .type "tuple", dict := dd, data := .seq items n, slots := sl } ∧ R (.ok (.ret (Value.ref l))) s) :=
  .of_wp fun prog w A R s h => by
    obtain ⟨hp, g, d, tk, os⟩ := s
    obtain ⟨hl, h⟩ := h
    have f1 := AutoSeq1.idx_int
    wp_walk using wpAny_loadPart' hl
    exact ⟨_, rfl, h⟩
def rRep1 (K : PySem.W.Frag) : R2 := fun x y H Q => ∃ l xs, x = .ref l ∧ y = .int 1 ∧ SqT K H l xs ∧ xs ≠ [] ∧ Q (.ref l) H
theorem op_rep1 {X : Cx} : OpR X (binaryOp .Mult) (rRep1 X.K) := by
  rintro pins s σ H x y v u Q I rx ry ⟨l, xs, rfl, rfl, hT, hne, q⟩
  cases rx
  obtain ⟨t, rfl⟩ := ry
  obtain ⟨its, r, ⟨⟨cls, dd, data, sl⟩, ho, hc, n, hd⟩, hs⟩ := I.tuple hT
  simp only at hc hd
  subst hc hd
  have hi : its.toArray.isEmpty = false := by
    cases its with
    | nil => exact absurd (List.eq_nil_of_length_eq_zero r.length) hne
    | cons a b => rfl
  refine wpAny_binaryOp_repeat_ref (T := "tuple") (U := "int") (by decide) ⟨_, ho, rfl⟩ (fun s' => typeIs_int s' 1 t) noFill_tuple_mul F.fills_int_mul F.slot_int_rmul repeat_tuple F.slot_int_index.lookup ?_
  refine call_meets F.slot_int_rmul (typeIs_int s 1 t) F.entry_int_rmul (F.args_int_rmul_2 _ _) (int_rmul_tuple 1 t l its.toArray n dd sl) ⟨ho, rfl, ⟨_, ho, rfl⟩, ?_⟩
  exact call_meets F.slot_tuple_mul ⟨_, ho, rfl⟩ F.entry_tuple_mul (F.args_tuple_mul_2 _ _) (tuple_mul1 l its.toArray n dd sl t hi) ⟨ho, ⟨.ref l, H, I, rfl, q⟩⟩
/-! ### tuple * 0 -/
theorem tuple_mul0 (l : Addr) (items : Array Value) (n : Nat) (dd : Option Addr) (sl : Array (Option Value)) (x : Int) (u : Tok) (c0 : (decide (x < -(2 ^ 63)) || decide (x ≥ 2 ^ 63)) = false) (c1 : (items.isEmpty || x == 1) = false) (c2 : (decide (x ≤ 0) || items.isEmpty) = true) :
    Meets (Builtin.«tuple.__mul__» ⟨[.ref l, .int x u], []⟩) (fun _ R s => s.heap.get? l = some { cls := .type "tuple", dict := dd, data := .seq items n, slots := sl } ∧
      R (.ok (.ret (Value.ref s.heap.objs.size))) { s with heap := s.heap.push { cls := Value.type "tuple", data := Data.seq #[] }, toks := s.toks }) :=
  .of_wp fun prog w A R s h => by
    obtain ⟨hp, g, d, tk, os⟩ := s
    obtain ⟨hl, h⟩ := h
    have f1 := AutoSeq1.idx_int
    wp_walk using wpAny_loadPart' hl
    repeat (first
      | (refine wpAny_ite_false (decide_eq_false (by rw [c0]; exact Bool.false_ne_true)) ?_; wp_walk using wpAny_loadPart' hl)
      | (refine wpAny_ite_false (decide_eq_false (by rw [c1]; exact Bool.false_ne_true)) ?_; wp_walk using wpAny_loadPart' hl)
      | (refine wpAny_ite_true (decide_eq_true (by rw [c2])) ?_; wp_walk using wpAny_loadPart' hl))
    exact ⟨_, rfl, h⟩
def rRep0 (K : PySem.W.Frag) : R2 := fun x y H Q => ∃ l k xs, x = .ref l ∧ y = .int k ∧ SqT K H l xs ∧ xs ≠ [] ∧ -1000 ≤ k ∧ k ≤ 0 ∧ ∀ p, H p = none → Q (.ref p) (upd H p (.tup []))
theorem op_rep0 {X : Cx} : OpR X (binaryOp .Mult) (rRep0 X.K) := by
  rintro pins s σ H x y v u Q I rx ry ⟨l, k, xs, rfl, rfl, hT, hne, h1, h2, q⟩
  cases rx
  obtain ⟨t, rfl⟩ := ry
  obtain ⟨its, r, ⟨⟨cls, dd, data, sl⟩, ho, hc, n, hd⟩, hs⟩ := I.tuple hT
  simp only at hc hd
  subst hc hd
  have hi : its.toArray.isEmpty = false := by
    cases its with
    | nil => exact absurd (List.eq_nil_of_length_eq_zero r.length) hne
    | cons a b => rfl
  have c0 : (decide (k < -(2 ^ 63)) || decide (k ≥ 2 ^ 63)) = false := by
    rw [decide_eq_false (by omega), decide_eq_false (by omega)] <;> rfl
  have c1 : (its.toArray.isEmpty || k == 1) = false := by
    rw [hi, Bool.false_or]
    exact beq_eq_false_iff_ne.mpr (by omega)
  have c2 : (decide (k ≤ 0) || its.toArray.isEmpty) = true := by rw [decide_eq_true h2]; rfl
  refine wpAny_binaryOp_repeat_ref (T := "tuple") (U := "int") (by decide) ⟨_, ho, rfl⟩ (fun s' => typeIs_int s' k t) noFill_tuple_mul F.fills_int_mul F.slot_int_rmul repeat_tuple F.slot_int_index.lookup
    (call_meets F.slot_int_rmul (typeIs_int s k t) F.entry_int_rmul (F.args_int_rmul_2 _ _) (int_rmul_tuple k t l its.toArray n dd sl)
      ⟨ho, rfl, ⟨_, ho, rfl⟩, call_meets F.slot_tuple_mul ⟨_, ho, rfl⟩ F.entry_tuple_mul (F.args_tuple_mul_2 _ _) (tuple_mul0 l its.toArray n dd sl k t c0 c1 c2) ⟨ho, ?_⟩⟩)
  refine ⟨.ref s.heap.objs.size, _, I.laid (t' := s.toks) (o := .tup []) (fun b ob q => Heap.get?_push_of_some _ q) (Nat.le_refl _) ?_, rfl, q _ (I.hok.fresh (Nat.le_refl _))⟩
  exact ⟨Nat.zero_le _, [], .nil, IsTup.new _ _⟩
section
variable {X : Cx} {ρ : St2} {M : Mem} {N : List Str} {sc : Nms} {P : Program} {w : World} {K : PySem.W.Frag} {mg : Str → Option Value} {base : Heap} {k0 : Nat}
/-- * -/
def mul2 : D → D → Mem → QE → Prop
  | .int i, .int j, M, Q => CMulW i j ∧ Q (.int (i * j)) M
  | .tup ds, .int k, M, Q => ds ≠ [] ∧ -1000 ≤ k ∧ k ≤ 1000 ∧ ds.length ≤ 1000 ∧ Q (.tup (List.replicate k.toNat ds).flatten) M
  | .obj a, .int k, M, Q => ∃ ds, M a = some (.lst ds) ∧ -(2 ^ 63) ≤ k ∧ k < 2 ^ 63 ∧ ds.length * k.toNat ≤ sizeLine ∧ ∀ p, M p = none → Q (.obj p) (mup M p (.lst (List.replicate k.toNat ds).flatten))
  | _, _, _, _ => False
theorem ob_mul : OpB X (binaryOp .Mult) mul2 := by
  refine ⟨_, opr_or op_mulW (opr_or op_rep1 (opr_or op_repT (opr_or op_rep op_rep0))), ?_, ?_⟩
  · refine rm_or ?_ (rm_or ?_ (rm_or ?_ (rm_or ?_ ?_)))
    · rintro x y H Q Q' m ⟨i, j, a, b, c, q⟩; exact ⟨i, j, a, b, c, m _ _ q⟩
    · rintro x y H Q Q' m ⟨i, j, a, b, c, d, q⟩; exact ⟨i, j, a, b, c, d, m _ _ q⟩
    · rintro x y H Q Q' m ⟨l, k, xs, a, b, c, d, e, f, g, q⟩; exact ⟨l, k, xs, a, b, c, d, e, f, g, fun p hp => m _ _ (q p hp)⟩
    · rintro x y H Q Q' m ⟨l, k, xs, a, b, c, d, e, f, q⟩; exact ⟨l, k, xs, a, b, c, d, e, f, fun p hp => m _ _ (q p hp)⟩
    · rintro x y H Q Q' m ⟨l, k, xs, a, b, c, d, e, f, q⟩; exact ⟨l, k, xs, a, b, c, d, e, f, fun p hp => m _ _ (q p hp)⟩
  · intro d1 d2 x y H ρ σ M H0 Q a b r t h
    cases d1 <;> cases d2 <;> try exact False.elim h
    · rw [den_int] at a b
      exact .inl ⟨_, _, a, b, h.1, _, M, den_int.mpr rfl, r, t, h.2⟩
    · rename_i ds k
      obtain ⟨p, xs, rfl, sp, lp⟩ := den_tup.mp a
      rw [den_int] at b
      subst b
      obtain ⟨h1, h2, h3, h4, q⟩ := h
      have hx : xs ≠ [] := fun e => h1 (List.eq_nil_of_length_eq_zero (by rw [← lp.length, e]; rfl))
      by_cases c : k = 1
      · subst c
        refine .inr (.inl ⟨p, xs, rfl, rfl, sp, hx, .tup ds, M, a, r, t, ?_⟩)
        have e : (List.replicate (1 : Int).toNat ds).flatten = ds := by simp
        rw [e] at q
        exact q
      · by_cases c0 : k ≤ 0
        · refine .inr (.inr (.inr (.inr ⟨p, k, xs, rfl, rfl, sp, hx, h2, c0, fun n hn => ?_⟩)))
          have e : (List.replicate k.toNat ds).flatten = [] := by rw [show k.toNat = 0 by omega]; rfl
          rw [e] at q
          exact ⟨_, M, den_newT hn DenL.nil, r.newT hn, t.trans (TK.fresh hn), q⟩
        refine .inr (.inr (.inl ⟨p, k, xs, rfl, rfl, sp, hx, by omega, h3, by rw [lp.length]; exact h4, fun n hn => ?_⟩))
        exact ⟨_, M, den_newT hn (lp.flatten_rep _), r.newT hn, t.trans (TK.fresh hn), q⟩
    · rename_i p k
      rw [den_obj] at a
      rw [den_int] at b
      subst a b
      obtain ⟨ds, e, h1, h2, h3, q⟩ := h
      obtain ⟨xs, hx, l⟩ := r.rep.lst e
      exact .inr (.inr (.inr (.inl ⟨p, k, xs, rfl, rfl, hx, h1, h2, by rw [l.length]; exact h3, fun n hn => ⟨.obj n, _, den_obj.mpr rfl, r.newL hn (l.flatten_rep _), t.trans (TK.fresh hn), q n (r.rep.free hn)⟩⟩)))
theorem wi_enumT (C : Cxt X N sc P w K mg base k0) {e : Expr} {p pos tpos : Pos} {elts : List Expr} {kk : Nat} {Q : QI} (hg : ("enumerate" : Str) ∈ sc.g) (hm : mg "enumerate" = none) (hs : starEach [e] X.env = [(false, eval e X.env)])
    (h : WE X e ρ M fun d M1 => ∃ as, d = .tup as ∧ Q (enumD as) (fun _ => True) M1) : WI X (.Tuple elts kk tpos) (.Call (.Name "enumerate" p) [e] [] pos) ρ M Q := fun σ H r => by
  obtain rfl := C.hmg
  refine cI_of (pi_enumT (C.gl _ hg).1 hm (pa_cons peC pa_nil hs) hs) ?_
  refine cE_mono ?_ (h σ H r)
  rintro v H1 ⟨d, M1, dn, r1, t1, as, rfl, q⟩
  obtain ⟨a, xs, rfl, sq, l⟩ := den_tup.mp dn
  exact ⟨a, xs, rfl, sq, _, _, M1, r1, t1, adeq_enumT sq l, q⟩
theorem callr_or {f : Value} {r r' : List V → Hp → VK → Prop} (h : CallR X f r) (h' : CallR X f r') : CallR X f (fun xs H Q => r xs H Q ∨ r' xs H Q) := fun pins s σ H xs us Q I rv q => q.elim (h pins s σ H xs us Q I rv) (h' pins s σ H xs us Q I rv)
/-- sum of a list or tuple of ints -/
def sumA (ds : List D) (M : Mem) (Q : QE) : Prop := ∃ (d : D) (ns : List Int), ds = [d] ∧ itemsOf M d = some (ns.map D.int) ∧ Q (.int ns.sum) M
theorem cl_sumA : CallL K (fun xs H Q => rSum K xs H Q ∨ rSumT K xs H Q) sumA := by
  rintro ds vs H ρ σ M H0 Q dn r t ⟨d, ns, rfl, e, q⟩
  obtain ⟨v, rfl, a⟩ := one_arg (ds := []) dn
  obtain ⟨p, xs, rfl, s, l⟩ := itemsOf_sq r e a
  rw [l.ints] at s
  exact s.elim (fun s => .inl ⟨p, ns, rfl, s, _, M, den_int.mpr rfl, r, t, q⟩) fun s => .inr ⟨p, ns, rfl, s, _, M, den_int.mpr rfl, r, t, q⟩
end
end Y

set_option Elab.async false
set_option linter.all false
set_option autoImplicit false
set_option maxRecDepth 100000
set_option maxHeartbeats 4000000
/-! small lemmas for the steps -/
namespace Y
open PySem PySem.Spec PyProof.Rows L2
/-! ### sizes of ints -/
def Bd (k : Nat) (i : Int) : Prop := i.natAbs < 2 ^ k
instance {k : Nat} {i : Int} : Decidable (Bd k i) := by unfold Bd; infer_instance
theorem Bd.le {a b : Nat} {i : Int} (h : Bd a i) (l : a ≤ b) : Bd b i := Nat.lt_of_lt_of_le h (Nat.pow_le_pow_right (by decide) l)
theorem Bd.mul {a b : Nat} {i j : Int} (h : Bd a i) (g : Bd b j) : Bd (a + b) (i * j) := by
  unfold Bd at *
  rw [Int.natAbs_mul, Nat.pow_add]
  by_cases z : j.natAbs = 0
  · rw [z, Nat.mul_zero]; exact Nat.mul_pos (Nat.two_pow_pos a) (Nat.two_pow_pos b)
  · exact Nat.mul_lt_mul_of_lt_of_lt h g
theorem Bd.add {a : Nat} {i j : Int} (h : Bd a i) (g : Bd a j) : Bd (a + 1) (i + j) := by
  unfold Bd at *
  rw [Nat.pow_succ]
  omega
theorem Bd.of {k : Nat} {i : Int} (h1 : -(2 ^ k : Nat) < i) (h2 : i < (2 ^ k : Nat)) : Bd k i := by unfold Bd; omega
theorem Bd.b31 {i : Int} (h1 : 0 ≤ i) (h2 : i < 2147483648) : Bd 31 i := by unfold Bd; omega
theorem Bd.log {k : Nat} {i : Int} (h : Bd k i) : i.natAbs.log2 ≤ k := by
  by_cases z : i.natAbs = 0
  · rw [z]; exact Nat.zero_le _
  · exact Nat.le_of_lt ((Nat.log2_lt z).mpr h)
theorem mulW {a b : Nat} {i j : Int} (h : Bd a i) (g : Bd b j) (l : a + b < 1000000 := by decide) : CMulW i j := by
  have := h.log
  have := g.log
  unfold CMulW
  omega
theorem divW {j : Int} (h : 0 < j) (l : j < 1152921504606846976 := by decide) : CDivW j j := by
  refine ⟨h, ?_⟩
  have : Bd 60 j := by unfold Bd; omega
  have := this.log
  omega
theorem divW' {i j : Int} (h : 0 < j) (l : j < 1152921504606846976) : CDivW i j := ⟨(divW h l).1, (divW h l).2⟩
/-! ### what operators give, by the data -/
section
variable {i j : Int} {M : Mem} {Q : QE}
theorem q_add (q : Q (.int (i + j)) M) : add2 (.int i) (.int j) M Q := q
theorem q_addS {s t : Str} (z : s.length + t.length ≤ sizeLine) (q : Q (.str (s ++ t)) M) : add2 (.str s) (.str t) M Q := ⟨z, q⟩
theorem q_addT {a b : List D} (z : a.length + b.length ≤ sizeLine) (q : Q (.tup (a ++ b)) M) : add2 (.tup a) (.tup b) M Q := ⟨z, q⟩
theorem q_addL {a b : Addr} {ds es : List D} (h1 : M a = some (.lst ds)) (h2 : M b = some (.lst es)) (z : ds.length + es.length ≤ sizeLine) (q : ∀ p, M p = none → Q (.obj p) (mup M p (.lst (ds ++ es)))) : add2 (.obj a) (.obj b) M Q := ⟨ds, es, h1, h2, z, q⟩
theorem q_mul (h : CMulW i j) (q : Q (.int (i * j)) M) : mul2 (.int i) (.int j) M Q := ⟨h, q⟩
theorem q_i2 {f : Int → Int → D} {ok : Int → Int → Prop} (h : ok i j) (q : Q (f i j) M) : int2 f ok (.int i) (.int j) M Q := ⟨h, q⟩
theorem q_i0 {f : Int → Int → D} (q : Q (f i j) M) : int2 f (fun _ _ => True) (.int i) (.int j) M Q := ⟨trivial, q⟩
theorem q_isB {b : Bool} {Q : Bool → Mem → Prop} (q : Q b M) : isB Q (.bl b) M := ⟨b, rfl, q⟩
theorem q_eqI {g : Bool → Bool} (q : Q (.bl (g (decide (i = j)))) M) : eq2 g (.int i) (.int j) M Q := .inl ⟨rfl, by
  have : (decide (toV (.int i) = toV (.int j))) = decide (i = j) := by
    by_cases c : i = j
    · subst c; simp
    · have : toV (.int i) ≠ toV (.int j) := fun z => c (by injection z)
      rw [decide_eq_false c, decide_eq_false this]
  rw [this]; exact q⟩
theorem q_eqS {g : Bool → Bool} {s t : Str} (q : Q (.bl (g (decide (s = t)))) M) : eq2 g (.str s) (.str t) M Q := .inl ⟨rfl, by
  have : (decide (toV (.str s) = toV (.str t))) = decide (s = t) := by
    by_cases c : s = t
    · subst c; simp
    · have : toV (.str s) ≠ toV (.str t) := fun z => c (by injection z)
      rw [decide_eq_false c, decide_eq_false this]
  rw [this]; exact q⟩
theorem q_ix {d1 : D} {ds : List D} {d : D} (h1 : itemsOf M d1 = some ds) (h2 : atI ds i = some d) (q : Q d M) : ix2 d1 (.int i) M Q := ⟨ds, i, d, h1, rfl, h2, q⟩
end
theorem atI_lit {ds : List D} {d : D} (n : Nat) (h : ds[n]? = some d) : atI ds ((n : Nat) : Int) = some d := atI_nat h
theorem items_lst {M : Mem} {a : Addr} {ds : List D} (h : M a = some (.lst ds)) : itemsOf M (.obj a) = some ds := by show lstOf (M a) = _; rw [h]; rfl
theorem ty_lst {M : Mem} {a : Addr} {ds : List D} (h : M a = some (.lst ds)) : tyD (.obj a) M = some "list" := by show (match M a with | some (.lst _) => some "list" | some (.dk _) => some "dict" | _ => none) = _; rw [h]
theorem lst_lst {M : Mem} {a : Addr} {ds : List D} (h : M a = some (.lst ds)) : lstOf (M a) = some ds := by rw [h]; rfl
theorem mem_ne {M : Mem} {a b : Addr} {o : MO} (h : M a = some o) (g : M b = none) : a ≠ b := fun e => by rw [e, g] at h; cases h
/-- the memory M' has all of M -/
def Ext (M M' : Mem) : Prop := ∀ a o, M a = some o → M' a = some o
theorem Ext.refl (M : Mem) : Ext M M := fun _ _ h => h
theorem Ext.trans {A B C : Mem} (h : Ext A B) (g : Ext B C) : Ext A C := fun a o e => g a o (h a o e)
theorem Ext.new {M : Mem} {p : Addr} {o : MO} (h : M p = none) : Ext M (mup M p o) := fun a u e => by rw [mup_ne (mem_ne e h)]; exact e
theorem Ext.free {M M' : Mem} (h : Ext M M') {a : Addr} (e : M' a = none) : M a = none := by
  cases q : M a with
  | none => rfl
  | some o => rw [h a o q] at e; cases e

/-! ### the calls by name -/
section
variable {X : Cx} {ρ : St2} {M : Mem} {N : List Str} {sc : Nms} {P : Program} {w : World} {K : PySem.W.Frag} {mg : Str → Option Value} {base : Heap} {k0 : Nat} {p pos : Pos} {e e2 : Expr} {Q : QE}
theorem wa_one {Q : List D → Mem → Prop} (hs : starEach [e] X.env = [(false, eval e X.env)]) (h : WE X e ρ M fun d M1 => Q [d] M1) : WA X [e] ρ M Q := wa_cons hs (WE.mono (fun d M1 q => wa_nil q) h)
theorem wa_two {Q : List D → Mem → Prop} (hs : starEach [e, e2] X.env = (false, eval e X.env) :: starEach [e2] X.env) (hs2 : starEach [e2] X.env = [(false, eval e2 X.env)]) (h : WE X e ρ M fun d M1 => WE X e2 ρ M1 fun d2 M2 => Q [d, d2] M2) : WA X [e, e2] ρ M Q :=
  wa_cons hs (WE.mono (fun d M1 q => wa_one hs2 q) h)
theorem wc_len (C : Cxt X N sc P w K mg base k0) (hg : ("len" : Str) ∈ sc.g) (hm : mg "len" = none) (hs : starEach [e] X.env = [(false, eval e X.env)]) (h : WE X e ρ M fun d M1 => len2 [d] M1 Q) : WE X (.Call (.Name "len" p) [e] [] pos) ρ M Q := by
  obtain rfl := C.hK
  exact we_callB C call_len_seq cl_len hg hm (by first | exact PySem.boot_len | exact PyProof.Rows.boot_len) hs (fun _ => rfl) (wa_one hs h)
theorem wc_int (C : Cxt X N sc P w K mg base k0) (hg : ("int" : Str) ∈ sc.g) (hm : mg "int" = none) (hs : starEach [e] X.env = [(false, eval e X.env)]) (h : WE X e ρ M fun d M1 => int1 [d] M1 Q) : WE X (.Call (.Name "int" p) [e] [] pos) ρ M Q := by
  obtain rfl := C.hK
  exact we_callT C call_int1 cl_int hg hm (by first | exact PySem.boot_int | exact PyProof.Rows.boot_int) hs (fun _ => rfl) (wa_one hs h)
theorem wc_abs (C : Cxt X N sc P w K mg base k0) (hg : ("abs" : Str) ∈ sc.g) (hm : mg "abs" = none) (hs : starEach [e] X.env = [(false, eval e X.env)]) (h : WE X e ρ M fun d M1 => abs1 [d] M1 Q) : WE X (.Call (.Name "abs" p) [e] [] pos) ρ M Q := by
  obtain rfl := C.hK
  exact we_callB C call_abs cl_abs hg hm (by first | exact PySem.boot_abs | exact PyProof.Rows.boot_abs) hs (fun _ => rfl) (wa_one hs h)
theorem wc_tuple (C : Cxt X N sc P w K mg base k0) (hg : ("tuple" : Str) ∈ sc.g) (hm : mg "tuple" = none) (hs : starEach [e] X.env = [(false, eval e X.env)]) (h : WE X e ρ M fun d M1 => tuple1 [d] M1 Q) : WE X (.Call (.Name "tuple" p) [e] [] pos) ρ M Q := by
  obtain rfl := C.hK
  exact we_callT C call_tuple_of cl_tuple hg hm (by first | exact PySem.boot_tuple | exact PyProof.Rows.boot_tuple) hs (fun _ => rfl) (wa_one hs h)
theorem wc_list (C : Cxt X N sc P w K mg base k0) (hg : ("list" : Str) ∈ sc.g) (hm : mg "list" = none) (hs : starEach [e] X.env = [(false, eval e X.env)]) (h : WE X e ρ M fun d M1 => list1 [d] M1 Q) : WE X (.Call (.Name "list" p) [e] [] pos) ρ M Q := by
  obtain rfl := C.hK
  exact we_callT C call_list_of cl_list hg hm (by first | exact PySem.boot_list | exact PyProof.Rows.boot_list) hs (fun _ => rfl) (wa_one hs h)
theorem wc_sum (C : Cxt X N sc P w K mg base k0) (hg : ("sum" : Str) ∈ sc.g) (hm : mg "sum" = none) (hs : starEach [e] X.env = [(false, eval e X.env)]) (h : WE X e ρ M fun d M1 => sumA [d] M1 Q) : WE X (.Call (.Name "sum" p) [e] [] pos) ρ M Q := by
  obtain rfl := C.hK
  exact we_callB C (callr_or (cr_sum C.calm) (cr_sumT C.calm)) cl_sumA hg hm (by first | exact PySem.boot_sum | exact PyProof.Rows.boot_sum) hs (fun _ => rfl) (wa_one hs h)
theorem wc_all (C : Cxt X N sc P w K mg base k0) (hg : ("all" : Str) ∈ sc.g) (hm : mg "all" = none) (hs : starEach [e] X.env = [(false, eval e X.env)]) (h : WE X e ρ M fun d M1 => all1 [d] M1 Q) : WE X (.Call (.Name "all" p) [e] [] pos) ρ M Q := by
  obtain rfl := C.hK
  exact we_callB C (cr_all C.calm) cl_all hg hm (by first | exact PySem.boot_all | exact PyProof.Rows.boot_all) hs (fun _ => rfl) (wa_one hs h)
theorem wc_any (C : Cxt X N sc P w K mg base k0) (hg : ("any" : Str) ∈ sc.g) (hm : mg "any" = none) (hs : starEach [e] X.env = [(false, eval e X.env)]) (h : WE X e ρ M fun d M1 => any1 [d] M1 Q) : WE X (.Call (.Name "any" p) [e] [] pos) ρ M Q := by
  obtain rfl := C.hK
  exact we_callB C (cr_any C.calm) cl_any hg hm (by first | exact PySem.boot_any | exact PyProof.Rows.boot_any) hs (fun _ => rfl) (wa_one hs h)
theorem wc_min2 (C : Cxt X N sc P w K mg base k0) (hg : ("min" : Str) ∈ sc.g) (hm : mg "min" = none) (hs : starEach [e, e2] X.env = (false, eval e X.env) :: starEach [e2] X.env) (hs2 : starEach [e2] X.env = [(false, eval e2 X.env)]) (h : WE X e ρ M fun d M1 => WE X e2 ρ M1 fun d2 M2 => min2i [d, d2] M2 Q) : WE X (.Call (.Name "min" p) [e, e2] [] pos) ρ M Q := by
  obtain rfl := C.hK
  exact we_callB C (call_min2 C.calm) cl_min2 hg hm (by first | exact PySem.boot_min | exact PyProof.Rows.boot_min) hs (fun pos => by rw [hs2]; rfl) (wa_two hs hs2 h)
theorem wc_max2 (C : Cxt X N sc P w K mg base k0) (hg : ("max" : Str) ∈ sc.g) (hm : mg "max" = none) (hs : starEach [e, e2] X.env = (false, eval e X.env) :: starEach [e2] X.env) (hs2 : starEach [e2] X.env = [(false, eval e2 X.env)]) (h : WE X e ρ M fun d M1 => WE X e2 ρ M1 fun d2 M2 => max2i [d, d2] M2 Q) : WE X (.Call (.Name "max" p) [e, e2] [] pos) ρ M Q := by
  obtain rfl := C.hK
  exact we_callB C (call_max2 C.calm) cl_max2 hg hm (by first | exact PySem.boot_max | exact PyProof.Rows.boot_max) hs (fun pos => by rw [hs2]; rfl) (wa_two hs hs2 h)
theorem wc_isi (C : Cxt X N sc P w K mg base k0) (hg : ("isinstance" : Str) ∈ sc.g) (hm : mg "isinstance" = none) (hs : starEach [e, e2] X.env = (false, eval e X.env) :: starEach [e2] X.env) (hs2 : starEach [e2] X.env = [(false, eval e2 X.env)]) (h : WE X e ρ M fun d M1 => WE X e2 ρ M1 fun d2 M2 => isi2 [d, d2] M2 Q) : WE X (.Call (.Name "isinstance" p) [e, e2] [] pos) ρ M Q := by
  obtain rfl := C.hK
  exact we_callB C (callr_or call_isi call_isiS) cl_isi hg hm (by first | exact PySem.boot_isinstance | exact PyProof.Rows.boot_isinstance) hs (fun pos => by rw [hs2]; rfl) (wa_two hs hs2 h)
theorem wc_minL (C : Cxt X N sc P w K mg base k0) (hg : ("min" : Str) ∈ sc.g) (hm : mg "min" = none) (hs : starEach [e] X.env = [(false, eval e X.env)]) (h : WE X e ρ M fun d M1 => min1 [d] M1 Q) : WE X (.Call (.Name "min" p) [e] [] pos) ρ M Q := by
  obtain rfl := C.hK
  exact we_callB C (cr_min C.calm) cl_min hg hm (by first | exact PySem.boot_min | exact PyProof.Rows.boot_min) hs (fun _ => rfl) (wa_one hs h)
theorem wc_maxL (C : Cxt X N sc P w K mg base k0) (hg : ("max" : Str) ∈ sc.g) (hm : mg "max" = none) (hs : starEach [e] X.env = [(false, eval e X.env)]) (h : WE X e ρ M fun d M1 => max1 [d] M1 Q) : WE X (.Call (.Name "max" p) [e] [] pos) ρ M Q := by
  obtain rfl := C.hK
  exact we_callB C (cr_max C.calm) cl_max hg hm (by first | exact PySem.boot_max | exact PyProof.Rows.boot_max) hs (fun _ => rfl) (wa_one hs h)

/-- dict by a written text key -/
theorem we_dgetS (C : Cxt X N sc P w K mg base k0) {o : Expr} {k : Str} {j : Nat} {kp : Pos} (h : WE X o ρ M fun d1 M1 => ∃ a kvs d, d1 = .obj a ∧ M1 a = some (.dk kvs) ∧ valD kvs (.inr k) = some d ∧ Q d M1) : WE X (.Subscript o (.Constant (.str k) j kp) pos) ρ M Q :=
  we_dget C (fun _ _ => rfl) (WE.mono (fun d1 M1 ⟨a, kvs, d, e1, e2, e3, q⟩ => we_str ⟨a, kvs, .inr k, d, e1, rfl, e2, e3, q⟩) h)
theorem ws_dputS (C : Cxt X N sc P w K mg base k0) {o : Expr} {k : Str} {j : Nat} {kp pos' : Pos} {E : Ends2} (hs : swapsWith e (some (.Subscript o (.Constant (.str k) j kp) pos')) pos.line X.env = pure false)
    (h : WE X e ρ M fun d M1 => WE X o ρ M1 fun d1 M2 => ∃ a kvs, d1 = .obj a ∧ M2 a = some (.dk kvs) ∧ kvs.length < sizeLine ∧ E.nx ρ (mup M2 a (.dk (putD kvs (.inr k) d)))) : WS X (.Assign [.Subscript o (.Constant (.str k) j kp) pos'] e pos) E ρ M :=
  ws_dput C hs (WE.mono (fun d M1 q => WE.mono (fun d1 M2 ⟨a, kvs, e1, e2, e3, q⟩ => we_str ⟨a, kvs, .inr k, e1, rfl, e2, e3, q⟩) q) h)
end
section
variable {M : Mem} {Q : QE}
theorem q_allT {a : Addr} {bs : List Bool} (h : M a = some (.lst (bs.map D.bl))) (t : ∀ b ∈ bs, b = true) (q : Q (.bl true) M) : all1 [.obj a] M Q := ⟨a, bs, rfl, by rw [h]; rfl, by
  have e : bs.all id = true := List.all_eq_true.mpr t
  rw [e]; exact q⟩
theorem q_par {N : List Str} {x y : Str} {d e : D} {ρ ρ1 ρ2 : St2} {R : St2 → Prop} (p1 : Put N ρ x d ρ1) (p2 : Put N ρ1 y e ρ2) (q : R ρ2) : ∃ d' e' ρ1 ρ2, [d, e] = [d', e'] ∧ Put N ρ x d' ρ1 ∧ Put N ρ1 y e' ρ2 ∧ R ρ2 := ⟨d, e, ρ1, ρ2, rfl, p1, p2, q⟩
theorem q_exI {i : Int} {R : Int → Prop} (q : R i) : ∃ j, D.int i = D.int j ∧ R j := ⟨i, rfl, q⟩
theorem q_exT {as : List D} {R : List D → Prop} (q : R as) : ∃ bs, D.tup as = D.tup bs ∧ R bs := ⟨as, rfl, q⟩
theorem q_slT {ds : List D} {lo hi : Option Int} (q : Q (.tup (cutD ds lo hi)) M) : sl2 (.tup ds) lo hi M Q := q
theorem q_slL {a : Addr} {ds : List D} {lo hi : Option Int} (h : M a = some (.lst ds)) (q : ∀ p, M p = none → Q (.obj p) (mup M p (.lst (cutD ds lo hi)))) : sl2 (.obj a) lo hi M Q := ⟨ds, by rw [h]; rfl, q⟩
theorem q_ixM {α : Type} {d : D} {xs : List α} {f : α → D} {n : Nat} {x : α} (h1 : itemsOf M d = some (xs.map f)) (h : xs[n]? = some x) (q : Q (f x) M) : ix2 d (.int (n : Nat)) M Q := by
  have hn : n < xs.length := (List.getElem?_eq_some_iff.mp h).1
  refine q_ix h1 (d := f x) ?_ q
  unfold atI
  unfold ixN
  rw [if_pos (by omega), if_pos (by rw [List.length_map]; omega)]
  simp [h]
theorem q_ixH {α : Type} {d : D} {xs : List α} {f : α → D} {x : α} (h1 : itemsOf M d = some (xs.map f)) (h : xs.head? = some x) (q : Q (f x) M) : ix2 d (.int 0) M Q := by
  cases xs with
  | nil => cases h
  | cons y ys => cases h; exact q_ixM (n := 0) h1 rfl q
/-- the last one -/
theorem q_ixL {α : Type} {d : D} {xs : List α} {f : α → D} {x : α} (h1 : itemsOf M d = some (xs.map f)) (h : xs.getLast? = some x) (q : Q (f x) M) : ix2 d (.int (-1)) M Q := by
  have hn : 0 < xs.length := by cases xs with | nil => cases h | cons _ _ => simp
  refine q_ix h1 (d := f x) ?_ q
  unfold atI
  unfold ixN
  rw [List.getLast?_eq_getElem?] at h
  rw [if_neg (by omega), if_pos (by rw [List.length_map]; omega)]
  have e : ((-1 : Int) + ((xs.map f).length : Nat)).toNat = xs.length - 1 := by rw [List.length_map]; omega
  simp only [Option.bind_some] at *
  first | (rw [e, List.getElem?_map, h]; rfl) | (simp [e, h]) | skip
theorem q_size {R : Prop} {n : Nat} (h : n ≤ sizeLine) (q : R) : n ≤ sizeLine ∧ R := ⟨h, q⟩
theorem q_tru {d : D} {k : Bool} {R : Bool → Prop} (h : truD d M = some k) (q : R k) : ∃ k, truD d M = some k ∧ R k := ⟨k, h, q⟩
theorem q_len {d : D} {ds : List D} (h : itemsOf M d = some ds) (q : Q (.int (ds.length : Nat)) M) : len2 [d] M Q := ⟨d, ds, rfl, h, q⟩
theorem q_int {i : Int} (q : Q (.int i) M) : int1 [.int i] M Q := ⟨i, rfl, q⟩
theorem q_abs {i : Int} (q : Q (.int (if i < 0 then -i else i)) M) : abs1 [.int i] M Q := ⟨i, rfl, q⟩
theorem q_tuple {d : D} {ds : List D} (h : itemsOf M d = some ds) (q : Q (.tup ds) M) : tuple1 [d] M Q := ⟨d, ds, rfl, h, q⟩
theorem q_list {d : D} {ds : List D} (h : itemsOf M d = some ds) (q : ∀ p, M p = none → Q (.obj p) (mup M p (.lst ds))) : list1 [d] M Q := ⟨d, ds, rfl, h, q⟩
theorem q_sum {d : D} {ns : List Int} (h : itemsOf M d = some (ns.map D.int)) (q : Q (.int ns.sum) M) : sumA [d] M Q := ⟨d, ns, rfl, h, q⟩
theorem q_min2 {i j : Int} (q : Q (.int (if j < i then j else i)) M) : min2i [.int i, .int j] M Q := ⟨i, j, rfl, q⟩
theorem q_max2 {i j : Int} (q : Q (.int (if j > i then j else i)) M) : max2i [.int i, .int j] M Q := ⟨i, j, rfl, q⟩
theorem q_isi {d : D} {S T : String} {b : Bool} (h : tyD d M = some S) (k : kitB S T = some b) (q : Q (.bl b) M) : isi2 [d, .ty T] M Q := .inl ⟨d, T, S, b, rfl, h, k, q⟩
theorem q_isiT {d : D} {S : String} {Ts : List String} {b : Bool} (h : tyD d M = some S) (k : kitAnyB S Ts = some b) (q : Q (.bl b) M) : isi2 [d, .tup (Ts.map D.ty)] M Q := .inr ⟨d, Ts, S, b, rfl, h, k, q⟩
theorem q_isi2 {d : D} {S T U : String} {b : Bool} (h : tyD d M = some S) (k : kitAnyB S [T, U] = some b) (q : Q (.bl b) M) : isi2 [d, .tup [.ty T, .ty U]] M Q := q_isiT (Ts := [T, U]) h k q
theorem q_isi3 {d : D} {S T U W : String} {b : Bool} (h : tyD d M = some S) (k : kitAnyB S [T, U, W] = some b) (q : Q (.bl b) M) : isi2 [d, .tup [.ty T, .ty U, .ty W]] M Q := q_isiT (Ts := [T, U, W]) h k q
end
section
variable {X : Cx} {ρ : St2} {M : Mem} {N : List Str} {sc : Nms} {P : Program} {w : World} {K : PySem.W.Frag} {mg : Str → Option Value} {base : Heap} {k0 : Nat}
theorem we_gI (C : Cxt X N sc P w K mg base k0) {x : Str} {i : Int} {pos : Pos} {Q : QE} (hg : x ∈ sc.g) (hm : ∃ t, mg x = some (.int i t)) (q : Q (.int i) M) : WE X (.Name x pos) ρ M Q := by
  obtain ⟨t, hm⟩ := hm
  exact we_globI C hg hm q
theorem we_gS (C : Cxt X N sc P w K mg base k0) {x : Str} {i : Str} {pos : Pos} {Q : QE} (hg : x ∈ sc.g) (hm : ∃ t, mg x = some (.str i t)) (q : Q (.str i) M) : WE X (.Name x pos) ρ M Q := by
  obtain ⟨t, hm⟩ := hm
  exact we_globS C hg hm q
end
theorem kb_int_int : kitB "int" "int" = some true := by decide +kernel
theorem kb_int_bool : kitB "int" "bool" = some false := by decide +kernel
theorem kb_int_str : kitB "int" "str" = some false := by decide +kernel
theorem kb_int_tuple : kitB "int" "tuple" = some false := by decide +kernel
theorem kb_int_list : kitB "int" "list" = some false := by decide +kernel
theorem kb_int_dict : kitB "int" "dict" = some false := by decide +kernel
theorem kc_int : kitAnyB "int" ["list", "tuple"] = some false := by decide +kernel
theorem kd_int : kitAnyB "int" ["tuple", "list"] = some false := by decide +kernel
theorem kb_bool_int : kitB "bool" "int" = some true := by decide +kernel
theorem kb_bool_bool : kitB "bool" "bool" = some true := by decide +kernel
theorem kb_bool_str : kitB "bool" "str" = some false := by decide +kernel
theorem kb_bool_tuple : kitB "bool" "tuple" = some false := by decide +kernel
theorem kb_bool_list : kitB "bool" "list" = some false := by decide +kernel
theorem kb_bool_dict : kitB "bool" "dict" = some false := by decide +kernel
theorem kc_bool : kitAnyB "bool" ["list", "tuple"] = some false := by decide +kernel
theorem kd_bool : kitAnyB "bool" ["tuple", "list"] = some false := by decide +kernel
theorem kb_str_int : kitB "str" "int" = some false := by decide +kernel
theorem kb_str_bool : kitB "str" "bool" = some false := by decide +kernel
theorem kb_str_str : kitB "str" "str" = some true := by decide +kernel
theorem kb_str_tuple : kitB "str" "tuple" = some false := by decide +kernel
theorem kb_str_list : kitB "str" "list" = some false := by decide +kernel
theorem kb_str_dict : kitB "str" "dict" = some false := by decide +kernel
theorem kc_str : kitAnyB "str" ["list", "tuple"] = some false := by decide +kernel
theorem kd_str : kitAnyB "str" ["tuple", "list"] = some false := by decide +kernel
theorem kb_tuple_int : kitB "tuple" "int" = some false := by decide +kernel
theorem kb_tuple_bool : kitB "tuple" "bool" = some false := by decide +kernel
theorem kb_tuple_str : kitB "tuple" "str" = some false := by decide +kernel
theorem kb_tuple_tuple : kitB "tuple" "tuple" = some true := by decide +kernel
theorem kb_tuple_list : kitB "tuple" "list" = some false := by decide +kernel
theorem kb_tuple_dict : kitB "tuple" "dict" = some false := by decide +kernel
theorem kc_tuple : kitAnyB "tuple" ["list", "tuple"] = some true := by decide +kernel
theorem kd_tuple : kitAnyB "tuple" ["tuple", "list"] = some true := by decide +kernel
theorem kb_list_int : kitB "list" "int" = some false := by decide +kernel
theorem kb_list_bool : kitB "list" "bool" = some false := by decide +kernel
theorem kb_list_str : kitB "list" "str" = some false := by decide +kernel
theorem kb_list_tuple : kitB "list" "tuple" = some false := by decide +kernel
theorem kb_list_list : kitB "list" "list" = some true := by decide +kernel
theorem kb_list_dict : kitB "list" "dict" = some false := by decide +kernel
theorem kc_list : kitAnyB "list" ["list", "tuple"] = some true := by decide +kernel
theorem kd_list : kitAnyB "list" ["tuple", "list"] = some true := by decide +kernel
theorem kb_dict_int : kitB "dict" "int" = some false := by decide +kernel
theorem kb_dict_bool : kitB "dict" "bool" = some false := by decide +kernel
theorem kb_dict_str : kitB "dict" "str" = some false := by decide +kernel
theorem kb_dict_tuple : kitB "dict" "tuple" = some false := by decide +kernel
theorem kb_dict_list : kitB "dict" "list" = some false := by decide +kernel
theorem kb_dict_dict : kitB "dict" "dict" = some true := by decide +kernel
theorem kc_dict : kitAnyB "dict" ["list", "tuple"] = some false := by decide +kernel
theorem kd_dict : kitAnyB "dict" ["tuple", "list"] = some false := by decide +kernel
theorem kb_NoneType_int : kitB "NoneType" "int" = some false := by decide +kernel
theorem kb_NoneType_bool : kitB "NoneType" "bool" = some false := by decide +kernel
theorem kb_NoneType_str : kitB "NoneType" "str" = some false := by decide +kernel
theorem kb_NoneType_tuple : kitB "NoneType" "tuple" = some false := by decide +kernel
theorem kb_NoneType_list : kitB "NoneType" "list" = some false := by decide +kernel
theorem kb_NoneType_dict : kitB "NoneType" "dict" = some false := by decide +kernel
theorem kc_NoneType : kitAnyB "NoneType" ["list", "tuple"] = some false := by decide +kernel
theorem kd_NoneType : kitAnyB "NoneType" ["tuple", "list"] = some false := by decide +kernel
/-! ### lists of ints -/
theorem ixN_in {n : Nat} {k : Int} (h0 : 0 ≤ k) (h1 : k < n) : ixN n k = some k.toNat := by unfold ixN; rw [if_pos h0, if_pos h1]
theorem atI_in {ds : List D} {k : Int} (h0 : 0 ≤ k) (h1 : k < ds.length) : ∃ d, d ∈ ds ∧ atI ds k = some d ∧ ds[k.toNat]? = some d := by
  have hl : k.toNat < ds.length := by omega
  refine ⟨ds[k.toNat], List.getElem_mem hl, ?_, List.getElem?_eq_getElem hl⟩
  unfold atI
  rw [ixN_in h0 h1]
  exact List.getElem?_eq_getElem hl
theorem atI_int {cs : List Int} {k : Int} (h0 : 0 ≤ k) (h1 : k < cs.length) : ∃ x, x ∈ cs ∧ atI (cs.map D.int) k = some (.int x) := by
  obtain ⟨d, hd, e, _⟩ := atI_in (ds := cs.map D.int) h0 (by simpa using h1)
  obtain ⟨x, hx, rfl⟩ := List.mem_map.mp hd
  exact ⟨x, hx, e⟩
theorem set_ints {cs : List Int} {j : Nat} {v : Int} : (cs.map D.int).set j (.int v) = (cs.set j v).map D.int := by rw [List.map_set]
theorem mem_set {cs : List Int} {j : Nat} {v : Int} {p : Int → Prop} (h : ∀ x ∈ cs, p x) (hv : p v) : ∀ x ∈ cs.set j v, p x := fun x hx => by
  rcases List.mem_or_eq_of_mem_set hx with z | z
  · exact h x z
  · rw [z]; exact hv
theorem get_ints {ns : List Int} {i : Nat} {e : D} (h : (ns.map D.int)[i]? = some e) : ∃ z, e = .int z ∧ ns[i]? = some z := by
  rw [List.getElem?_map] at h
  cases q : ns[i]? with
  | none => rw [q] at h; cases h
  | some z => rw [q] at h; cases h; exact ⟨z, rfl, rfl⟩
theorem get_map {α : Type} {xs : List α} {f : α → D} {i : Nat} {e : D} (h : (xs.map f)[i]? = some e) : ∃ z, e = f z ∧ xs[i]? = some z := by
  rw [List.getElem?_map] at h
  cases q : xs[i]? with
  | none => rw [q] at h; cases h
  | some z => rw [q] at h; cases h; exact ⟨z, rfl, rfl⟩
theorem get_map2 {α β : Type} {xs : List α} {g : α → β} {f : β → D} {i : Nat} {z : D} {x : α} (h : ((xs.map g).map f)[i]? = some z) (e : xs[i]? = some x) : z = f (g x) := by
  rw [List.getElem?_map, List.getElem?_map, e] at h
  cases h; rfl
theorem rng_get {n : Nat} {f : Nat → D} {i : Nat} {d : D} (h : ((List.range n).map f)[i]? = some d) : i < n ∧ d = f i := by
  rw [List.getElem?_map] at h
  cases q : (List.range n)[i]? with
  | none => rw [q] at h; cases h
  | some j =>
    rw [q] at h
    cases h
    obtain ⟨a, b⟩ := List.getElem?_eq_some_iff.mp q
    rw [List.getElem_range] at b
    subst b
    exact ⟨by simpa using a, rfl⟩
/-! ### == of data -/
theorem py_ints : ∀ ns : List Int, pyL (ns.map D.int) = ns.map PyData.int
  | [] => rfl
  | n :: ns => by show PyData.int n :: pyL (ns.map D.int) = _; rw [py_ints ns]; rfl
theorem dat_ints : ∀ ns : List Int, isDatL (ns.map D.int) = true
  | [] => rfl
  | n :: ns => by show (true && isDatL (ns.map D.int)) = true; rw [dat_ints ns]; rfl
theorem canLay_ints : ∀ ns : List Int, PyData.canLayAll0 (ns.map PyData.int) = true
  | [] => rfl
  | n :: ns => by simp only [List.map_cons, PyData.canLayAll0, PyData.canLay0, canLay_ints ns, Bool.and_self]
theorem depth_ints : ∀ ns : List Int, PyData.depthAll (ns.map PyData.int) = 0
  | [] => rfl
  | n :: ns => by simp only [List.map_cons, PyData.depthAll, PyData.depth, depth_ints ns, Nat.max_self]
theorem shaped_ints (ns : List Int) : SeqAt.shaped (.list (ns.map PyData.int)) = true := by
  unfold SeqAt.shaped
  simp only [PyData.canLay0, canLay_ints, PyData.depth, depth_ints]
  rfl
theorem cut_tail {ds : List D} : cutD ds (some 1) none = ds.tail := by
  unfold cutD
  cases ds with
  | nil => rfl
  | cons d ds => simp [HT.sIx]
theorem cut_init {ds : List D} : cutD ds none (some (-1)) = ds.dropLast := by
  unfold cutD
  rw [List.dropLast_eq_take]
  cases ds with
  | nil => rfl
  | cons d ds =>
    simp [HT.sIx]
    omega
theorem cut_take {ds : List D} {n : Nat} (h : n ≤ ds.length) : cutD ds none (some (n : Int)) = ds.take n := by
  unfold cutD
  have e : HT.sIx ds.length ds.length (some (n : Int)) = min n ds.length := by
    show (if (n : Int) < 0 then ((n : Int) + ((ds.length : Nat) : Int)).toNat else min (n : Int).toNat ds.length) = _
    rw [if_neg (by omega), Int.toNat_natCast]
  rw [e, Nat.min_eq_left h]
  rfl
theorem ixN_nat {m n : Nat} {k : Int} (e : k = (n : Nat)) (l : n < m) : ixN m k = some n := by
  subst e
  unfold ixN
  rw [if_pos (by omega), if_pos (by omega), Int.toNat_natCast]
theorem ixN_last {m : Nat} (l : 0 < m) : ixN m (-1) = some (m - 1) := by
  unfold ixN
  rw [if_neg (by omega), if_pos (by omega)]
  congr 1
  omega
theorem q_setM {α : Type} {f : α → D} {a : Addr} {xs : List α} {n : Nat} {k : Int} {M : Mem} {R : Addr → List D → Nat → Prop} (h : M a = some (.lst (xs.map f))) (l : ixN xs.length k = some n) (q : R a (xs.map f) n) :
    ∃ a' ds k' j, D.obj a = .obj a' ∧ D.int k = .int k' ∧ M a' = some (.lst ds) ∧ ixN ds.length k' = some j ∧ R a' ds j :=
  ⟨a, _, k, n, rfl, rfl, h, by rw [List.length_map]; exact l, q⟩
theorem q_ixK {α : Type} {d : D} {xs : List α} {f : α → D} {n : Nat} {k : Int} {x : α} {M : Mem} {Q : QE} (h1 : itemsOf M d = some (xs.map f)) (l : ixN xs.length k = some n) (h : xs[n]? = some x) (q : Q (f x) M) : ix2 d (.int k) M Q := by
  refine q_ix h1 (d := f x) ?_ q
  unfold atI
  rw [List.length_map, l]
  show (xs.map f)[n]? = _
  rw [List.getElem?_map, h]
  rfl
theorem q_neNil {M : Mem} {Q : QE} {a b : Addr} {gs : List Int} (h1 : M a = some (.lst (gs.map D.int))) (h2 : M b = some (.lst [])) (q : Q (.bl (!decide (gs = []))) M) : eq2 not (.obj a) (.obj b) M Q := by
  refine .inr ⟨.list (gs.map PyData.int), .list [], ?_, ?_, shaped_ints gs, shaped_ints [], ?_⟩
  · show (lstOf (M a)).bind _ = _
    rw [h1]
    show (if isDatL (gs.map D.int) = true then some (PyData.list (pyL (gs.map D.int))) else none) = _
    rw [if_pos (dat_ints gs), py_ints]
  · show (lstOf (M b)).bind _ = _
    rw [h2]
    rfl
  · have e : PyData.eqv (.list (gs.map PyData.int)) (.list []) = decide (gs = []) := by
      cases gs with
      | nil => simp [PyData.eqv, PyData.eqvAll]
      | cons g gs => simp [PyData.eqv, PyData.eqvAll]
    rw [e]
    exact q
end Y

set_option Elab.async false
set_option linter.all false
set_option autoImplicit false
set_option maxRecDepth 100000
set_option maxHeartbeats 4000000
/-! comprehensions whose elements change no memory -/
namespace Y
open PySem PySem.Spec PyProof.Rows L2
section
variable {X : Cx} {ρ : St2} {M : Mem} {N : List Str} {sc : Nms} {P : Program} {w : World} {K : PySem.W.Frag} {mg : Str → Option Value} {base : Heap} {k0 : Nat}
theorem mup_mup {M : Mem} {a : Addr} {o u : MO} : mup (mup M a o) a u = mup M a u := by
  funext b
  by_cases e : b = a
  · subst e; rw [mup_same, mup_same]
  · rw [mup_ne e, mup_ne e, mup_ne e]
/-- the body of a comprehension without tests, its element a function of the item -/
def LcBody (X : Cx) (scope : Scope) (elt : Expr) (t : Tgt) (ρw : St2) (M1 : Mem) (xs : List D) (stays : Mem → Prop) (f : D → D) : Prop :=
  xs.length ≤ sizeLine ∧ (∀ Dd acc, M1 Dd = none → stays (mup M1 Dd (.lst acc))) ∧
  ∀ (d : D) (Dd : Addr) (acc : List D), d ∈ xs → M1 Dd = none → ∃ ρ', bT t d ρw = some ρ' ∧ ∀ X', Blk X scope X' → WE X' elt ρ' (mup M1 Dd (.lst acc)) fun y M4 => M4 = mup M1 Dd (.lst acc) ∧ y = f d
/-- .. with a test -/
def LcBodyF (X : Cx) (scope : Scope) (elt c : Expr) (t : Tgt) (ρw : St2) (M1 : Mem) (xs : List D) (stays : Mem → Prop) (g : D → Bool) (f : D → D) : Prop :=
  xs.length ≤ sizeLine ∧ (∀ Dd acc, M1 Dd = none → stays (mup M1 Dd (.lst acc))) ∧
  ∀ (d : D) (Dd : Addr) (acc : List D), d ∈ xs → M1 Dd = none → ∃ ρ', bT t d ρw = some ρ' ∧ ∀ X', Blk X scope X' → WT X' c ρ' (mup M1 Dd (.lst acc)) fun b M3 => M3 = mup M1 Dd (.lst acc) ∧ b = g d ∧ (b = true → ∀ X2, Blk X scope X2 → WE X2 elt ρ' M3 fun y M4 => M4 = M3 ∧ y = f d)
theorem take_succ' {α : Type} {xs : List α} {i : Nat} {d : α} (h : xs[i]? = some d) : xs.take (i + 1) = xs.take i ++ [d] := by
  rw [List.take_add_one, h]; rfl
theorem lc_pure {M1 : Mem} {xs : List D} {stays : Mem → Prop} {scope : Scope} {elt : Expr} {t : Tgt} {ρw : St2} {f : D → D} {R' : Addr → Mem → Prop} (h : LcBody X scope elt t ρw M1 xs stays f) (k : ∀ Dd, M1 Dd = none → R' Dd (mup M1 Dd (.lst (xs.map f)))) :
    ∀ Dd, M1 Dd = none → ∃ I : Nat → Mem → Prop, I 0 (mup M1 Dd (.lst [])) ∧ (∀ i M, I i M → stays M) ∧
      (∀ (i : Nat) (d : D) (M : Mem), xs[i]? = some d → I i M → ∃ ρ', bT t d ρw = some ρ' ∧ ∀ X', Blk X scope X' → WTs X' [] ρ' M fun b M3 => Br b (∀ X2, Blk X scope X2 → WE X2 elt ρ' M3 fun y M4 => ∃ acc, M4 Dd = some (.lst acc) ∧ acc.length < sizeLine ∧ I (i + 1) (mup M4 Dd (.lst (acc ++ [y])))) (I (i + 1) M3)) ∧
      (∀ M, I xs.length M → R' Dd M) := by
  intro Dd hD
  obtain ⟨hz, hs, hb⟩ := h
  refine ⟨fun i M => M = mup M1 Dd (.lst ((xs.take i).map f)), by simp, fun i M e => by subst e; exact hs _ _ hD, ?_, fun M e => by subst e; rw [List.take_length]; exact k Dd hD⟩
  intro i d M hi e
  subst e
  have hl : i < xs.length := (List.getElem?_eq_some_iff.mp hi).1
  obtain ⟨ρ', e1, w1⟩ := hb d Dd ((xs.take i).map f) (List.mem_of_getElem? hi) hD
  refine ⟨ρ', e1, fun X' B => Br.t fun X2 B2 => WE.mono ?_ (w1 X2 B2)⟩
  rintro y M4 ⟨rfl, rfl⟩
  refine ⟨_, mup_same, by simp; omega, ?_⟩
  dsimp only
  rw [mup_mup, take_succ' hi, List.map_append]
  rfl
theorem lc_pureF {M1 : Mem} {xs : List D} {stays : Mem → Prop} {scope : Scope} {elt c : Expr} {t : Tgt} {ρw : St2} {g : D → Bool} {f : D → D} {R' : Addr → Mem → Prop} (h : LcBodyF X scope elt c t ρw M1 xs stays g f) (k : ∀ Dd, M1 Dd = none → R' Dd (mup M1 Dd (.lst ((xs.filter g).map f)))) :
    ∀ Dd, M1 Dd = none → ∃ I : Nat → Mem → Prop, I 0 (mup M1 Dd (.lst [])) ∧ (∀ i M, I i M → stays M) ∧
      (∀ (i : Nat) (d : D) (M : Mem), xs[i]? = some d → I i M → ∃ ρ', bT t d ρw = some ρ' ∧ ∀ X', Blk X scope X' → WTs X' [c] ρ' M fun b M3 => Br b (∀ X2, Blk X scope X2 → WE X2 elt ρ' M3 fun y M4 => ∃ acc, M4 Dd = some (.lst acc) ∧ acc.length < sizeLine ∧ I (i + 1) (mup M4 Dd (.lst (acc ++ [y])))) (I (i + 1) M3)) ∧
      (∀ M, I xs.length M → R' Dd M) := by
  intro Dd hD
  obtain ⟨hz, hs, hb⟩ := h
  refine ⟨fun i M => M = mup M1 Dd (.lst (((xs.take i).filter g).map f)), by simp, fun i M e => by subst e; exact hs _ _ hD, ?_, fun M e => by subst e; rw [List.take_length]; exact k Dd hD⟩
  intro i d M hi e
  subst e
  have hl : i < xs.length := (List.getElem?_eq_some_iff.mp hi).1
  obtain ⟨ρ', e1, w1⟩ := hb d Dd (((xs.take i).filter g).map f) (List.mem_of_getElem? hi) hD
  refine ⟨ρ', e1, fun X' B => WT.mono ?_ (w1 X' B)⟩
  rintro b M3 ⟨rfl, rfl, w2⟩
  refine ⟨fun z X2 B2 => WE.mono ?_ (w2 z X2 B2), fun z => ?_⟩
  · rintro y M4 ⟨rfl, rfl⟩
    refine ⟨_, mup_same, ?_, ?_⟩
    · have := List.length_filter_le g (xs.take i)
      simp at this ⊢
      omega
    · dsimp only
      rw [mup_mup, take_succ' hi, List.filter_append, List.map_append]
      simp [List.filter_cons, z]
  · dsimp only
    rw [take_succ' hi, List.filter_append]
    simp [List.filter_cons, z]
theorem we_lcP (C : Cxt X N sc P w K mg base k0) {tg iter elt : Expr} {scope : Scope} {pos : Pos} {t : Tgt} {own : List (Str × Nat)} {Q : QE} (hb : blkB N sc.f scope own = true) (ho : ∀ i ∈ slT t, i ∈ own.map (·.2)) (ht : ∀ X', Blk X scope X' → PT2 X' tg t) (hf : ∀ x, foldedSetIterable iter X.env x = pure x) (f : D → D)
    (h : WI X tg iter ρ M fun xs stays M1 => LcBody X scope elt t (wipe2 ρ (own.map (·.2))) M1 xs stays f ∧ ∀ Dd, M1 Dd = none → Q (.obj Dd) (mup M1 Dd (.lst (xs.map f)))) : WE X (.ListComp elt [{ target := tg, iter := iter, ifs := [], is_async := 0 }] scope pos) ρ M Q :=
  we_lc C hb ho ht hf fun σ H r => cI_mono (fun J H1 ⟨xs, stays, M1, a, b, c, d, e⟩ => ⟨xs, stays, M1, a, b, c, lc_pure d e⟩) (h σ H r)
theorem we_lcF (C : Cxt X N sc P w K mg base k0) {tg iter elt c : Expr} {scope : Scope} {pos : Pos} {t : Tgt} {own : List (Str × Nat)} {Q : QE} (hb : blkB N sc.f scope own = true) (ho : ∀ i ∈ slT t, i ∈ own.map (·.2)) (ht : ∀ X', Blk X scope X' → PT2 X' tg t) (hf : ∀ x, foldedSetIterable iter X.env x = pure x) (g : D → Bool) (f : D → D)
    (h : WI X tg iter ρ M fun xs stays M1 => LcBodyF X scope elt c t (wipe2 ρ (own.map (·.2))) M1 xs stays g f ∧ ∀ Dd, M1 Dd = none → Q (.obj Dd) (mup M1 Dd (.lst ((xs.filter g).map f)))) : WE X (.ListComp elt [{ target := tg, iter := iter, ifs := [c], is_async := 0 }] scope pos) ρ M Q :=
  we_lc C hb ho ht hf fun σ H r => cI_mono (fun J H1 ⟨xs, stays, M1, a, b, c, d, e⟩ => ⟨xs, stays, M1, a, b, c, lc_pureF d e⟩) (h σ H r)
theorem ws_setLcP (C : Cxt X N sc P w K mg base k0) {i : Nat} {y : Str} {py : Pos} {tg iter elt : Expr} {scope : Scope} {pos spos : Pos} {t : Tgt} {own : List (Str × Nat)} {E : Ends2} (nm : Nm N i y) (ly : y ∈ sc.c) (hl : (py.line == pos.line) = true) (ha : (scope.names.any fun (n, k) => n == y && (k == .local || k == .cell)) = false)
    (hb : blkB N sc.f scope own = true) (ho : ∀ i ∈ slT t, i ∈ own.map (·.2)) (ht : ∀ X', Blk X scope X' → PT2 X' tg t) (hf : ∀ x, foldedSetIterable iter X.env x = pure x) (f : D → D)
    (h : WI X tg iter ρ M fun xs stays M1 => LcBody X scope elt t (wipe2 ρ (own.map (·.2))) M1 xs stays f ∧ ∀ Dd, M1 Dd = none → ∃ ρ', Put N ρ y (.obj Dd) ρ' ∧ E.nx ρ' (mup M1 Dd (.lst (xs.map f)))) : WS X (.Assign [.Name y py] (.ListComp elt [{ target := tg, iter := iter, ifs := [], is_async := 0 }] scope pos) spos) E ρ M :=
  ws_setLc C nm ly hl ha hb ho ht hf fun σ H r => cI_mono (fun J H1 ⟨xs, stays, M1, a, b, c, d, e⟩ => ⟨xs, stays, M1, a, b, c, lc_pure (R' := fun Dd M => ∃ ρ', Put N ρ y (.obj Dd) ρ' ∧ E.nx ρ' M) d e⟩) (h σ H r)
/-! elements that make new objects, but change none -/
def LcBodyG (X : Cx) (scope : Scope) (elt : Expr) (t : Tgt) (ρw : St2) (M1 : Mem) (xs : List D) (stays : Mem → Prop) (zs : List D) : Prop :=
  xs.length ≤ sizeLine ∧ zs.length = xs.length ∧ (∀ M', Ext M1 M' → stays M') ∧
  ∀ (i : Nat) (d z : D) (M' : Mem), xs[i]? = some d → zs[i]? = some z → Ext M1 M' → ∃ ρ', bT t d ρw = some ρ' ∧ ∀ X', Blk X scope X' → WE X' elt ρ' M' fun y M4 => Ext M' M4 ∧ y = z
def LcBodyH {α : Type} (X : Cx) (scope : Scope) (elt c : Expr) (t : Tgt) (ρw : St2) (M1 : Mem) (xs : List D) (stays : Mem → Prop) (ys : List α) (e : α → D) (p : α → Bool) (g : α → D) : Prop :=
  xs = ys.map e ∧ xs.length ≤ sizeLine ∧ (∀ M', Ext M1 M' → stays M') ∧
  ∀ (i : Nat) (y : α) (M' : Mem), ys[i]? = some y → Ext M1 M' → ∃ ρ', bT t (e y) ρw = some ρ' ∧ ∀ X', Blk X scope X' → WT X' c ρ' M' fun b M3 => Ext M' M3 ∧ b = p y ∧ (b = true → ∀ X2, Blk X scope X2 → WE X2 elt ρ' M3 fun z M4 => Ext M3 M4 ∧ z = g y)
theorem Ext.put {M1 M : Mem} (h : Ext M1 M) {p : Addr} {o : MO} (e : M1 p = none) : Ext M1 (mup M p o) := fun a u x => by
  by_cases z : a = p
  · subst z; rw [e] at x; cases x
  · rw [mup_ne z]; exact h a u x
theorem lc_grow {M1 : Mem} {xs : List D} {stays : Mem → Prop} {scope : Scope} {elt : Expr} {t : Tgt} {ρw : St2} {zs : List D} {R' : Addr → Mem → Prop} (h : LcBodyG X scope elt t ρw M1 xs stays zs) (k : ∀ Dd M', M1 Dd = none → M' Dd = some (.lst zs) → Ext M1 M' → R' Dd M') :
    ∀ Dd, M1 Dd = none → ∃ I : Nat → Mem → Prop, I 0 (mup M1 Dd (.lst [])) ∧ (∀ i M, I i M → stays M) ∧
      (∀ (i : Nat) (d : D) (M : Mem), xs[i]? = some d → I i M → ∃ ρ', bT t d ρw = some ρ' ∧ ∀ X', Blk X scope X' → WTs X' [] ρ' M fun b M3 => Br b (∀ X2, Blk X scope X2 → WE X2 elt ρ' M3 fun y M4 => ∃ acc, M4 Dd = some (.lst acc) ∧ acc.length < sizeLine ∧ I (i + 1) (mup M4 Dd (.lst (acc ++ [y])))) (I (i + 1) M3)) ∧
      (∀ M, I xs.length M → R' Dd M) := by
  intro Dd hD
  obtain ⟨hz, hl, hs, hb⟩ := h
  refine ⟨fun i M => M Dd = some (.lst (zs.take i)) ∧ Ext M1 M, ⟨mup_same, Ext.new hD⟩, fun i M e => hs _ e.2, ?_, fun M ⟨e, x⟩ => k Dd M hD (by rw [e, ← hl, List.take_length]) x⟩
  rintro i d M hi ⟨e, x⟩
  have hi' : i < xs.length := (List.getElem?_eq_some_iff.mp hi).1
  have hzi : zs[i]? = some zs[i] := List.getElem?_eq_getElem (by omega)
  obtain ⟨ρ', e1, w1⟩ := hb i d _ M hi hzi x
  refine ⟨ρ', e1, fun X' B => Br.t fun X2 B2 => WE.mono ?_ (w1 X2 B2)⟩
  rintro y M4 ⟨x4, rfl⟩
  refine ⟨_, x4 _ _ e, by simp; omega, ?_, (x.trans x4).put hD⟩
  rw [mup_same, take_succ' hzi]
theorem lc_growF {α : Type} {M1 : Mem} {xs : List D} {stays : Mem → Prop} {scope : Scope} {elt c : Expr} {t : Tgt} {ρw : St2} {ys : List α} {e : α → D} {p : α → Bool} {g : α → D} {R' : Addr → Mem → Prop} (h : LcBodyH X scope elt c t ρw M1 xs stays ys e p g) (k : ∀ Dd M', M1 Dd = none → M' Dd = some (.lst ((ys.filter p).map g)) → Ext M1 M' → R' Dd M') :
    ∀ Dd, M1 Dd = none → ∃ I : Nat → Mem → Prop, I 0 (mup M1 Dd (.lst [])) ∧ (∀ i M, I i M → stays M) ∧
      (∀ (i : Nat) (d : D) (M : Mem), xs[i]? = some d → I i M → ∃ ρ', bT t d ρw = some ρ' ∧ ∀ X', Blk X scope X' → WTs X' [c] ρ' M fun b M3 => Br b (∀ X2, Blk X scope X2 → WE X2 elt ρ' M3 fun y M4 => ∃ acc, M4 Dd = some (.lst acc) ∧ acc.length < sizeLine ∧ I (i + 1) (mup M4 Dd (.lst (acc ++ [y])))) (I (i + 1) M3)) ∧
      (∀ M, I xs.length M → R' Dd M) := by
  intro Dd hD
  obtain ⟨rfl, hz, hs, hb⟩ := h
  rw [List.length_map] at hz
  refine ⟨fun i M => M Dd = some (.lst (((ys.take i).filter p).map g)) ∧ Ext M1 M, ⟨mup_same, Ext.new hD⟩, fun i M e => hs _ e.2, ?_, fun M ⟨e, x⟩ => k Dd M hD (by rw [e, List.length_map, List.take_length]) x⟩
  rintro i d M hi ⟨ed, x⟩
  rw [List.getElem?_map] at hi
  cases hy : ys[i]? with
  | none => rw [hy] at hi; cases hi
  | some y =>
    rw [hy] at hi; cases hi
    have hl : i < ys.length := (List.getElem?_eq_some_iff.mp hy).1
    obtain ⟨ρ', e1, w1⟩ := hb i y M hy x
    refine ⟨ρ', e1, fun X' B => WT.mono ?_ (w1 X' B)⟩
    rintro b M3 ⟨x3, rfl, w2⟩
    refine ⟨fun z X2 B2 => WE.mono ?_ (w2 z X2 B2), fun z => ⟨?_, x.trans x3⟩⟩
    · rintro v M4 ⟨x4, rfl⟩
      refine ⟨_, x4 _ _ (x3 _ _ ed), ?_, ?_, ((x.trans x3).trans x4).put hD⟩
      · have := List.length_filter_le p (ys.take i)
        simp at this ⊢
        omega
      · rw [mup_same, take_succ' hy, List.filter_append, List.map_append]
        simp [List.filter_cons, z]
    · rw [x3 _ _ ed, take_succ' hy, List.filter_append]
      simp [List.filter_cons, z]
theorem we_lcG (C : Cxt X N sc P w K mg base k0) {tg iter elt : Expr} {scope : Scope} {pos : Pos} {t : Tgt} {own : List (Str × Nat)} {Q : QE} (hb : blkB N sc.f scope own = true) (ho : ∀ i ∈ slT t, i ∈ own.map (·.2)) (ht : ∀ X', Blk X scope X' → PT2 X' tg t) (hf : ∀ x, foldedSetIterable iter X.env x = pure x)
    (h : WI X tg iter ρ M fun xs stays M1 => ∃ zs, LcBodyG X scope elt t (wipe2 ρ (own.map (·.2))) M1 xs stays zs ∧ ∀ Dd M', M1 Dd = none → M' Dd = some (.lst zs) → Ext M1 M' → Q (.obj Dd) M') : WE X (.ListComp elt [{ target := tg, iter := iter, ifs := [], is_async := 0 }] scope pos) ρ M Q :=
  we_lc C hb ho ht hf fun σ H r => cI_mono (fun J H1 ⟨xs, stays, M1, a, b, c, zs, d, e⟩ => ⟨xs, stays, M1, a, b, c, lc_grow d e⟩) (h σ H r)
theorem we_lcH {α : Type} (C : Cxt X N sc P w K mg base k0) {tg iter elt c : Expr} {scope : Scope} {pos : Pos} {t : Tgt} {own : List (Str × Nat)} {Q : QE} (hb : blkB N sc.f scope own = true) (ho : ∀ i ∈ slT t, i ∈ own.map (·.2)) (ht : ∀ X', Blk X scope X' → PT2 X' tg t) (hf : ∀ x, foldedSetIterable iter X.env x = pure x)
    (h : WI X tg iter ρ M fun xs stays M1 => ∃ (ys : List α) (e : α → D) (p : α → Bool) (g : α → D), LcBodyH X scope elt c t (wipe2 ρ (own.map (·.2))) M1 xs stays ys e p g ∧ ∀ Dd M', M1 Dd = none → M' Dd = some (.lst ((ys.filter p).map g)) → Ext M1 M' → Q (.obj Dd) M') : WE X (.ListComp elt [{ target := tg, iter := iter, ifs := [c], is_async := 0 }] scope pos) ρ M Q :=
  we_lc C hb ho ht hf fun σ H r => cI_mono (fun J H1 ⟨xs, stays, M1, a, b, c, ys, e, p, g, d, q⟩ => ⟨xs, stays, M1, a, b, c, lc_growF d q⟩) (h σ H r)
theorem ws_setLcG (C : Cxt X N sc P w K mg base k0) {i : Nat} {y : Str} {py : Pos} {tg iter elt : Expr} {scope : Scope} {pos spos : Pos} {t : Tgt} {own : List (Str × Nat)} {E : Ends2} (nm : Nm N i y) (ly : y ∈ sc.c) (hl : (py.line == pos.line) = true) (ha : (scope.names.any fun (n, k) => n == y && (k == .local || k == .cell)) = false)
    (hb : blkB N sc.f scope own = true) (ho : ∀ i ∈ slT t, i ∈ own.map (·.2)) (ht : ∀ X', Blk X scope X' → PT2 X' tg t) (hf : ∀ x, foldedSetIterable iter X.env x = pure x)
    (h : WI X tg iter ρ M fun xs stays M1 => ∃ zs, LcBodyG X scope elt t (wipe2 ρ (own.map (·.2))) M1 xs stays zs ∧ ∀ Dd M', M1 Dd = none → M' Dd = some (.lst zs) → Ext M1 M' → ∃ ρ', Put N ρ y (.obj Dd) ρ' ∧ E.nx ρ' M') : WS X (.Assign [.Name y py] (.ListComp elt [{ target := tg, iter := iter, ifs := [], is_async := 0 }] scope pos) spos) E ρ M :=
  ws_setLc C nm ly hl ha hb ho ht hf fun σ H r => cI_mono (fun J H1 ⟨xs, stays, M1, a, b, c, zs, d, e⟩ => ⟨xs, stays, M1, a, b, c, lc_grow (R' := fun Dd M => ∃ ρ', Put N ρ y (.obj Dd) ρ' ∧ E.nx ρ' M) d e⟩) (h σ H r)
/-- .. with a test -/
theorem ws_setLcH {α : Type} (C : Cxt X N sc P w K mg base k0) {i : Nat} {y : Str} {py : Pos} {tg iter elt c : Expr} {scope : Scope} {pos spos : Pos} {t : Tgt} {own : List (Str × Nat)} {E : Ends2} (nm : Nm N i y) (ly : y ∈ sc.c) (hl : (py.line == pos.line) = true) (ha : (scope.names.any fun (n, k) => n == y && (k == .local || k == .cell)) = false)
    (hb : blkB N sc.f scope own = true) (ho : ∀ i ∈ slT t, i ∈ own.map (·.2)) (ht : ∀ X', Blk X scope X' → PT2 X' tg t) (hf : ∀ x, foldedSetIterable iter X.env x = pure x)
    (h : WI X tg iter ρ M fun xs stays M1 => ∃ (ys : List α) (e : α → D) (p : α → Bool) (g : α → D), LcBodyH X scope elt c t (wipe2 ρ (own.map (·.2))) M1 xs stays ys e p g ∧ ∀ Dd M', M1 Dd = none → M' Dd = some (.lst ((ys.filter p).map g)) → Ext M1 M' → ∃ ρ', Put N ρ y (.obj Dd) ρ' ∧ E.nx ρ' M') : WS X (.Assign [.Name y py] (.ListComp elt [{ target := tg, iter := iter, ifs := [c], is_async := 0 }] scope pos) spos) E ρ M :=
  ws_setLc C nm ly hl ha hb ho ht hf fun σ H r => cI_mono (fun J H1 ⟨xs, stays, M1, a, b, c, ys, e, p, g, d, q⟩ => ⟨xs, stays, M1, a, b, c, lc_growF (R' := fun Dd M => ∃ ρ', Put N ρ y (.obj Dd) ρ' ∧ E.nx ρ' M) d q⟩) (h σ H r)
end
end Y

set_option Elab.async false
set_option linter.all false
set_option autoImplicit false
set_option maxRecDepth 100000
set_option maxHeartbeats 4000000
/-! the end of a law -/
namespace Y
open PySem PySem.Spec PyProof.Rows L2
/-- what a law's def promises: it gives True of every list of at most n ints -/
def spLaw (n : Nat) : Sp2 := fun ds M Q _ => ∃ ns : List Int, ds = [.ro (ns.map D.int)] ∧ ns.length ≤ n ∧ (∀ a, M a = none) ∧ ∀ M', Q (.bl true) M'
section
variable {P : Program} {w : World} {K : PySem.W.Frag} {mg mb : Str → Option Value} {k n : Nat} {fa a : Addr} {fd : FuncData} {x : Str} {s₁ : Shared} {vs : List Value} {ns : List Int}
/-- from an abstract heap H that tracks the script alone, or nothing -/
theorem law_from (KX : K.In s₁.heap) (hns : s₁.heap.Ns mainGlobals mg) (hb : s₁.heap.Ns builtinsNs mb) (hbb : ∀ x : Str, x ≠ "__name__" → mb x = bootBuiltins x) (hlim : s₁.heap.NoLimit) (hg : s₁.gens = #[])
    (ha : s₁.heap.get? a = some { cls := .type "list", data := .seq vs.toArray }) (hl : ns.length ≤ n) (hr : Room k callerA)
    (F : ∀ base : Heap, K.In base → base.Ns mainGlobals mg → Fn2 P w K mg base CX0 k fa fd [x] (spLaw n)) (hbind : ∀ (s : Shared) (u : Value), BindsTo s fd ⟨[u], []⟩ [(x, u)])
    (H : Hp) (hO : ∀ b u, H b = some u → b = a ∧ K.lookup a = none ∧ ∃ o xs, u = .frz o (.lst xs)) (hS : SqF K H a (ns.map V.int)) (hok : HOk P w H s₁.heap) :
    codeAny (model P w) callerA (.call (.ref fa) ⟨[.ref a], []⟩) (fun r s' => r = .ok (.ret (.bool true)) ∧ OldK s₁.heap s'.heap ∧ s'.os = s₁.os ∧ AllBare s'.gens) s₁ := by
  have off : ∀ {b : Addr}, b ≠ a → H b = none := fun {b} hb => by
    cases q : H b with
    | none => rfl
    | some u => exact absurd (hO b u q).1 hb
  have nsK : ∀ {b : Addr} {m : Str → Option Value}, s₁.heap.Ns b m → (hidT s₁.heap H).Ns b m := by
    rintro b m ⟨o, es, ep, e, d, r⟩
    refine ⟨o, es, ep, hidT_get e (off ?_), d, r⟩
    rintro rfl
    rw [ha] at e
    cases e
    cases d
  have hKb : K.In (hidT s₁.heap H) := fun b o e => hidT_get (KX b o e) (by
    cases q : H b with
    | none => rfl
    | some u =>
      obtain ⟨rfl, kn, _⟩ := hO b u q
      rw [kn] at e
      cases e)
  obtain ⟨mc, l1, l2⟩ := hlim
  have hM : Mod K mg (hidT s₁.heap H) := { kin := hKb, glob := nsK hns, blt := ⟨mb, nsK hb, hbb⟩, nolimit := ⟨mc, nsK l1, l2⟩ }
  have e0 : Env0 P w K mg (hidT s₁.heap H) callerA [] s₁ H := { frames := rfl, mod := hM, bs := fun b o e => of_hidT e, bsz := Nat.le_of_eq (hidT_size _ _), funs := trivial, frf := fun b hb => (nomatch hb), hok := hok, bare := .of_eq hg }
  have run := (F _ hKb (nsK hns)).run callerA [] s₁ H ⟨[.ref a], []⟩ [.ref a] [.ref a] [.ro (ns.map D.int)] (fun _ => none) (fun d _ => d = .bl true) (fun _ _ _ => False) hr rfl e0 (hbind s₁ (.ref a)) (.cons rfl .nil)
    (DenL.cons (den_ro.mpr ⟨a, _, rfl, hS, DenL.of_ints ns⟩) DenL.nil) (fun _ _ e => (nomatch e)) ⟨ns, rfl, hl, fun _ => rfl, fun _ => rfl⟩
  refine codeAny_mono run ?_
  rintro (e | fl) s' h
  · exact h.elim
  · cases fl with
    | next => exact h.elim
    | brk => exact h.elim
    | cont => exact h.elim
    | ret u =>
      obtain ⟨v, H', os, bare, un, hok', r', d, M', dn, _, _, rfl⟩ := h
      rw [den_bl.mp dn] at r'
      obtain rfl : u = Value.bool true := r'
      refine ⟨rfl, OldK.of_keep fun b o e => ?_, os, bare⟩
      cases q : H b with
      | none => exact un.keep b o e q (fun z => (nomatch z)) (fun z => (nomatch z))
      | some t =>
        obtain ⟨_, _, ob, xs, rfl⟩ := hO b t q
        obtain ⟨e1, _⟩ := hok b _ q
        obtain ⟨e2, _⟩ := hok' b _ (un.frzs b ob _ q)
        rw [e1] at e
        cases e
        exact e2
theorem law_run (KX : K.In s₁.heap) (hns : s₁.heap.Ns mainGlobals mg) (hb : s₁.heap.Ns builtinsNs mb) (hbb : ∀ x : Str, x ≠ "__name__" → mb x = bootBuiltins x) (hlim : s₁.heap.NoLimit) (hg : s₁.gens = #[])
    (ha : s₁.heap.get? a = some { cls := .type "list", data := .seq vs.toArray }) (hi : IntsAre vs ns) (hl : ns.length ≤ n) (hn : n ≤ sizeLine) (hr : Room k callerA)
    (F : ∀ base : Heap, K.In base → base.Ns mainGlobals mg → Fn2 P w K mg base CX0 k fa fd [x] (spLaw n)) (hbind : ∀ (s : Shared) (u : Value), BindsTo s fd ⟨[u], []⟩ [(x, u)]) :
    codeAny (model P w) callerA (.call (.ref fa) ⟨[.ref a], []⟩) (fun r s' => r = .ok (.ret (.bool true)) ∧ OldK s₁.heap s'.heap ∧ s'.os = s₁.os ∧ AllBare s'.gens) s₁ := by
  have rv := vals_ints hi
  have hz := hi.length
  have go := law_from KX hns hb hbb hlim hg ha hl hr F hbind
  cases hk : K.lookup a with
  | some o =>
    have e := KX a o hk
    rw [ha] at e
    cases e
    exact go (fun _ => none) (fun b u e => (nomatch e)) (.inr ⟨_, vs.toArray, _, hk, rfl, rfl, rfl, by rw [List.size_toArray, hz]; omega, by simpa using rv⟩) (fun b u e => (nomatch e))
  | none =>
    refine go (fun b => if b = a then some (.frz { cls := .type "list", data := .seq vs.toArray } (.lst (ns.map V.int))) else none) (fun b u e => ?_) (.inl ⟨_, if_pos rfl⟩) (fun b u e => ?_)
    all_goals
      by_cases c : b = a
      · subst c
        cases (if_pos rfl).symm.trans e
        first
          | exact ⟨rfl, hk, _, _, rfl⟩
          | exact ⟨ha, by rw [List.length_map]; omega, vs, _, rv, ha⟩
      · exact absurd ((if_neg c).symm.trans e) (by simp)
end
/-- the goal that k_head leaves -/
theorem walk2 {l : PySem.W.OpenLaw} {n k : Nat} {q : Program} {loose : List Str} {XP : (Str → Option Value) → Heap → Prop} {YP : World → Heap → Prop} {d : DefRec} {K : Params → PySem.W.Frag} {x : Str}
    (hn : l.most = some n) (hn2 : n ≤ sizeLine) (hdf : d.params.defaults = []) (hr : Room k callerA) (hY : ∀ (w : World) (h : Heap), YP w h → (K w.params).In h)
    (F : ∀ (w : World) (mg : Str → Option Value) (fa : Addr) (h : Heap), (K w.params).In h → h.Ns mainGlobals mg → mg d.name = some (.ref fa) →
      ∃ fd : FuncData, (∀ (s : Shared) (u : Value), BindsTo s fd ⟨[u], []⟩ [(x, u)]) ∧ ∀ base : Heap, (K w.params).In base → base.Ns mainGlobals mg → Fn2 l.prog w (K w.params) mg base CX0 k fa fd [x] (spLaw n)) :
    PySem.W.WalkO q loose XP YP l.row.toRowW d [] (fun f vs => PySem.call f vs) := by
  refine Att.attach_call hn hdf ?_
  intro w s₀ s₁ mg mb fa o pm cd doc a vs ns G Y ho hd hcd hmg hobj hints hlen hg
  have KX := hY w _ Y
  obtain ⟨fd, hb, hF⟩ := F w mg fa _ KX G.T.g hmg
  exact law_run KX G.T.g G.T.b G.T.builtins G.T.nolimit hg hobj hints hlen hn2 hr hF hb
end Y

set_option Elab.async false
set_option linter.all false
set_option autoImplicit false
set_option maxRecDepth 100000
set_option maxHeartbeats 4000000
namespace Y
open PySem PySem.Spec PyProof.Rows L2

/-! ### repr of nested data -/
mutual
inductive RdV (K : PySem.W.Frag) (H : Hp) : V → PyData → Prop
  | non : RdV K H .non .none
  | bl (b : Bool) : RdV K H (.bl b) (.bool b)
  | int (i : Int) : RdV K H (.int i) (.int i)
  | str (x : Str) : RdV K H (.str x) (.str x)
  | lst {a : Addr} {xs : List V} {ps : List PyData} : SqL K H a xs → RdVs K H xs ps → RdV K H (.ref a) (.list ps)
  | tup {a : Addr} {xs : List V} {ps : List PyData} : SqT K H a xs → RdVs K H xs ps → RdV K H (.ref a) (.tuple ps)
inductive RdVs (K : PySem.W.Frag) (H : Hp) : List V → List PyData → Prop
  | nil : RdVs K H [] []
  | cons {v : V} {vs : List V} {p : PyData} {ps : List PyData} : RdV K H v p → RdVs K H vs ps → RdVs K H (v :: vs) (p :: ps)
end
mutual
theorem rdv_reads {X : Cx} {pins : List (Addr × Obj)} {σ : L2.St} {H : Hp} {s : Shared} (I : Inv X pins σ H s) : ∀ {v : V} {p : PyData} {u : Value}, RdV X.K H v p → RelV v u → ∃ as, Reads s.heap u p as
  | _, _, u, .non, r => by cases r; exact ⟨_, .none⟩
  | _, _, u, .bl b, r => by cases r; exact ⟨_, .bool b⟩
  | _, _, u, .int i, r => by obtain ⟨t, rfl⟩ := r; exact ⟨_, .int i t⟩
  | _, _, u, .str x, r => by obtain ⟨t, rfl⟩ := r; exact ⟨_, .str x t⟩
  | _, _, u, .lst h k, r => by
    cases r
    obtain ⟨its, rv, pl, hz⟩ := I.list h
    obtain ⟨o, ho, hc, n, hd⟩ := pl.isList
    obtain ⟨as, ra⟩ := rdvs_reads I k rv
    exact ⟨_, .list ho hc hd ra⟩
  | _, _, u, .tup h k, r => by
    cases r
    obtain ⟨its, rv, pl, hz⟩ := I.tuple h
    obtain ⟨o, ho, hc, n, hd⟩ := pl
    obtain ⟨as, ra⟩ := rdvs_reads I k rv
    exact ⟨_, .tuple ho hc hd ra⟩
theorem rdvs_reads {X : Cx} {pins : List (Addr × Obj)} {σ : L2.St} {H : Hp} {s : Shared} (I : Inv X pins σ H s) : ∀ {vs : List V} {ps : List PyData} {us : List Value}, RdVs X.K H vs ps → Vals vs us → ∃ as, ReadsAll s.heap us ps as
  | _, _, us, .nil, r => by cases r; exact ⟨_, .nil⟩
  | _, _, us, .cons a b, r => by
    cases r with
    | cons r1 r2 =>
      obtain ⟨as, x⟩ := rdv_reads I a r1
      obtain ⟨bs, y⟩ := rdvs_reads I b r2
      exact ⟨_, .cons x y⟩
end
def rRepr (K : PySem.W.Frag) : List V → Hp → VK → Prop := fun vs H Q => ∃ (v : V) (p : PyData), vs = [v] ∧ RdV K H v p ∧ p.showable = true ∧ p.hasDict = false ∧ p.depth ≤ 60 ∧ p.shown.length ≤ sizeLine ∧ Q (.str p.shown) H
theorem cr_repr {X : Cx} {k : Nat} (hr : Room k X.A) (hg : X.A.guards = some []) : CallR X (.builtin "repr") (rRepr X.K) := by
  rintro pins s σ H vs us Q I r ⟨v, p, rfl, hv, h1, h2, h3, h4, q⟩
  obtain ⟨u, rfl, ru⟩ := vals1 r
  have hu := hr.units
  obtain ⟨as, rd⟩ := rdv_reads I hv ru
  have fin : ∀ h' t tk, (∀ b o, s.heap.get? b = some o → h'.get? b = some o) → EP X pins σ Q (.str p.shown t) { s with heap := h', toks := tk } := fun h' t tk hk => ⟨.str p.shown, H, I.kept hk, ⟨t, rfl⟩, q⟩
  cases hv with
  | non => cases ru; exact PySem.P.repr_of_none (fin _ _ _ fun _ _ e => e)
  | bl b => cases ru; cases b <;> exact PySem.P.repr_of_bool (fin _ _ _ fun _ _ e => e)
  | int i =>
    obtain ⟨t, rfl⟩ := ru
    exact PySem.P.repr_of_int (by simpa [PyData.showable] using h1) (fin _ _ _ fun _ _ e => e)
  | str x =>
    obtain ⟨t, rfl⟩ := ru
    exact PySem.P.repr_of_str (fin _ _ _ fun _ _ e => e) h4
  | lst a b =>
    cases ru
    exact repr_of_reads' rd h1 (PyData.noDict_hsm h2) hg (by omega) (fun _ _ e => e) (fun h' t tk hk => fin h' t tk hk) h4
  | tup a b =>
    cases ru
    exact repr_of_reads' rd h1 (PyData.noDict_hsm h2) hg (by omega) (fun _ _ e => e) (fun h' t tk hk => fin h' t tk hk) h4
mutual
/-- what a datum holds, all through -/
inductive PyR (M : Mem) : D → PyData → Prop
  | non : PyR M .non .none
  | bl (b : Bool) : PyR M (.bl b) (.bool b)
  | int (i : Int) : PyR M (.int i) (.int i)
  | str (x : Str) : PyR M (.str x) (.str x)
  | tup {ds : List D} {ps : List PyData} : PyRs M ds ps → PyR M (.tup ds) (.tuple ps)
  | obj {a : Addr} {ds : List D} {ps : List PyData} : M a = some (.lst ds) → PyRs M ds ps → PyR M (.obj a) (.list ps)
inductive PyRs (M : Mem) : List D → List PyData → Prop
  | nil : PyRs M [] []
  | cons {d : D} {ds : List D} {p : PyData} {ps : List PyData} : PyR M d p → PyRs M ds ps → PyRs M (d :: ds) (p :: ps)
end
mutual
theorem PyR.rdv {K : PySem.W.Frag} {H : Hp} {M : Mem} (r : Rep K H M) : ∀ {d : D} {v : V} {p : PyData}, PyR M d p → Den K H d v → RdV K H v p
  | _, v, _, .non, h => by rw [den_non.mp h]; exact .non
  | _, v, _, .bl b, h => by rw [den_bl.mp h]; exact .bl b
  | _, v, _, .int i, h => by rw [den_int.mp h]; exact .int i
  | _, v, _, .str x, h => by rw [den_str.mp h]; exact .str x
  | _, v, _, .tup l, h => by
    obtain ⟨a, xs, rfl, s, dl⟩ := den_tup.mp h
    exact .tup s (PyRs.rdvs r l dl)
  | _, v, _, .obj e l, h => by
    rw [den_obj.mp h]
    obtain ⟨xs, hx, dl⟩ := r.lst e
    exact .lst (.inl (.inl hx)) (PyRs.rdvs r l dl)
theorem PyRs.rdvs {K : PySem.W.Frag} {H : Hp} {M : Mem} (r : Rep K H M) : ∀ {ds : List D} {vs : List V} {ps : List PyData}, PyRs M ds ps → DenL K H ds vs → RdVs K H vs ps
  | _, vs, _, .nil, h => by rw [denL_nil.mp h]; exact .nil
  | _, vs, _, .cons a b, h => by
    obtain ⟨v, vr, rfl, h1, h2⟩ := denL_cons.mp h
    exact .cons (PyR.rdv r a h1) (PyRs.rdvs r b h2)
end
mutual
theorem PyR.ext {M M' : Mem} (x : Ext M M') : ∀ {d : D} {p : PyData}, PyR M d p → PyR M' d p
  | _, _, .non => .non
  | _, _, .bl b => .bl b
  | _, _, .int i => .int i
  | _, _, .str s => .str s
  | _, _, .tup l => .tup (PyRs.ext x l)
  | _, _, .obj e l => .obj (x _ _ e) (PyRs.ext x l)
theorem PyRs.ext {M M' : Mem} (x : Ext M M') : ∀ {ds : List D} {ps : List PyData}, PyRs M ds ps → PyRs M' ds ps
  | _, _, .nil => .nil
  | _, _, .cons a b => .cons (PyR.ext x a) (PyRs.ext x b)
end
theorem DenL.reverse {K : PySem.W.Frag} {H : Hp} : ∀ {ds : List D} {vs : List V}, DenL K H ds vs → DenL K H ds.reverse vs.reverse
  | [], vs, h => by rw [denL_nil.mp h]; exact DenL.nil
  | d :: ds, vs, h => by
    obtain ⟨v, r, rfl, a, b⟩ := denL_cons.mp h
    rw [List.reverse_cons, List.reverse_cons]
    exact DenL.append (DenL.reverse b) (DenL.cons a DenL.nil)
theorem PyRs.len {M : Mem} : ∀ {ds : List D} {ps : List PyData}, PyRs M ds ps → ps.length = ds.length
  | _, _, .nil => rfl
  | _, _, .cons a b => by rw [List.length_cons, List.length_cons, b.len]
/-- how long its text is, how deep it is -/
structure Sz (L K : Nat) (p : PyData) : Prop where
  len : p.shown.length ≤ L
  sh : p.showable = true
  nd : p.hasDict = false
  dp : p.depth ≤ K
theorem Sz.le {L K L' K' : Nat} {p : PyData} (h : Sz L K p) (a : L ≤ L') (b : K ≤ K') : Sz L' K' p := ⟨Nat.le_trans h.len a, h.sh, h.nd, Nat.le_trans h.dp b⟩
theorem sz_int {i : Int} (h : i.natAbs.log2 < 1900) : Sz 1921 0 (.int i) := by
  have hl : i.natAbs.log2 < 1920 := by omega
  refine ⟨?_, by simpa [PyData.showable] using hl, by simp [PyData.hasDict], by simp [PyData.depth]⟩
  have e := int_text_length_le (k := 1920) (by decide) hl
  have e2 : (PyData.shown (.int i)).length = (toString i).length := by
    simp only [PyData.shown]; exact PySem.ofString_length _
  omega
theorem sz_all {L K m : Nat} : ∀ {ps : List PyData}, (∀ p ∈ ps, Sz L K p) → ((PyData.shownAll ps).map (·.length)).sum ≤ ps.length * L ∧ PyData.showableAll ps = true ∧ PyData.hasDictAll ps = false ∧ PyData.depthAll ps ≤ K
  | [], _ => ⟨by simp [PyData.shownAll], by simp [PyData.showableAll], by simp [PyData.hasDictAll], by simp [PyData.depthAll]⟩
  | p :: ps, h => by
    have a := h p (List.mem_cons_self ..)
    obtain ⟨b1, b2, b3, b4⟩ := sz_all (m := m) fun q hq => h q (List.mem_cons_of_mem _ hq)
    refine ⟨?_, by simp [PyData.showableAll, a.sh, b2], by simp [PyData.hasDictAll, a.nd, b3], by simp only [PyData.depthAll]; exact Nat.max_le.mpr ⟨a.dp, b4⟩⟩
    have := a.len
    simp only [PyData.shownAll, List.map_cons, List.sum_cons, List.length_cons, Nat.add_mul]
    omega
theorem sz_len : ∀ (ps : List PyData), (PyData.shownAll ps).length = ps.length
  | [] => rfl
  | p :: ps => by simp only [PyData.shownAll, List.length_cons, sz_len ps]
theorem sz_list {L K m : Nat} {ps : List PyData} (h : ∀ p ∈ ps, Sz L K p) (hm : ps.length ≤ m) : Sz (m * (L + 2) + 3) (K + 1) (.list ps) := by
  obtain ⟨b1, b2, b3, b4⟩ := sz_all (m := m) h
  refine ⟨?_, by simpa [PyData.showable] using b2, by simpa [PyData.hasDict] using b3, by simp only [PyData.depth]; omega⟩
  have h2 := listText_len_le (PyData.shownAll ps)
  have e := Nat.mul_le_mul_right L hm
  rw [sz_len] at h2
  simp only [PyData.shown]
  rw [Nat.mul_add]
  omega
theorem sz_tuple {L K m : Nat} {ps : List PyData} (h : ∀ p ∈ ps, Sz L K p) (hm : ps.length ≤ m) : Sz (m * (L + 2) + 3) (K + 1) (.tuple ps) := by
  obtain ⟨b1, b2, b3, b4⟩ := sz_all (m := m) h
  refine ⟨?_, by simpa [PyData.showable] using b2, by simpa [PyData.hasDict] using b3, by simp only [PyData.depth]; omega⟩
  have h2 := tupleText_len_le (PyData.shownAll ps)
  have e := Nat.mul_le_mul_right L hm
  rw [sz_len] at h2
  simp only [PyData.shown]
  rw [Nat.mul_add]
  omega
/-- what a datum holds, and its size -/
structure PyS (M : Mem) (L K : Nat) (d : D) (p : PyData) : Prop where
  r : PyR M d p
  z : Sz L K p
structure PySs (M : Mem) (L K : Nat) (ds : List D) (ps : List PyData) : Prop where
  r : PyRs M ds ps
  z : ∀ p ∈ ps, Sz L K p
section
variable {M : Mem} {L K L' K' : Nat} {d : D} {p : PyData} {ds : List D} {ps : List PyData}
theorem PyS.le (h : PyS M L K d p) (a : L ≤ L') (b : K ≤ K') : PyS M L' K' d p := ⟨h.r, h.z.le a b⟩
theorem PyS.ext {M' : Mem} (x : Ext M M') (h : PyS M L K d p) : PyS M' L K d p := ⟨h.r.ext x, h.z⟩
theorem pys_non : PyS M 4 0 .non .none := ⟨.non, ⟨by decide, rfl, rfl, Nat.le_refl _⟩⟩
theorem pys_bl {b : Bool} : PyS M 5 0 (.bl b) (.bool b) := ⟨.bl b, ⟨by cases b <;> decide, rfl, rfl, Nat.le_refl _⟩⟩
theorem pys_int {i : Int} (h : i.natAbs.log2 < 1900) : PyS M 1921 0 (.int i) (.int i) := ⟨.int i, sz_int h⟩
/-- an int of usual size -/
theorem pys_i {i : Int} (h1 : -1000000000000000000 < i) (h2 : i < 1000000000000000000) : PyS M 20 0 (.int i) (.int i) := by
  have hn : i.natAbs < 10 ^ 18 := by have e : (10 : Nat) ^ 18 = 1000000000000000000 := by decide
                                     omega
  have hl : i.natAbs.log2 < 1920 := by
    by_cases z : i.natAbs = 0
    · rw [z]; decide
    · have h60 : i.natAbs < 2 ^ 60 := by have e : (2 : Nat) ^ 60 = 1152921504606846976 := by decide
                                         omega
      have := (Nat.log2_lt z).mpr h60
      omega
  have e := int_text_length_le10 (k := 18) (by decide) hn
  have e2 : (PyData.shown (.int i)).length = (toString i).length := by
    simp only [PyData.shown]; exact PySem.ofString_length _
  exact ⟨.int i, ⟨by omega, by simpa [PyData.showable] using hl, by simp [PyData.hasDict], by simp [PyData.depth]⟩⟩
theorem pys_str {x : Str} {n : Nat} (h : (reprText x).length ≤ n) : PyS M n 0 (.str x) (.str x) := ⟨.str x, ⟨h, rfl, rfl, Nat.le_refl _⟩⟩
theorem pys_tup {m : Nat} (h : PySs M L K ds ps) (hm : ds.length ≤ m) : PyS M (m * (L + 2) + 3) (K + 1) (.tup ds) (.tuple ps) := ⟨.tup h.r, sz_tuple h.z (by rw [h.r.len]; exact hm)⟩
theorem pys_lst {m : Nat} {a : Addr} (e : M a = some (.lst ds)) (h : PySs M L K ds ps) (hm : ds.length ≤ m) : PyS M (m * (L + 2) + 3) (K + 1) (.obj a) (.list ps) := ⟨.obj e h.r, sz_list h.z (by rw [h.r.len]; exact hm)⟩
theorem pys_nil : PySs M L K [] [] := ⟨.nil, fun _ h => (by cases h)⟩
theorem pys_cons (a : PyS M L' K' d p) (h1 : L' ≤ L) (h2 : K' ≤ K) (b : PySs M L K ds ps) : PySs M L K (d :: ds) (p :: ps) := ⟨.cons a.r b.r, fun q hq => by
  rcases List.mem_cons.mp hq with e | e
  · subst e; exact a.z.le h1 h2
  · exact b.z q e⟩
theorem pys_map {α : Type} {f : α → D} {g : α → PyData} : ∀ {xs : List α}, (∀ x ∈ xs, PyS M L K (f x) (g x)) → PySs M L K (xs.map f) (xs.map g)
  | [], _ => pys_nil
  | x :: xs, h => pys_cons (h x (List.mem_cons_self ..)) (Nat.le_refl _) (Nat.le_refl _) (pys_map fun y hy => h y (List.mem_cons_of_mem _ hy))
theorem pys_app {es : List D} {qs : List PyData} (a : PySs M L K ds ps) (b : PySs M L K es qs) : PySs M L K (ds ++ es) (ps ++ qs) := by
  obtain ⟨r, z⟩ := a
  induction ds generalizing ps with
  | nil => cases r; exact b
  | cons d ds ih =>
    cases r with
    | cons r1 r2 => exact ⟨.cons r1 (ih r2 fun q hq => z q (List.mem_cons_of_mem _ hq)).r, fun q hq => by
        rcases List.mem_append.mp hq with e | e
        · exact z q e
        · exact b.z q e⟩
end
/-! ### items of lists, for o[i] += e -/
def rGetL : V → V → Hp → VK → Prop := fun o i H Q => ∃ p xs k j v, o = .ref p ∧ i = .int k ∧ H p = some (.lst xs) ∧ ixN xs.length k = some j ∧ xs[j]? = some v ∧ Q v H
theorem get_list0 {X : Cx} : PGet X rGetL := by
  rintro pins s σ H o i ov iv Q I ro ri ⟨p, xs, k, j, v, rfl, rfl, hp, hj, hv, q⟩
  cases ro
  obtain ⟨t, rfl⟩ := ri
  obtain ⟨its, r, pl, hz⟩ := I.list (X := X) (.inl (.inl hp))
  have he : atI xs k = some v := by unfold atI; rw [hj]; exact hv
  obtain ⟨j, h1, h2, h3, h4, h5⟩ := atI_get he
  obtain ⟨w, ew, rw'⟩ := r.get h2
  have hl := r.length
  have hn := line63
  have fin : EP X pins σ Q w s := ⟨v, H, I, rw', q⟩
  by_cases h0 : 0 ≤ k
  · have hj : k.toNat = j := by
      rw [seqIndex_of h0 h5] at h1
      exact Option.some.inj h1
    exact PyProof.Rows.getItem_listL pl.isList h0 (by omega) (by rw [hj]; exact ew) fin
  · have hj : (k + (its.toArray.size : Int)).toNat = j := by
      rw [seqIndex_neg (by omega) h4] at h1
      rw [List.size_toArray, ← hl]
      exact Option.some.inj h1
    exact wpAny_getItem_list_neg pl.isList (by omega) (by rw [List.size_toArray] <;> omega) (by omega) (by rw [hj]; simpa using ew) fin
theorem min_intTup {prog : Program} {w : World} {A : Around} {E : Value → Shared → Prop} {s : Shared} {t : Addr} {xs : Array (Int × Tok)} {Q : Value → Shared → Prop} (hh : A.handled = none) (ht : s.heap.IsTuple t (intItems xs)) (hne : 0 < xs.size)
    (h : ∀ v h' tk, (intItems xs)[argBest (fun i j => decide (numAt xs i < numAt xs j)) (xs.size - 1)]? = some v → (∀ b o, s.heap.get? b = some o → h'.get? b = some o) → Q v { s with heap := h', toks := tk }) :
    wpAny (model prog w) A (call (.builtin "min") [.ref t]) Q E s := by
  obtain ⟨o, ho, hc, n, hd⟩ := id ht
  have hn : t ≠ s.heap.objs.size := Nat.ne_of_lt (Heap.lt_size ho)
  refine call_min_walk (wpAny_pyIter_tuple ht ?_)
  refine ⟨_, _, _, _, _, _, _, rfl, Walks.tuple (A := A.in1) hh s.heap.objs.size t hn (intItems xs), ⟨⟨_, Heap.get?_push_size _ rfl, rfl, rfl⟩, ht.at fun o e => Heap.get?_push_of_some _ e⟩, fun b hb => ?_, by simpa [intItems] using hne, CmpOf.ints_lt (numAt xs) (fun _ _ => intItems_at), fun v h' tk hP hk => ?_⟩
  · rcases List.mem_cons.mp hb with rfl | hb
    · exact Heap.lt_size (Heap.get?_push_size _ rfl)
    · obtain rfl := List.mem_singleton.mp hb
      exact Heap.lt_size (Heap.get?_push_of_some _ ho)
  · exact h v h' tk (by simpa [intItems] using hP) (fun b o e => hk b o (fun hb => absurd (Heap.lt_size e) ((List.mem_singleton.mp hb) ▸ Nat.lt_irrefl _)) (Heap.get?_push_of_some _ e))
def repr1 (ds : List D) (M : Mem) (Q : QE) : Prop := ∃ (d : D) (p : PyData) (L K : Nat), ds = [d] ∧ PyS M L K d p ∧ L ≤ sizeLine ∧ K ≤ 60 ∧ Q (.str p.shown) M
section
variable {X : Cx} {ρ : St2} {M : Mem} {N : List Str} {sc : Nms} {P : Program} {w : World} {K : PySem.W.Frag} {mg : Str → Option Value} {base : Heap} {k0 : Nat}
theorem cl_repr : CallL K (rRepr K) repr1 := by
  rintro ds vs H ρ σ M H0 Q dn r t ⟨d, p, L, k, rfl, h, h1, h2, q⟩
  obtain ⟨v, rfl, a⟩ := one_arg (ds := []) dn
  exact ⟨v, p, rfl, h.r.rdv r.rep a, h.z.sh, h.z.nd, Nat.le_trans h.z.dp h2, Nat.le_trans h.z.len h1, _, M, den_str.mpr rfl, r, t, q⟩
theorem wc_repr (C : Cxt X N sc P w K mg base k0) {e : Expr} {p pos : Pos} {Q : QE} (hg : ("repr" : Str) ∈ sc.g) (hm : mg "repr" = none) (hs : starEach [e] X.env = [(false, eval e X.env)]) (h : WE X e ρ M fun d M1 => repr1 [d] M1 Q) : WE X (.Call (.Name "repr" p) [e] [] pos) ρ M Q := by
  obtain rfl := C.hK
  exact we_callB C (cr_repr C.room C.gd) cl_repr hg hm (by first | exact PySem.boot_repr | exact PyProof.Rows.bootS_repr) hs (fun _ => rfl) (wa_one hs h)
theorem q_repr {d : D} {p : PyData} {L k : Nat} {Q : QE} (h : PyS M L k d p) (h1 : L ≤ sizeLine) (h2 : k ≤ 60) (q : Q (.str p.shown) M) : repr1 [d] M Q := ⟨d, p, L, k, rfl, h, h1, h2, q⟩
/-! ### == of data -/
theorem q_eqD {g : Bool → Bool} {d1 d2 : D} {p q : PyData} {Q : QE} (h1 : datOf M d1 = some p) (h2 : datOf M d2 = some q) (s1 : SeqAt.shaped p = true) (s2 : SeqAt.shaped q = true) (k : Q (.bl (g (PyData.eqv p q))) M) : eq2 g d1 d2 M Q := .inr ⟨p, q, h1, h2, s1, s2, k⟩
theorem q_eqSame {g : Bool → Bool} {d1 d2 : D} {p : PyData} {Q : QE} (h1 : datOf M d1 = some p) (h2 : datOf M d2 = some p) (s1 : SeqAt.shaped p = true) (k : Q (.bl (g true)) M) : eq2 g d1 d2 M Q := by
  refine q_eqD h1 h2 s1 s1 ?_
  rw [SeqAt.eqv_refl p (SeqAt.canLay_of_shaped s1)]
  exact k
/-! ### o[::-1] -/
theorem we_rev {e : Expr} {k : Nat} {p1 p2 p3 pos : Pos} {Q : QE} (h : WE X e ρ M fun d M1 => ∃ a ds, d = .obj a ∧ M1 a = some (.lst ds) ∧ ∀ p, M1 p = none → Q (.obj p) (mup M1 p (.lst ds.reverse))) : WE X (.Subscript e (.Slice none none (some (.UnaryOp .USub (.Constant (.int 1) k p1) p2)) p3) pos) ρ M Q := fun σ H rr => by
  refine cE_of (pe_revL peC) ?_
  refine cE_mono ?_ (h σ H rr)
  rintro v H1 ⟨d, M1, dn, r1, t1, a, ds, rfl, ea, q⟩
  obtain ⟨xs, hx, l⟩ := r1.rep.lst ea
  refine ⟨a, xs, den_obj.mp dn, .inl (.inl hx), fun n hn => ?_⟩
  exact ⟨.obj n, _, den_obj.mpr rfl, r1.newL hn l.reverse, t1.trans (TK.fresh hn), q n (r1.rep.free hn)⟩
/-! ### o[i] += e of a list of ints -/
theorem ws_augS {o i e : Expr} {tpos pos : Pos} {E : Ends2}
    (ha : ∀ ov iv new, augStore i ov iv new = (do holding [new, ov, iv] (setItem ov iv new); release [new, ov, iv] []; pure .next))
    (h : WE X o ρ M fun d1 M1 => WE X i ρ M1 fun d2 M2 => ∃ a ds k j n, d1 = .obj a ∧ d2 = .int k ∧ M2 a = some (.lst ds) ∧ ixN ds.length k = some j ∧ ds[j]? = some (.int n) ∧
      WE X e ρ M2 fun d3 M3 => ∃ m ds', d3 = .int m ∧ M3 a = some (.lst ds') ∧ ds'.length = ds.length ∧ E.nx ρ (mup M3 a (.lst (ds'.set j (.int (n + m)))))) : WS X (.AugAssign (.Subscript o i tpos) .Add e pos) E ρ M := fun σ H r => by
  refine cS_of (ps_augS peC peC (get_list0 (X := X)) peC ip_add set_list ha) ?_
  refine cE_mono ?_ (h σ H r)
  rintro ov H1 ⟨d1, M1, dn1, r1, t1, q1⟩
  refine cE_mono ?_ (q1 σ H1 r1)
  rintro iv H2 ⟨d2, M2, dn2, r2, t2, a, ds, k, j, n, rfl, rfl, ea, ex, en, q⟩
  obtain ⟨xs, hx, l⟩ := r2.rep.lst ea
  obtain ⟨v, hv, dv⟩ := l.get' en
  rw [den_int.mp dv] at hv
  rw [den_obj.mp (dn1.mono t2), den_int.mp dn2]
  refine ⟨a, xs, k, j, V.int n, rfl, rfl, hx, by rw [l.length]; exact ex, hv, ?_⟩
  refine cE_mono ?_ (q σ H2 r2)
  rintro u H3 ⟨d3, M3, dn3, r3, t3, m, ds', rfl, ea3, el3, q3⟩
  obtain ⟨ys, hy, ly⟩ := r3.rep.lst ea3
  refine ⟨n, m, rfl, den_int.mp dn3, a, ys, k, j, rfl, rfl, hy, by rw [ly.length, el3]; exact ex, ?_⟩
  have tk := TK.lst (K := X.K) (o := .lst (ys.set j (V.int (n + m)))) hy
  exact ⟨ρ, _, r3.put (m := .lst (ds'.set j (.int (n + m)))) tk ⟨_, upd_same, (DenL.set (den_int.mpr rfl) j ly).mono tk⟩, ((t1.trans t2).trans t3).trans tk, q3⟩
/-! ### min, max of a tuple -/
def rMinT (K : PySem.W.Frag) : List V → Hp → VK → Prop := fun vs H Q => ∃ (a : Addr) (ns : List Int), vs = [V.ref a] ∧ SqT K H a (ns.map V.int) ∧ 0 < ns.length ∧ ∀ m, m ∈ ns → (∀ y, y ∈ ns → m ≤ y) → Q (.int m) H
theorem cr_minT {X : Cx} (hc : X.calm = true) : CallR X (.builtin "min") (rMinT X.K) := by
  rintro pins s σ H vs us Q I r ⟨a, ns, rfl, hs, hne, q⟩
  obtain ⟨its, rv, pl, hz⟩ := I.tuple hs
  rw [Vals.ref1 r]
  have hi := rv.ints
  obtain ⟨xs, e⟩ := hi.allInts.items
  have hn : numsOf (intItems xs).toList = ns := by rw [← e]; exact hi.numsOf
  rw [nums_intItems] at hn
  subst hn
  rw [e] at pl
  have hsz : 0 < xs.size := by simpa using hne
  refine min_intTup (I.ok.hd hc) pl hsz fun v h' tk hv hk => ?_
  obtain ⟨t, rfl⟩ := intItems_at hv
  obtain ⟨h1, h2⟩ := argBest_lt (numAt xs) (xs.size - 1)
  refine ⟨.int _, H, I.kept hk, ⟨t, rfl⟩, q _ ?_ fun a ha => ?_⟩
  · rw [numAt_eq]; exact PySem.getD_mem (by rw [List.length_map, Array.length_toList]; omega)
  · obtain ⟨j, hj, rfl⟩ := mem_getD ha
    rw [List.length_map, Array.length_toList] at hj
    rw [← numAt_eq]; exact h2 j (by omega)
def minA (ds : List D) (M : Mem) (Q : QE) : Prop := ∃ (d : D) (ns : List Int), ds = [d] ∧ itemsOf M d = some (ns.map D.int) ∧ 0 < ns.length ∧ ∀ m, m ∈ ns → (∀ y, y ∈ ns → m ≤ y) → Q (.int m) M
theorem cl_minA : CallL K (fun xs H Q => rMin K xs H Q ∨ rMinT K xs H Q) minA := by
  rintro ds vs H ρ σ M H0 Q dn r t ⟨d, ns, rfl, e, hl, q⟩
  obtain ⟨v, rfl, a⟩ := one_arg (ds := []) dn
  obtain ⟨p, xs, rfl, s, l⟩ := itemsOf_sq r e a
  rw [l.ints] at s
  exact s.elim (fun s => .inl ⟨p, ns, rfl, s, hl, fun m h1 h2 => ⟨_, M, den_int.mpr rfl, r, t, q m h1 h2⟩⟩) fun s => .inr ⟨p, ns, rfl, s, hl, fun m h1 h2 => ⟨_, M, den_int.mpr rfl, r, t, q m h1 h2⟩⟩
theorem wc_minA (C : Cxt X N sc P w K mg base k0) {e : Expr} {p pos : Pos} {Q : QE} (hg : ("min" : Str) ∈ sc.g) (hm : mg "min" = none) (hs : starEach [e] X.env = [(false, eval e X.env)]) (h : WE X e ρ M fun d M1 => minA [d] M1 Q) : WE X (.Call (.Name "min" p) [e] [] pos) ρ M Q := by
  obtain rfl := C.hK
  exact we_callB C (callr_or (cr_min C.calm) (cr_minT C.calm)) cl_minA hg hm (by first | exact PySem.boot_min | exact PyProof.Rows.boot_min) hs (fun _ => rfl) (wa_one hs h)
end
theorem mup_old {M : Mem} {p p' : Addr} {o o' : MO} (h : M p = some o) (h' : M p' = none) : mup M p' o' p = some o := (mup_ne (mem_ne h h')).trans h
/-- a loop's body; a statement of a block -/
def forB : Stmt → List Stmt
  | .For _ _ b _ _ => b
  | .While _ b _ _ => b
  | _ => []
def stAt (l : List Stmt) (i : Nat) : Stmt := l.getD i (.Pass ⟨0, 0, 0, 0⟩)
section
variable {X : Cx} {ρ : St2} {M : Mem} {N : List Str} {sc : Nms} {P : Program} {w : World} {K : PySem.W.Frag} {mg : Str → Option Value} {base : Heap} {k0 : Nat}
theorem sw_sub {o i : Expr} {y : Str} {p p2 pt pt2 : Pos} {k1 k2 : _} {vs : List Expr} {env : Env} : swappedStores [.Tuple [.Subscript o i p, .Name y p2] k1 pt] (.Tuple vs k2 pt2) env = pure none := by
  unfold swappedStores
  by_cases h1 : env.blockKind = .function <;> by_cases h2 : (env.kindOf y == some NameKind.local && p2.line == p.line) = true <;> simp [h1, h2, Expr.pos]
  all_goals (intro _ _ h; exact absurd h (Nat.ne_of_lt (Nat.lt_of_le_of_lt (List.length_filterMap_le _ _) (Nat.lt_succ_self 1))))
/-- o[i], y = a, b -/
theorem ws_asgS {o i : Expr} {y : Str} {p p2 pt pt2 : Pos} {k1 k2 : _} {vs : List Expr} {pos : Pos} {E : Ends2} (h1 : swapsWithSole [.Tuple [.Subscript o i p, .Name y p2] k1 pt] (.Tuple vs k2 pt2) pos.line X.env = pure false) (h3 : List.map (fun x => x.2) (assignEach [.Tuple [.Subscript o i p, .Name y p2] k1 pt] X.env) = [assign (.Tuple [.Subscript o i p, .Name y p2] k1 pt) X.env])
    (h : WE X (.Tuple vs k2 pt2) ρ M fun d M1 => WG X (.Tuple [.Subscript o i p, .Name y p2] k1 pt) d ρ M1 E.nx) : WS X (.Assign [.Tuple [.Subscript o i p, .Name y p2] k1 pt] (.Tuple vs k2 pt2) pos) E ρ M := ws_asg h1 sw_sub h3 h
theorem sw_cell {x y : Str} {p p2 pt pt2 : Pos} {k1 k2 : _} {vs : List Expr} {env : Env} (hx : env.kindOf x ≠ some .local) : swappedStores [.Tuple [.Name x p, .Name y p2] k1 pt] (.Tuple vs k2 pt2) env = pure none := by
  unfold swappedStores
  by_cases h1 : env.blockKind = .function <;> by_cases h2 : (env.kindOf y == some NameKind.local && p2.line == p.line) = true <;> simp [h1, h2, hx, Expr.pos]
  all_goals (intro _ _ h; exact absurd h (Nat.ne_of_lt (Nat.lt_of_le_of_lt (List.length_filterMap_le _ _) (Nat.lt_succ_self 1))))
/-- x, y = a, b where x is a cell -/
theorem ws_parC (C : Cxt X N sc P w K mg base k0) {x y : Str} {p p2 pt pt2 : Pos} {k1 k2 : _} {vs : List Expr} {pos : Pos} {E : Ends2} (hf : x ∈ sc.f) (h1 : swapsWithSole [.Tuple [.Name x p, .Name y p2] k1 pt] (.Tuple vs k2 pt2) pos.line X.env = pure false) (h3 : List.map (fun x => x.2) (assignEach [.Tuple [.Name x p, .Name y p2] k1 pt] X.env) = [assign (.Tuple [.Name x p, .Name y p2] k1 pt) X.env])
    (h : WE X (.Tuple vs k2 pt2) ρ M fun d M1 => WG X (.Tuple [.Name x p, .Name y p2] k1 pt) d ρ M1 E.nx) : WS X (.Assign [.Tuple [.Name x p, .Name y p2] k1 pt] (.Tuple vs k2 pt2) pos) E ρ M :=
  ws_asg h1 (sw_cell (fun e => by rcases C.fr x hf with z | z <;> (rw [show X.env.kindOf x = X.env.scope.names.lookup x from rfl, z] at e; cases e))) h3 h
theorem swl_cell {y : Str} {py lp : Pos} {elt : Expr} {gs : List Comprehension} {scope : Scope} {line : Nat} {env : Env} (hx : env.kindOf y ≠ some .local) : swapsWithSole [.Name y py] (.ListComp elt gs scope lp) line env = pure false := by
  have e : (env.kindOf y == some NameKind.local) = false := by
    cases h : env.kindOf y with
    | none => rfl
    | some k => cases k <;> first | rfl | exact absurd h hx
  simp [swapsWithSole, swapsWith, e]
/-- a list comprehension into a cell -/
theorem ws_asgL (C : Cxt X N sc P w K mg base k0) {y : Str} {py lp : Pos} {elt : Expr} {gs : List Comprehension} {scope : Scope} {pos : Pos} {E : Ends2} (hf : y ∈ sc.f) (h2 : swappedStores [.Name y py] (.ListComp elt gs scope lp) X.env = pure none) (h3 : List.map (fun x => x.2) (assignEach [.Name y py] X.env) = [assign (.Name y py) X.env])
    (h : WE X (.ListComp elt gs scope lp) ρ M fun d M1 => WG X (.Name y py) d ρ M1 E.nx) : WS X (.Assign [.Name y py] (.ListComp elt gs scope lp) pos) E ρ M :=
  ws_asg (swl_cell (fun e => by rcases C.fr y hf with z | z <;> (rw [show X.env.kindOf y = X.env.scope.names.lookup y from rfl, z] at e; cases e))) h2 h3 h
theorem sw_trip {env : Env} {x y z : Str} {px py pz pt pt2 : Pos} {kt k2} {a b c : Expr} (hk : env.blockKind = .function) (hx : env.scope.names.lookup x = some .local) (hy : env.scope.names.lookup y = some .local) (hz : env.scope.names.lookup z = some .local)
    (hl : (py.line == px.line) = true) (hl2 : (pz.line == px.line) = true) (hne : ([x, y, z].eraseDups.length != 3) = false) (h1 : ([a, b, c].any fun | .Starred .. => true | _ => false) = false) (h2 : [a, b, c].all (foldedForSure 8) = false) (h3 : [a, b, c].all (constantsAlone 8) = false) :
    swappedStores [.Tuple [.Name x px, .Name y py, .Name z pz] kt pt] (.Tuple [a, b, c] k2 pt2) env = pure (some [x, y, z]) := by
  have kx : env.kindOf x = some .local := hx
  have ky : env.kindOf y = some .local := hy
  have kz : env.kindOf z = some .local := hz
  have hl' : py.line = px.line := by simpa using hl
  have hl2' : pz.line = px.line := by simpa using hl2
  have hne' : [x, y, z].eraseDups.length = 3 := by simpa using hne
  unfold swappedStores
  simp only [List.length_cons, List.length_nil, hk, List.head?_cons, Option.map_some, Option.getD_some, Expr.pos, List.filterMap_cons, kx, ky, kz, hl', hl2', beq_self_eq_true, Bool.and_self, if_true, List.filterMap_nil, hne', h2, h3, Bool.or_self, Bool.false_eq_true, if_false, bne_self_eq_false]
  refine (if_neg (by decide)).trans ((if_neg ?_).trans rfl)
  intro q
  have h1' := h1
  simp only [List.any_cons, List.any_nil, Bool.or_false, Bool.or_eq_false_iff] at h1'
  simp only [List.any_cons, List.any_nil, Bool.or_false, Bool.or_eq_true] at q
  rcases q with q | q | q
  · exact Bool.noConfusion (q.symm.trans h1'.1)
  · exact Bool.noConfusion (q.symm.trans h1'.2.1)
  · exact Bool.noConfusion (q.symm.trans h1'.2.2)
/-- a, b, c = e1, e2, e3 -/
theorem ws_par3 (C : Cxt X N sc P w K mg base k0) {i j l : Nat} {x y z : Str} {a b c : Expr} {px py pz pt : Pos} {kt k2 : Nat} {pt2 pos : Pos} {E : Ends2} (hi : Nm N i x) (hj : Nm N j y) (hl0 : Nm N l z) (hij : i ≠ j) (hil : i ≠ l) (hjl : j ≠ l) (lx : x ∈ sc.c) (ly : y ∈ sc.c) (lz : z ∈ sc.c)
    (hl : (py.line == px.line) = true) (hl2 : (pz.line == px.line) = true) (hne : ([x, y, z].eraseDups.length != 3) = false) (q1 : ([a, b, c].any fun | .Starred .. => true | _ => false) = false) (q2 : [a, b, c].all (foldedForSure 8) = false) (q3 : [a, b, c].all (constantsAlone 8) = false) (h2 : swapsWithSole [Expr.Tuple [Expr.Name x px, Expr.Name y py, Expr.Name z pz] kt pt] (Expr.Tuple [a, b, c] k2 pt2) pos.line X.env = pure false)
    (h : WA X [a, b, c] ρ M fun ds M1 => ∃ d e f ρ1 ρ2 ρ3, ds = [d, e, f] ∧ Put N ρ x d ρ1 ∧ Put N ρ1 y e ρ2 ∧ Put N ρ2 z f ρ3 ∧ E.nx ρ3 M1) : WS X (.Assign [Expr.Tuple [Expr.Name x px, Expr.Name y py, Expr.Name z pz] kt pt] (Expr.Tuple [a, b, c] k2 pt2) pos) E ρ M := fun σ H r => by
  refine cS_of (ps_par3 (i := i) (j := j) (l := l) C.calm (by rw [C.hN]; exact C.nd) (by rw [C.hN]; exact hi.get) (by rw [C.hN]; exact hj.get) (by rw [C.hN]; exact hl0.get) hij hil hjl (C.lcl x lx) (C.lcl y ly) (C.lcl z lz) paC (sw_trip (by unfold Env.blockKind; rw [C.kind]; rfl) (C.lcl x lx) (C.lcl y ly) (C.lcl z lz) hl hl2 hne q1 q2 q3) h2) ?_
  refine cA_mono ?_ (h σ H r)
  rintro vs H1 ⟨ds, M1, dn, r1, t1, d, e, f, ρ1, ρ2, ρ3, rfl, p1, p2, p3, q⟩
  obtain ⟨v, vr, rfl, a1, dn⟩ := denL_cons.mp dn
  obtain ⟨u, ur, rfl, a2, dn⟩ := denL_cons.mp dn
  obtain ⟨w1, wr, rfl, a3, dn⟩ := denL_cons.mp dn
  rw [denL_nil.mp dn]
  obtain ⟨i', ei, rfl⟩ := p1.get
  obtain ⟨j', ej, rfl⟩ := p2.get
  obtain ⟨l', el, rfl⟩ := p3.get
  obtain rfl : i' = i := nodup_ix C.nd ei hi.get
  obtain rfl : j' = j := nodup_ix C.nd ej hj.get
  obtain rfl : l' = l := nodup_ix C.nd el hl0.get
  exact ⟨v, u, w1, rfl, _, M1, ⟨((r1.env.set _ a1).set _ a2).set _ a3, r1.rep⟩, t1, q⟩
/-- an if of two values that come to one -/
theorem Br.joinE {c : Prop} [Decidable c] {e1 e2 : Expr} {K : QE} (d : D) (h1 : c → WE X e1 ρ M fun d' M' => d' = d ∧ M' = M) (h2 : ¬ c → WE X e2 ρ M fun d' M' => d' = d ∧ M' = M) (k : K d M) : Br (decide c) (WE X e1 ρ M K) (WE X e2 ρ M K) :=
  Br.dec (fun z => WE.mono (fun d' M' q => by obtain ⟨rfl, rfl⟩ := q; exact k) (h1 z)) fun z => WE.mono (fun d' M' q => by obtain ⟨rfl, rfl⟩ := q; exact k) (h2 z)
theorem q_aug {ρ' : St2} {x : Str} {n m : Int} {R : St2 → Prop} (pt : Put N ρ x (.int (n + m)) ρ') (q : R ρ') : ∃ (m' : Int) (ρ' : St2), D.int m = .int m' ∧ Put N ρ x (.int (n + m')) ρ' ∧ R ρ' := ⟨m, ρ', rfl, pt, q⟩
/-! ### guards: which goal it is -/
theorem gWE {e : Expr} {Q : QE} (h : WE X e ρ M Q) : WE X e ρ M Q := h
theorem gWA {es : List Expr} {Q : List D → Mem → Prop} (h : WA X es ρ M Q) : WA X es ρ M Q := h
theorem gWSs {st : List Stmt} {E : Ends2} (h : WSs X st E ρ M) : WSs X st E ρ M := h
theorem gWS {st : Stmt} {E : Ends2} (h : WS X st E ρ M) : WS X st E ρ M := h
theorem gWT {e : Expr} {Q : Bool → Mem → Prop} (h : WT X e ρ M Q) : WT X e ρ M Q := h
theorem gWW {e : Expr} {Q : Bool → Mem → Prop} (h : WW X e ρ M Q) : WW X e ρ M Q := h
theorem gWG {e : Expr} {d : D} {Q : St2 → Mem → Prop} (h : WG X e d ρ M Q) : WG X e d ρ M Q := h
theorem gWI {t e : Expr} {Q : QI} (h : WI X t e ρ M Q) : WI X t e ρ M Q := h
theorem guNm {x : Str} {p : Pos} {Q : QE} (h : WE X (.Name x p) ρ M Q) : WE X (.Name x p) ρ M Q := h
theorem gConst {c : Const} {k : Nat} {p : Pos} {Q : QE} (h : WE X (.Constant c k p) ρ M Q) : WE X (.Constant c k p) ρ M Q := h
theorem gCall {f : Expr} {as : List Expr} {ks : List Keyword} {p : Pos} {Q : QE} (h : WE X (.Call f as ks p) ρ M Q) : WE X (.Call f as ks p) ρ M Q := h
theorem gBin {a b : Expr} {op : Operator} {p : Pos} {Q : QE} (h : WE X (.BinOp a op b p) ρ M Q) : WE X (.BinOp a op b p) ρ M Q := h
end
end Y

set_option Elab.async false
set_option linter.all false
set_option autoImplicit false
set_option maxRecDepth 100000
set_option maxHeartbeats 4000000
/-! zip of a tuple and a list, by the library's zip over iterators of any kind -/
namespace Y
open PySem PySem.Spec PyProof.Rows L2
def ItzM (K : PySem.W.Frag) (a b : Addr) : It :=
  ⟨fun i H => ∃ (xs ys : List V) (x y : V), SqT K H a xs ∧ SqL K H b ys ∧ xs[i]? = some x ∧ ys[i]? = some y,
    fun i H v H' => ∃ T x y, v = .ref T ∧ H T = none ∧ H' = L2.upd H T (.tup [x, y]) ∧ (∀ xs, SqT K H a xs → xs[i]? = some x) ∧ ∀ ys, SqL K H b ys → ys[i]? = some y,
    fun i H => ∃ xs ys : List V, SqT K H a xs ∧ SqL K H b ys ∧ (xs.length ≤ i ∨ ys.length ≤ i) ∧ i ≤ xs.length ∧ i ≤ ys.length⟩
theorem sepM {z TI TO i1 i2 a b : Addr} (D : ZipApart z TI TO i1 i2 a b) : ZipSep2 z TI TO i1 i2 [i1, a] [i2, b] where
  TIz := D.TIz
  TOz := D.TOz
  TITO := D.TITO
  TIi1 := D.TIi1
  mem1 := by simp
  zf1 := by simp [Ne.symm D.i1z, Ne.symm D.l1z]
  Tf1 := by simp [D.TOi1, Ne.symm D.l1TO]
  TIi2 := D.TIi2
  mem2 := by simp
  zf2 := by simp [Ne.symm D.i2z, Ne.symm D.l2z]
  Tf2 := by simp [D.TOi2, Ne.symm D.l2TO]
  sep1_2 := by simp [D.i12, Ne.symm D.l2i1]
  sep2_1 := by simp [Ne.symm D.i12, Ne.symm D.l1i2]
theorem five {z TI TO i1 i2 c : Addr} (h : c ∈ [z, TI, TO, i1, i2]) : c = z ∨ c = TI ∨ c = TO ∨ c = i1 ∨ c = i2 := by simpa using h
theorem turn_zipM {P : Program} {w : World} {K : PySem.W.Frag} {elts : List Expr} {kk : Nat} {tpos : Pos} {a b z TI TO i1 i2 : Addr} (D : ZipApart z TI TO i1 i2 a b) :
    Turn P w K (.Tuple elts kk tpos) (ItzM K a b) [z, TI, TO, i1, i2] z (fun i h => IsZip h z TI TO .none ∧ IsPair h TI (.ref i1) (.ref i2) ∧ (∃ x y, IsPair h TO x y) ∧ h.IsTupleIter i1 a i ∧ h.IsListIter i2 b i) where
  mem := by simp
  obj := fun i h st c hc => by
    obtain ⟨hz, hTI, ⟨x, y, hTO⟩, ⟨o1, e1, _, d1⟩, ⟨o2, e2, _, d2⟩⟩ := st
    rcases five hc with q | q | q | q | q <;> subst q
    · exact ⟨_, hz, fun v q => nomatch q⟩
    · exact ⟨_, hTI, fun v q => nomatch q⟩
    · exact ⟨_, hTO, fun v q => nomatch q⟩
    · exact ⟨o1, e1, fun v q => by rw [d1] at q; cases q⟩
    · exact ⟨o2, e2, fun v q => by rw [d2] at q; cases q⟩
  keep := fun i h h' st k => by
    obtain ⟨hz, hTI, ⟨x, y, hTO⟩, h1, h2⟩ := st
    exact ⟨k z (by simp) _ hz, k TI (by simp) _ hTI, ⟨x, y, k TO (by simp) _ hTO⟩, h1.at fun o q => k i1 (by simp) o q, h2.at fun o q => k i2 (by simp) o q⟩
  item := by
    rintro X rfl rfl rfl hc i pins s σ H E I hf ⟨hz, hTI, ⟨x0, y0, hTO⟩, h1, h2⟩ ⟨xs, ys, x, y, hqx, hqy, hx, hy⟩
    obtain ⟨its, rv, p, _⟩ := I.tuple hqx
    obtain ⟨its2, rv2, p2, _⟩ := I.list hqy
    obtain ⟨u, hu, ru⟩ := rv.get hx
    obtain ⟨u2, hu2, ru2⟩ := rv2.get hy
    have hzl : z < s.heap.objs.size := Heap.lt_size hz
    have hh : X.A.in1.handled = none := I.ok.hd hc
    have n1 : i < its.toArray.size := by rw [List.size_toArray]; exact (List.getElem?_eq_some_iff.mp hu).1
    have n2 : i < its2.toArray.size := by rw [List.size_toArray]; exact (List.getElem?_eq_some_iff.mp hu2).1
    refine wpAny_pyNext_zipD2_item (sepM D) (Draws.tuple hh i1 a D.l1i1 its.toArray) (Draws.list hh i2 b D.l2i2 its2.toArray) hz hTI hTO ⟨h1, p⟩ ⟨h2, p2.isList⟩ n1 n2 fun v1 v2 h' tk q1 q2 z' TO' st1 st2 hT hsz hk => ?_
    have e1 : v1 = u := by
      have q1 : its.toArray[i]? = some v1 := q1
      rw [List.getElem?_toArray, hu] at q1; exact (Option.some.inj q1).symm
    have e2 : v2 = u2 := by
      have q2 : its2.toArray[i]? = some v2 := q2
      rw [List.getElem?_toArray, hu2] at q2; exact (Option.some.inj q2).symm
    subst e1 e2
    refine ⟨_, rfl, wpAny_letOwnedTupleGo_zip (s := { s with heap := h', toks := tk }) z' fun h'' z'' sb => ?_⟩
    have hT2 : h''.get? s.heap.objs.size = some { cls := .type "tuple", data := .seq #[v1, v2] } := (sb.2 _ (Nat.ne_of_gt hzl)).trans hT
    have new : ObjOk X.prog X.w (L2.upd H s.heap.objs.size (.tup [x, y])) h'' s.heap.objs.size (.tup [x, y]) :=
      ⟨by show 2 ≤ sizeLine; decide, [v1, v2], .cons ru (.cons ru2 .nil), ⟨_, hT2, rfl, _, rfl⟩⟩
    have I1 : Inv X pins σ (L2.upd H s.heap.objs.size (.tup [x, y])) { s with heap := h'', toks := tk } :=
      I.turnedNew (t' := tk) (ch := [z, TI, TO, i1, i2]) (fun c o hb q => (sb.2 c (fun q' => hb (by simp [q']))).trans (hk c o (fun q' => hb (by simp [q'])) (fun q' => hb (by simp [q'])) (fun q' => hb (by simp [q'])) (fun q' => hb (by simp [q'])) q)) hf (Nat.le_refl _) new
    refine ⟨.ref s.heap.objs.size, _, I1, rfl, ⟨_, x, y, rfl, I.hok.fresh (Nat.le_refl _), rfl, fun l hl => by rw [I.tuple_inj hl hqx]; exact hx, fun l hl => by rw [I.list_inj hl hqy]; exact hy⟩, ⟨z'', ?_, ⟨v1, v2, ?_⟩, ?_, ?_⟩, fun c hcm => ?_⟩
    · exact (sb.2 _ D.TIz).trans (hk _ _ D.TIz D.TITO D.TIi1 D.TIi2 hTI)
    · exact (sb.2 _ D.TOz).trans TO'
    · exact st1.1.at fun o q => (sb.2 _ D.i1z).trans q
    · exact st2.1.at fun o q => (sb.2 _ D.i2z).trans q
    · have hlt : c < s.heap.objs.size := by
        rcases five hcm with q | q | q | q | q <;> subst q
        · exact hzl
        · exact Heap.lt_size hTI
        · exact Heap.lt_size hTO
        · obtain ⟨_, e1, _⟩ := h1; exact Heap.lt_size e1
        · obtain ⟨_, e2, _⟩ := h2; exact Heap.lt_size e2
      rw [upd_ne (Nat.ne_of_lt hlt)]
      exact (hf c hcm).1
  done := by
    rintro X rfl rfl rfl hc i pins s σ H E I hf ⟨hz, hTI, ⟨x0, y0, hTO⟩, h1, h2⟩ ⟨xs, ys, hqx, hqy, hend, le1, le2⟩
    obtain ⟨its, rv, p, _⟩ := I.tuple hqx
    obtain ⟨its2, rv2, p2, _⟩ := I.list hqy
    have l1 := rv.length
    have l2 := rv2.length
    have hh : X.A.in1.handled = none := I.ok.hd hc
    refine wpAny_pyNext_zipD2_end (sepM D) (Draws.tuple hh i1 a D.l1i1 its.toArray) (Draws.list hh i2 b D.l2i2 its2.toArray) hz hTI hTO ⟨h1, p⟩ ⟨h2, p2.isList⟩ (by rw [List.size_toArray]; omega) (by rw [List.size_toArray]; omega) (by rw [List.size_toArray, List.size_toArray]; omega) fun h' tk hk => ⟨rfl, ?_⟩
    exact I.turnedL (t' := tk) (ch := [z, TI, TO, i1, i2]) (fun c o hb q => hk c o (fun q' => hb (by simp [q'])) (fun q' => hb (by simp [q'])) (fun q' => hb (by simp [q'])) (fun q' => hb (by simp [q'])) q) hf
  self := fun A i s Q E st h => wpAny_pyIter_zip st.1 h
abbrev zm1 (h : Heap) (a : Addr) : Heap := h.push { cls := .type "tuple_iterator", data := .fields #[.ref a, .int 0 0] }
abbrev zm2 (h : Heap) (a b : Addr) : Heap := (zm1 h a).push { cls := .type "list_iterator", data := .fields #[.ref b, .int 0 0] }
abbrev zm3 (h : Heap) (a b : Addr) : Heap := (zm2 h a b).push { cls := .type "tuple", data := .seq #[.ref h.objs.size, .ref (zm1 h a).objs.size] }
abbrev zm4 (h : Heap) (a b : Addr) : Heap := (zm3 h a b).push { cls := .type "tuple", data := .seq #[.none, .none] }
abbrev zm5 (h : Heap) (a b : Addr) : Heap := (zm4 h a b).push { cls := .type "zip", data := .fields #[.none, .bool false, .bool false, .ref (zm2 h a b).objs.size, .ref (zm3 h a b).objs.size] }
theorem zm_new (a b : Addr) (xs ys : Array Value) :
    Meets (Builtin.«zip.__new__» ⟨[.type "zip", .ref a, .ref b], []⟩) (fun _ R s => s.heap.IsTuple a xs ∧ s.heap.IsList b ys ∧ R (.ok (.ret (.ref (zm4 s.heap a b).objs.size))) { s with heap := zm5 s.heap a b }) :=
  .of_wp fun prog w A R s h => by
    obtain ⟨hp, g, d, tk, os⟩ := s; obtain ⟨hl1, hl2, h⟩ := h
    have hsub := sub_zip
    have hL1 : Heap.IsTuple (Shared.heap ⟨hp, g, d, tk, os⟩) a xs := hl1
    have hL2 : Heap.IsList (Shared.heap ⟨zm1 hp a, g, d, tk, os⟩) b ys := Heap.IsList.push hl2 _
    wp_walk using wpAny_pyIter_tuple hL1, wpAny_pyIter_list hL2
    exact ⟨_, rfl, h⟩
theorem zm_call {prog : Program} {w : World} {A : Around} {E : Value → Shared → Prop} {s : Shared} {a b : Addr} {xs ys : Array Value} {Q : Value → Shared → Prop} (hl1 : s.heap.IsTuple a xs) (hl2 : s.heap.IsList b ys)
    (h : Q (.ref (zm4 s.heap a b).objs.size) { s with heap := zm5 s.heap a b }) : wpAny (model prog w) A (call (.type "zip") [.ref a, .ref b]) Q E s := by
  refine callType_new F.called_zip (by decide) (F.typeCall_zip_2 _ _) (F.newCall_zip_2 _ _) (fun obj => F.args_object_init_3 obj _ _) F.entry_zip_new (zm_new a b xs ys) ⟨hl1, hl2, ?_⟩
  exact ⟨⟨_, Heap.get?_push_size _ rfl, rfl⟩, h⟩
def iZipM (K : PySem.W.Frag) (ta : TA) : TI := fun σ H R => ta σ H fun vs H1 => ∃ a b xs ys, vs = [V.ref a, V.ref b] ∧ SqT K H1 a xs ∧ SqL K H1 b ys ∧ R (ItzM K a b) H1
theorem pi_zipM {X : Cx} {e e2 : Expr} {ta : TA} {p pos tpos : Pos} {elts : List Expr} {kk : Nat} (hg : Gl X "zip") (hm : X.mg "zip" = none) (ha : PA X [e, e2] ta)
    (hs : starEach [e, e2] X.env = (false, eval e X.env) :: starEach [e2] X.env) (hpl : (backTo pos (starEach [e2] X.env)).any (·.1) = false) :
    PI X (.Tuple elts kk tpos) (.Call (.Name "zip" p) [e, e2] [] pos) (iZipM X.K ta) := by
  refine ⟨fun pins s σ H R I h => ?_⟩
  refine Call_ (ld_blt I hg hm PyProof.Rows.boot_zip (PyProof.Rows.callWith_type1 (thn (ha.run pos pins s σ H _ I h) fun us s1 ⟨vs, H1, I1, r1, q1⟩ => ?_) hs hpl))
  obtain ⟨a, b, xs, ys, ex, hqx, hqy, q⟩ := q1
  subst ex
  cases r1 with
  | cons r rr =>
    cases rr with
    | cons r' rr =>
      cases rr
      cases r
      cases r'
      obtain ⟨its, rv, p1, _⟩ := I1.tuple hqx
      obtain ⟨its2, rv2, p2, _⟩ := I1.list hqy
      obtain ⟨o1, ho1, _⟩ := id p1
      have D := PySem.W.ktu_apart s1.heap.objs.size a b (Heap.lt_size ho1) p2.lt
      refine zm_call (show s1.heap.IsTuple a its.toArray from p1) p2.isList ?_
      have k : ∀ c o, s1.heap.get? c = some o → (zm5 s1.heap a b).get? c = some o := fun c o x =>
        Heap.get?_push_of_some _ (Heap.get?_push_of_some _ (Heap.get?_push_of_some _ (Heap.get?_push_of_some _ (Heap.get?_push_of_some _ x))))
      have z1 : (zm1 s1.heap a).objs.size = s1.heap.objs.size + 1 := Heap.size_push ..
      have z2 : (zm2 s1.heap a b).objs.size = s1.heap.objs.size + 2 := by rw [Heap.size_push, z1]
      have z3 : (zm3 s1.heap a b).objs.size = s1.heap.objs.size + 3 := by rw [Heap.size_push, z2]
      have z4 : (zm4 s1.heap a b).objs.size = s1.heap.objs.size + 4 := by rw [Heap.size_push, z3]
      have g5 : (zm5 s1.heap a b).get? (zm4 s1.heap a b).objs.size = some _ := Heap.get?_push_size _ rfl
      have g4 : (zm5 s1.heap a b).get? (zm3 s1.heap a b).objs.size = some _ := Heap.get?_push_of_some _ (Heap.get?_push_size _ rfl)
      have g3 : (zm5 s1.heap a b).get? (zm2 s1.heap a b).objs.size = some _ := Heap.get?_push_of_some _ (Heap.get?_push_of_some _ (Heap.get?_push_size _ rfl))
      have g2 : (zm5 s1.heap a b).get? (zm1 s1.heap a).objs.size = some _ := Heap.get?_push_of_some _ (Heap.get?_push_of_some _ (Heap.get?_push_of_some _ (Heap.get?_push_size _ rfl)))
      have g1 : (zm5 s1.heap a b).get? s1.heap.objs.size = some _ := Heap.get?_push_of_some _ (Heap.get?_push_of_some _ (Heap.get?_push_of_some _ (Heap.get?_push_of_some _ (Heap.get?_push_size _ rfl))))
      rw [z2, z3, z4] at g5
      rw [z3] at g4
      rw [z1, z2] at g3
      rw [z1] at g2
      rw [z4]
      have I2 : Inv X pins σ H1 { s1 with heap := zm5 s1.heap a b } := I1.kept (t' := s1.toks) k
      refine wpAny_pyIter_zip g5 ?_
      refine ⟨s1.heap.objs.size + 4, [s1.heap.objs.size + 4, s1.heap.objs.size + 2, s1.heap.objs.size + 3, s1.heap.objs.size, s1.heap.objs.size + 1], _, _, H1, rfl, I2, turn_zipM D, ⟨g5, g3, ⟨_, _, g4⟩, ⟨_, g1, rfl, rfl⟩, ⟨_, g2, rfl, rfl⟩⟩, fun c hcm => ?_, q⟩
      have hle : s1.heap.objs.size ≤ c := by rcases five hcm with z | z | z | z | z <;> rw [z] <;> first | exact Nat.le_add_right _ _ | exact Nat.le_refl _
      exact I1.fpOk hle (I1.hok.fresh hle)
section
variable {X : Cx} {ρ : St2} {M : Mem} {N : List Str} {sc : Nms} {P : Program} {w : World} {K : PySem.W.Frag} {mg : Str → Option Value} {base : Heap} {k0 : Nat}
theorem adeq_zipM {H1 : Hp} {a b : Addr} {ds es : List D} {xs : List V} (s1 : SqT K H1 a xs) (l1 : DenL K H1 ds xs) : Adeq K H1 (ItzM K a b) (zipD ds es) (fun M => lstOf (M b) = some es) where
  go := fun i ρ M σ H r t s hi => by
    obtain ⟨ys, sq2, l2⟩ := lst_sq r s
    rw [zipD_len] at hi
    obtain ⟨v, hv, _⟩ := l1.get' (List.getElem?_eq_getElem (Nat.lt_of_lt_of_le hi (Nat.min_le_left _ _)))
    obtain ⟨u, hu, _⟩ := l2.get' (List.getElem?_eq_getElem (Nat.lt_of_lt_of_le hi (Nat.min_le_right _ _)))
    exact ⟨xs, ys, v, u, t.t _ _ s1, sq2, hv, hu⟩
  yld := fun i ρ M σ H x d H' r t s hd ⟨T, y, z, e1, hT, e2, hy, hz⟩ => by
    subst e1 e2
    obtain ⟨ys, sq2, l2⟩ := lst_sq r s
    obtain ⟨e, f, he, hf, rfl⟩ := zipD_get hd
    obtain ⟨v, hv, dn⟩ := l1.get' he
    obtain ⟨u, hu, dn2⟩ := l2.get' hf
    have h1 := hy xs (t.t _ _ s1)
    have h2 := hz ys sq2
    rw [hv] at h1
    rw [hu] at h2
    cases h1
    cases h2
    exact pair_new r hT (dn.mono t) dn2
  stop := fun ρ M σ H r t s => by
    obtain ⟨ys, sq2, l2⟩ := lst_sq r s
    refine ⟨xs, ys, t.t _ _ s1, sq2, ?_⟩
    rw [l1.length, l2.length, zipD_len]
    omega
theorem wi_zipM (C : Cxt X N sc P w K mg base k0) {e e2 : Expr} {p pos tpos : Pos} {elts : List Expr} {kk : Nat} {Q : QI} (hg : ("zip" : Str) ∈ sc.g) (hm : mg "zip" = none) (hs : starEach [e, e2] X.env = (false, eval e X.env) :: starEach [e2] X.env) (hn : ∀ pos, (backTo pos (starEach [e2] X.env)).any (·.1) = false)
    (h : WA X [e, e2] ρ M fun ds M1 => ∃ b as bs, ds = [.tup as, .obj b] ∧ lstOf (M1 b) = some bs ∧ Q (zipD as bs) (fun M => lstOf (M b) = some bs) M1) :
    WI X (.Tuple elts kk tpos) (.Call (.Name "zip" p) [e, e2] [] pos) ρ M Q := fun σ H r => by
  obtain rfl := C.hmg
  refine cI_of (pi_zipM (C.gl _ hg).1 hm paC hs (hn pos)) ?_
  refine cA_mono ?_ (h σ H r)
  rintro vs H1 ⟨ds, M1, dn, r1, t1, b, as, bs, rfl, hb, q⟩
  obtain ⟨v, u, rfl, a1, a2⟩ := two_args dn
  obtain ⟨a, xs, rfl, sq, l⟩ := den_tup.mp a1
  obtain ⟨ys, sq2, l2⟩ := lst_sq r1 hb
  rw [den_obj.mp a2]
  exact ⟨a, b, xs, ys, rfl, sq, sq2, _, _, M1, r1, t1, adeq_zipM sq l, q⟩
theorem Cxt.nox (C : Cxt X N sc P w K mg base k0) : Cxt X.nox N sc P w K mg base k0 where
  hP := C.hP
  hw := C.hw
  hK := C.hK
  hmg := C.hmg
  hbase := C.hbase
  hN := C.hN
  nd := C.nd
  calm := C.calm
  vis := C.vis
  loc := C.loc
  lcl := C.lcl
  gl := C.gl
  fn := C.fn
  fr := C.fr
  kind := C.kind
  room := C.room
  gd := C.gd
  never := PassesOwn.never
/-- a try whose body raises nothing -/
theorem ws_try0 {body : List Stmt} {h₀ : ExceptHandler} {hs : List ExceptHandler} {pos : Pos} {E : Ends2} (h : WSs X.nox body E ρ M) : WS X (.Try body (h₀ :: hs) [] [] pos) E ρ M := fun σ H r => by
  refine cS_of (ps_try_thru0 pssC) ?_
  exact h σ H r
theorem ws_subI (C : Cxt X N sc P w K mg base k0) {x : Str} {i : Nat} {e : Expr} {pos pos' : Pos} {E : Ends2} {n : Int} (sl : Slot N ρ i x (.int n)) (hx : x ∈ sc.l) (h : WE X e ρ M fun d M1 => ∃ m ρ', d = .int m ∧ Put N ρ x (.int (n - m)) ρ' ∧ E.nx ρ' M1) : WS X (.AugAssign (.Name x pos') .Sub e pos) E ρ M := fun σ H r => by
  refine cS_of (ps_aug (i := i) (by rw [C.hN]; exact C.nd) (by rw [C.hN]; exact sl.get.1) (C.loc x hx) peC ip_sub (C.fn x hx)) ?_
  obtain ⟨v, ev, dv⟩ := r.env.at_ i _ sl.get.2
  refine ⟨v, ev, ?_⟩
  refine cE_mono ?_ (h σ H r)
  rintro u H1 ⟨d, M1, dn, r1, t1, m, ρ', rfl, pt, q⟩
  obtain ⟨j, ej, rfl⟩ := pt.get
  have e : j = i := nodup_ix C.nd ej sl.get.1
  subst e
  exact ⟨n, m, den_int.mp dv, den_int.mp dn, _, M1, ⟨r1.env.set j (den_int.mpr rfl), r1.rep⟩, t1, q⟩
end
end Y

set_option Elab.async false
set_option linter.all false
set_option autoImplicit false
set_option maxRecDepth 100000
set_option maxHeartbeats 8000000
namespace K53
open PySem PySem.Spec PyProof.Rows L2 Y
def top (i : Nat) : Stmt := PySem.Challenge.pw_uporders_k53_whole_straight_chains.main.body.getD i (.Pass ⟨0, 0, 0, 0⟩)
/-- what the top has written, as the walk asks for it -/
structure Txt (mg : Str → Option Value) : Prop where
  b_isinstance : mg "isinstance" = none
  b_int : mg "int" = none
  b_bool : mg "bool" = none
  b_list : mg "list" = none
  b_tuple : mg "tuple" = none
  b_len : mg "len" = none
  b_enumerate : mg "enumerate" = none
  b_abs : mg "abs" = none
  b_all : mg "all" = none
  b_sum : mg "sum" = none
  b_range : mg "range" = none
  b_repr : mg "repr" = none
  b_zip : mg "zip" = none
  c_MOST_DAYS : ∃ t, mg "MOST_DAYS" = some (.int 400 t)
  c_MOST_DEMAND : ∃ t, mg "MOST_DEMAND" = some (.int 9 t)
  c_MOST_PARTS : ∃ t, mg "MOST_PARTS" = some (.int 60 t)
  c_MOST_WEIGHTS : ∃ t, mg "MOST_WEIGHTS" = some (.int 8 t)
  c_MOST_WEIGHT : ∃ t, mg "MOST_WEIGHT" = some (.int 600 t)
  c_MOST_STRAIGHT : ∃ t, mg "MOST_STRAIGHT" = some (.int 3 t)
  c_MOST_DELAY : ∃ t, mg "MOST_DELAY" = some (.int 4 t)
/-! ### the steps: words for k_extra, registered once -/
example : True := by
  k_with "gl" =>
    first
      | k_extra "in"
      | fail
  k_with "in" =>
    first
      | with_reducible exact List.mem_cons_self
      | (with_reducible apply List.mem_cons_of_mem; k_extra "in")
      | fail
  k_with "slot" =>
    first
      | with_reducible exact Slot.here
      | (with_reducible apply Slot.there; k_extra "slot")
      | fail
  k_with "nm" =>
    first
      | with_reducible exact Nm.here
      | (with_reducible apply Nm.there; k_extra "nm")
      | fail
  k_with "put" =>
    first
      | with_reducible exact Put.here
      | (with_reducible apply Put.there; k_extra "put")
      | fail
  k_with "mne" =>
    first
      | assumption
      | exact Ne.symm (by assumption)
      | exact mem_ne (by assumption) (by assumption)
      | exact (mem_ne (by assumption) (by assumption)).symm
      | (intro e; subst e; simp_all; done)
      | fail
  k_with "mem" =>
    first
      | assumption
      | exact mup_same
      | (refine (mup_ne ?_).trans ?_; (k_extra "mne"); (k_extra "mem"))
      | fail
  k_with "items" =>
    first
      | assumption
      | exact items_lst (by k_extra "mem")
      | exact lst_lst (by k_extra "mem")
      | k_dflt rfl
      | fail
  k_with "wss" =>
    first
      | with_reducible refine' wss_one ?_
      | with_reducible refine' wss_cons ?_
      | with_reducible refine' wss_nil ?_
      | fail
  k_with "ws" =>
    first
      | with_reducible refine' ws_ret ?_
      | with_reducible refine' ws_if ?_
      | (with_reducible refine' ws_expr ?ws_expr_0 ?_; (case ws_expr_0 => k_dflt rfl))
      | (with_reducible refine' ws_dputS ?ws_dputS_0 ?ws_dputS_1 ?_; (case ws_dputS_0 => assumption); (case ws_dputS_1 => k_dflt rfl))
      | (with_reducible refine' ws_par ?ws_par_0 ?ws_par_1 ?ws_par_2 ?ws_par_3 ?ws_par_4 ?ws_par_5 ?ws_par_6 ?ws_par_7 ?ws_par_8 ?ws_par_9 ?ws_par_10 ?ws_par_11 ?_; (case ws_par_0 => assumption); (case ws_par_1 => k_extra "nm"); (case ws_par_2 => k_extra "nm"); (case ws_par_3 => decide); (case ws_par_4 => k_extra "gl"); (case ws_par_5 => k_extra "gl"); (case ws_par_6 => k_dflt rfl); (case ws_par_7 => k_dflt (decide +kernel)); (case ws_par_8 => k_dflt rfl); (case ws_par_9 => k_dflt rfl); (case ws_par_10 => k_dflt rfl); (case ws_par_11 => k_dflt rfl))
      | (with_reducible refine' ws_parC ?ws_parC_0 ?ws_parC_1 ?ws_parC_2 ?ws_parC_3 ?_; (case ws_parC_0 => assumption); (case ws_parC_1 => k_extra "gl"); (case ws_parC_2 => k_dflt rfl); (case ws_parC_3 => k_dflt rfl))
      | (with_reducible refine' ws_asgS ?ws_asgS_0 ?ws_asgS_1 ?_; (case ws_asgS_0 => k_dflt rfl); (case ws_asgS_1 => k_dflt rfl))
      | (with_reducible refine' ws_asg ?ws_asg_0 ?ws_asg_1 ?ws_asg_2 ?_; (case ws_asg_0 => k_dflt rfl); (case ws_asg_1 => k_dflt rfl); (case ws_asg_2 => k_dflt rfl))
      | (with_reducible refine' ws_augI ?ws_augI_0 ?ws_augI_1 ?ws_augI_2 ?_; (case ws_augI_0 => assumption); (case ws_augI_1 => k_extra "slot"); (case ws_augI_2 => k_extra "gl"))
      | with_reducible refine' ws_brk ?_
      | with_reducible refine' ws_cont ?_
      | fail
  k_with "cmp" =>
    first
      | with_reducible apply ob_lt
      | with_reducible apply ob_le
      | with_reducible apply ob_gt
      | with_reducible apply ob_ge
      | with_reducible apply ob_is
      | with_reducible apply ob_isnot
      | with_reducible apply ob_in
      | with_reducible apply ob_notin
      | (with_reducible apply ob_eq; assumption)
      | (with_reducible apply ob_ne; assumption)
      | fail
  k_with "we" =>
    first
      | (with_reducible refine' guNm ?_; k_extra "wname")
      | (with_reducible refine' gConst ?_; k_extra "wconst")
      | (with_reducible refine' gCall ?_; k_extra "call")
      | (with_reducible refine' gBin ?_; k_extra "wbin")
      | with_reducible refine' we_tup ?_
      | with_reducible refine' we_lst ?_
      | with_reducible refine' we_dnil ?_
      | (with_reducible refine' we_dgetS ?we_dgetS_0 ?_; (case we_dgetS_0 => assumption))
      | with_reducible refine' we_rev ?_
      | with_reducible refine' we_slice ?_
      | (with_reducible refine' we_ix ?we_ix_0 ?_; (case we_ix_0 => k_dflt (exact fun _ _ => rfl)))
      | with_reducible refine' we_if ?_
      | with_reducible refine' we_one ?_
      | with_reducible refine' we_and ?_
      | with_reducible refine' we_or ?_
      | with_reducible refine' we_not ?_
      | with_reducible refine' we_neg ?_
      | (with_reducible refine' we_chain ?we_chain_0 ?we_chain_1 ?we_chain_2 ?_; (case we_chain_0 => k_extra "cmp"); (case we_chain_1 => k_extra "cmp"); (case we_chain_2 => k_dflt rfl))
      | (with_reducible refine' we_cmp ?we_cmp_0 ?we_cmp_1 ?_; (case we_cmp_0 => k_extra "cmp"); (case we_cmp_1 => k_dflt rfl))
      | fail
  k_with "wname" =>
    first
      | (with_reducible refine' we_var ?we_var_0 ?we_var_1 ?we_var_2 ?_; (case we_var_0 => assumption); (case we_var_1 => k_extra "slot"); (case we_var_2 => k_extra "gl"))
      | k_extra "glob"
      | fail
  k_with "wconst" =>
    first
      | with_reducible refine' we_int ?_
      | with_reducible refine' we_str ?_
      | with_reducible refine' we_bl ?_
      | with_reducible refine' we_non ?_
      | fail
  k_with "wbin" =>
    first
      | with_reducible apply we_binop ob_add
      | with_reducible apply we_binop ob_sub
      | with_reducible apply we_binop ob_mul
      | with_reducible apply we_binop ob_mod
      | with_reducible apply we_binop ob_fdiv
      | with_reducible apply we_binop ob_pow
      | fail
  k_with "call" =>
    first
      | (with_reducible refine' wc_len ?wc_len_0 ?wc_len_1 ?wc_len_2 ?wc_len_3 ?_; (case wc_len_0 => assumption); (case wc_len_1 => k_extra "gl"); (case wc_len_2 => k_extra "mg0"); (case wc_len_3 => k_dflt rfl))
      | (with_reducible refine' wc_int ?wc_int_0 ?wc_int_1 ?wc_int_2 ?wc_int_3 ?_; (case wc_int_0 => assumption); (case wc_int_1 => k_extra "gl"); (case wc_int_2 => k_extra "mg0"); (case wc_int_3 => k_dflt rfl))
      | (with_reducible refine' wc_tuple ?wc_tuple_0 ?wc_tuple_1 ?wc_tuple_2 ?wc_tuple_3 ?_; (case wc_tuple_0 => assumption); (case wc_tuple_1 => k_extra "gl"); (case wc_tuple_2 => k_extra "mg0"); (case wc_tuple_3 => k_dflt rfl))
      | (with_reducible refine' wc_list ?wc_list_0 ?wc_list_1 ?wc_list_2 ?wc_list_3 ?_; (case wc_list_0 => assumption); (case wc_list_1 => k_extra "gl"); (case wc_list_2 => k_extra "mg0"); (case wc_list_3 => k_dflt rfl))
      | (with_reducible refine' wc_sum ?wc_sum_0 ?wc_sum_1 ?wc_sum_2 ?wc_sum_3 ?_; (case wc_sum_0 => assumption); (case wc_sum_1 => k_extra "gl"); (case wc_sum_2 => k_extra "mg0"); (case wc_sum_3 => k_dflt rfl))
      | (with_reducible refine' wc_all ?wc_all_0 ?wc_all_1 ?wc_all_2 ?wc_all_3 ?_; (case wc_all_0 => assumption); (case wc_all_1 => k_extra "gl"); (case wc_all_2 => k_extra "mg0"); (case wc_all_3 => k_dflt rfl))
      | (with_reducible refine' wc_any ?wc_any_0 ?wc_any_1 ?wc_any_2 ?wc_any_3 ?_; (case wc_any_0 => assumption); (case wc_any_1 => k_extra "gl"); (case wc_any_2 => k_extra "mg0"); (case wc_any_3 => k_dflt rfl))
      | (with_reducible refine' wc_abs ?wc_abs_0 ?wc_abs_1 ?wc_abs_2 ?wc_abs_3 ?_; (case wc_abs_0 => assumption); (case wc_abs_1 => k_extra "gl"); (case wc_abs_2 => k_extra "mg0"); (case wc_abs_3 => k_dflt rfl))
      | (with_reducible refine' wc_minA ?wc_minA_0 ?wc_minA_1 ?wc_minA_2 ?wc_minA_3 ?_; (case wc_minA_0 => assumption); (case wc_minA_1 => k_extra "gl"); (case wc_minA_2 => k_extra "mg0"); (case wc_minA_3 => k_dflt rfl))
      | (with_reducible refine' wc_maxL ?wc_maxL_0 ?wc_maxL_1 ?wc_maxL_2 ?wc_maxL_3 ?_; (case wc_maxL_0 => assumption); (case wc_maxL_1 => k_extra "gl"); (case wc_maxL_2 => k_extra "mg0"); (case wc_maxL_3 => k_dflt rfl))
      | (with_reducible refine' wc_repr ?wc_repr_0 ?wc_repr_1 ?wc_repr_2 ?wc_repr_3 ?_; (case wc_repr_0 => assumption); (case wc_repr_1 => k_extra "gl"); (case wc_repr_2 => k_extra "mg0"); (case wc_repr_3 => k_dflt rfl))
      | (with_reducible refine' wc_min2 ?wc_min2_0 ?wc_min2_1 ?wc_min2_2 ?wc_min2_3 ?wc_min2_4 ?_; (case wc_min2_0 => assumption); (case wc_min2_1 => k_extra "gl"); (case wc_min2_2 => k_extra "mg0"); (case wc_min2_3 => k_dflt rfl); (case wc_min2_4 => k_dflt rfl))
      | (with_reducible refine' wc_max2 ?wc_max2_0 ?wc_max2_1 ?wc_max2_2 ?wc_max2_3 ?wc_max2_4 ?_; (case wc_max2_0 => assumption); (case wc_max2_1 => k_extra "gl"); (case wc_max2_2 => k_extra "mg0"); (case wc_max2_3 => k_dflt rfl); (case wc_max2_4 => k_dflt rfl))
      | (with_reducible refine' wc_isi ?wc_isi_0 ?wc_isi_1 ?wc_isi_2 ?wc_isi_3 ?wc_isi_4 ?_; (case wc_isi_0 => assumption); (case wc_isi_1 => k_extra "gl"); (case wc_isi_2 => k_extra "mg0"); (case wc_isi_3 => k_dflt rfl); (case wc_isi_4 => k_dflt rfl))
      | (with_reducible refine' we_append ?we_append_0 ?we_append_1 ?we_append_2 ?we_append_3 ?_; (case we_append_0 => k_dflt rfl); (case we_append_1 => k_dflt rfl); (case we_append_2 => k_dflt rfl); (case we_append_3 => k_dflt rfl))
      | (with_reducible refine' we_pop ?we_pop_0 ?we_pop_1 ?_; (case we_pop_0 => k_dflt rfl); (case we_pop_1 => k_dflt rfl))
      | (with_reducible refine' we_call ?we_call_0 ?we_call_1 ?we_call_2 ?we_call_3 ?we_call_4 ?we_call_5 ?_; (case we_call_0 => assumption); (case we_call_1 => assumption); (case we_call_2 => decide); (case we_call_3 => k_extra "gl"); (case we_call_4 => k_dflt rfl); (case we_call_5 => k_dflt (intro _; rfl)))
      | (with_reducible refine' we_call0 ?we_call0_0 ?we_call0_1 ?we_call0_2 ?we_call0_3 ?_; (case we_call0_0 => assumption); (case we_call0_1 => assumption); (case we_call0_2 => decide); (case we_call0_3 => k_extra "gl"))
      | fail
  k_with "glob" =>
    first
      | (with_reducible refine' we_gI ?we_gI_0 ?we_gI_1 ?we_gI_2 ?_; (case we_gI_0 => assumption); (case we_gI_1 => k_extra "gl"); (case we_gI_2 => k_extra "mgI"))
      | (with_reducible refine' we_gS ?we_gS_0 ?we_gS_1 ?we_gS_2 ?_; (case we_gS_0 => assumption); (case we_gS_1 => k_extra "gl"); (case we_gS_2 => k_extra "mgI"))
      | (with_reducible refine' we_type ?we_type_0 ?we_type_1 ?we_type_2 ?we_type_3 ?_; (case we_type_0 => assumption); (case we_type_1 => k_extra "gl"); (case we_type_2 => k_extra "mg0"); (case we_type_3 => first | exact PySem.boot_int | exact PyProof.Rows.boot_int | exact PyProof.Rows.boot_bool | exact PyProof.Rows.boot_str | exact PyProof.Rows.boot_tuple | exact PyProof.Rows.boot_list))
      | fail
  k_with "wt" =>
    first
      | with_reducible refine' wt_bool ?_
      | with_reducible refine' wt_not ?_
      | (with_reducible refine' wt_chain ?wt_chain_0 ?wt_chain_1 ?wt_chain_2 ?_; (case wt_chain_0 => k_extra "cmp"); (case wt_chain_1 => k_extra "cmp"); (case wt_chain_2 => k_dflt rfl))
      | (with_reducible refine' wt_cmp ?wt_cmp_0 ?wt_cmp_1 ?_; (case wt_cmp_0 => k_extra "cmp"); (case wt_cmp_1 => k_dflt rfl))
      | (with_reducible refine' wt_truth ?wt_truth_0 ?_; (case wt_truth_0 => k_dflt (intro _; rfl)))
      | fail
  k_with "ww" =>
    first
      | with_reducible refine' ww_and1 ?_
      | with_reducible refine' ww_or1 ?_
      | with_reducible refine' ww_and ?_
      | with_reducible refine' ww_or ?_
      | fail
  k_with "wa" =>
    first
      | with_reducible refine' wa_nil ?_
      | (with_reducible refine' wa_star ?wa_star_0 ?_; (case wa_star_0 => k_dflt rfl))
      | (with_reducible refine' wa_cons ?wa_cons_0 ?_; (case wa_cons_0 => k_dflt rfl))
      | fail
  k_with "tgt" =>
    first
      | (with_reducible refine' pt2_name ?pt2_name_0 ?pt2_name_1 ?pt2_name_2; (case pt2_name_0 => assumption); (case pt2_name_1 => k_extra "nm"); (case pt2_name_2 => k_extra "gl"))
      | (with_reducible apply pt2_tup; (assumption); (k_dflt rfl); (k_dflt rfl); k_extra "tgts")
      | fail
  k_with "tgts" =>
    first
      | with_reducible exact pts2_nil
      | (with_reducible apply pts2_cons; (k_dflt rfl); (k_extra "tgt"); (k_extra "tgts"))
      | fail
  k_with "wg" =>
    first
      | (with_reducible refine' wg_name ?wg_name_0 ?wg_name_1 ?wg_name_2 ?wg_name_3 ?_; (case wg_name_0 => assumption); (case wg_name_1 => k_extra "nm"); (case wg_name_2 => k_extra "gl"); (case wg_name_3 => k_extra "put"))
      | (with_reducible refine' wg_tgt ?wg_tgt_0 ?wg_tgt_1 ?_; (case wg_tgt_0 => k_extra "tgt"); (case wg_tgt_1 => k_dflt rfl))
      | (with_reducible refine' wg_sub ?wg_sub_0 ?_; (case wg_sub_0 => k_dflt (intro _; rfl)))
      | (with_reducible refine' wg_tup ?wg_tup_0 ?wg_tup_1 ?wg_tup_2 ?_; (case wg_tup_0 => assumption); (case wg_tup_1 => k_dflt rfl); (case wg_tup_2 => k_dflt rfl))
      | fail
  k_with "wgs" =>
    first
      | with_reducible refine' wgs_nil ?_
      | (with_reducible refine' wgs_cons ?wgs_cons_0 ?_; (case wgs_cons_0 => k_dflt rfl))
      | fail
  k_with "kb" =>
    first
      | with_reducible exact kb_int_int
      | with_reducible exact kb_int_bool
      | with_reducible exact kb_int_str
      | with_reducible exact kb_int_tuple
      | with_reducible exact kb_int_list
      | with_reducible exact kb_int_dict
      | with_reducible exact kb_tuple_int
      | with_reducible exact kb_tuple_bool
      | with_reducible exact kb_tuple_str
      | with_reducible exact kb_tuple_tuple
      | with_reducible exact kb_tuple_list
      | with_reducible exact kb_tuple_dict
      | with_reducible exact kb_str_int
      | with_reducible exact kb_str_bool
      | with_reducible exact kb_str_str
      | with_reducible exact kb_str_tuple
      | with_reducible exact kb_str_list
      | with_reducible exact kb_str_dict
      | with_reducible exact kb_bool_int
      | with_reducible exact kb_bool_bool
      | with_reducible exact kb_bool_str
      | with_reducible exact kb_bool_tuple
      | with_reducible exact kb_bool_list
      | with_reducible exact kb_bool_dict
      | with_reducible exact kb_list_int
      | with_reducible exact kb_list_bool
      | with_reducible exact kb_list_str
      | with_reducible exact kb_list_tuple
      | with_reducible exact kb_list_list
      | with_reducible exact kb_list_dict
      | with_reducible exact kb_NoneType_int
      | with_reducible exact kb_NoneType_bool
      | with_reducible exact kb_NoneType_str
      | with_reducible exact kb_NoneType_tuple
      | with_reducible exact kb_NoneType_list
      | with_reducible exact kb_NoneType_dict
      | with_reducible exact kb_dict_int
      | with_reducible exact kb_dict_bool
      | with_reducible exact kb_dict_str
      | with_reducible exact kb_dict_tuple
      | with_reducible exact kb_dict_list
      | with_reducible exact kb_dict_dict
      | fail
  k_with "kc" =>
    first
      | with_reducible exact kc_int
      | with_reducible exact kd_int
      | with_reducible exact kc_tuple
      | with_reducible exact kd_tuple
      | with_reducible exact kc_str
      | with_reducible exact kd_str
      | with_reducible exact kc_bool
      | with_reducible exact kd_bool
      | with_reducible exact kc_list
      | with_reducible exact kd_list
      | with_reducible exact kc_NoneType
      | with_reducible exact kd_NoneType
      | with_reducible exact kc_dict
      | with_reducible exact kd_dict
      | fail
  k_with "q" =>
    first
      | with_reducible refine' q_add ?_
      | with_reducible refine' q_i0 ?_
      | (with_reducible refine' q_i2 ?q_i2_0 ?_; (case q_i2_0 => decide))
      | with_reducible refine' q_i2 ?_ ?_
      | with_reducible refine' q_mul ?_ ?_
      | with_reducible refine' q_isB ?_
      | (with_reducible refine' q_tru ?q_tru_0 ?_; (case q_tru_0 => k_dflt rfl))
      | (with_reducible refine' q_par ?q_par_0 ?q_par_1 ?_; (case q_par_0 => k_extra "put"); (case q_par_1 => k_extra "put"))
      | (with_reducible refine' q_aug ?q_aug_0 ?_; (case q_aug_0 => k_extra "put"))
      | with_reducible refine' q_exI ?_
      | with_reducible refine' q_exT ?_
      | with_reducible refine' q_slT ?_
      | (with_reducible refine' q_size ?q_size_0 ?_; (case q_size_0 => k_dflt (simp only [List.length_cons, List.length_nil]; decide)))
      | with_reducible refine' Br.not ?_
      | with_reducible refine' Br.idd ?_
      | with_reducible refine' Br.t ?_
      | with_reducible refine' Br.f ?_
      | with_reducible refine' q_eqI ?_
      | with_reducible refine' q_eqS ?_
      | (with_reducible refine' q_ix ?q_ix_0 ?q_ix_1 ?_; (case q_ix_0 => k_dflt rfl); (case q_ix_1 => k_dflt rfl))
      | (with_reducible refine' q_ixM ?q_ixM_0 ?q_ixM_1 ?_; (case q_ixM_0 => k_extra "items"); (case q_ixM_1 => assumption))
      | (with_reducible refine' q_ixL ?q_ixL_0 ?q_ixL_1 ?_; (case q_ixL_0 => k_extra "items"); (case q_ixL_1 => assumption))
      | (with_reducible refine' q_ixH ?q_ixH_0 ?q_ixH_1 ?_; (case q_ixH_0 => k_extra "items"); (case q_ixH_1 => first | assumption | k_dflt rfl))
      | (with_reducible refine' q_len ?q_len_0 ?_; (case q_len_0 => k_extra "items"))
      | with_reducible refine' q_int ?_
      | with_reducible refine' q_abs ?_
      | (with_reducible refine' q_sum ?q_sum_0 ?_; (case q_sum_0 => k_extra "items"))
      | (with_reducible refine' q_tuple ?q_tuple_0 ?_; (case q_tuple_0 => k_extra "items"))
      | (with_reducible refine' q_list ?q_list_0 ?_; (case q_list_0 => k_extra "items"))
      | with_reducible refine' q_min2 ?_
      | with_reducible refine' q_max2 ?_
      | (with_reducible refine' q_isi ?q_isi_0 ?q_isi_1 ?_; (case q_isi_0 => first | k_dflt rfl | exact ty_lst (by k_extra "mem")); (case q_isi_1 => k_extra "kb"))
      | (with_reducible refine' q_isi2 ?q_isi2_0 ?q_isi2_1 ?_; (case q_isi2_0 => first | k_dflt rfl | exact ty_lst (by k_extra "mem")); (case q_isi2_1 => k_extra "kc"))
      | with_reducible refine' q_addT ?_ ?_
      | (with_reducible refine' q_addL ?q_addL_0 ?q_addL_1 ?_ ?_; (case q_addL_0 => k_extra "mem"); (case q_addL_1 => k_extra "mem"))
      | with_reducible refine' wo_none ?_
      | with_reducible refine' wo_some ?_
      | fail
  k_with "wi" =>
    first
      | (with_reducible refine' wi_rng1 ?wi_rng1_0 ?wi_rng1_1 ?wi_rng1_2 ?wi_rng1_3 ?_; (case wi_rng1_0 => assumption); (case wi_rng1_1 => k_extra "gl"); (case wi_rng1_2 => k_extra "mg0"); (case wi_rng1_3 => k_dflt rfl))
      | (with_reducible refine' wi_rng2 ?wi_rng2_0 ?wi_rng2_1 ?wi_rng2_2 ?wi_rng2_3 ?wi_rng2_4 ?_; (case wi_rng2_0 => assumption); (case wi_rng2_1 => k_extra "gl"); (case wi_rng2_2 => k_extra "mg0"); (case wi_rng2_3 => k_dflt rfl); (case wi_rng2_4 => k_dflt rfl))
      | (with_reducible refine' wi_zip ?wi_zip_0 ?wi_zip_1 ?wi_zip_2 ?wi_zip_3 ?wi_zip_4 ?_; (case wi_zip_0 => assumption); (case wi_zip_1 => k_extra "gl"); (case wi_zip_2 => k_extra "mg0"); (case wi_zip_3 => k_dflt rfl); (case wi_zip_4 => k_dflt (intro _; rfl)))
      | fail
  k_with "enT" =>
    first
      | (with_reducible refine' wi_enumT ?wi_enumT_0 ?wi_enumT_1 ?wi_enumT_2 ?wi_enumT_3 ?_; (case wi_enumT_0 => assumption); (case wi_enumT_1 => k_extra "gl"); (case wi_enumT_2 => k_extra "mg0"); (case wi_enumT_3 => k_dflt rfl))
      | fail
  k_with "enL" =>
    first
      | (with_reducible refine' wi_enumL ?wi_enumL_0 ?wi_enumL_1 ?wi_enumL_2 ?wi_enumL_3 ?_; (case wi_enumL_0 => assumption); (case wi_enumL_1 => k_extra "gl"); (case wi_enumL_2 => k_extra "mg0"); (case wi_enumL_3 => k_dflt rfl))
      | fail
  k_with "enR" =>
    first
      | (with_reducible refine' wi_enumR ?wi_enumR_0 ?wi_enumR_1 ?wi_enumR_2 ?wi_enumR_3 ?_; (case wi_enumR_0 => assumption); (case wi_enumR_1 => k_extra "gl"); (case wi_enumR_2 => k_extra "mg0"); (case wi_enumR_3 => k_dflt rfl))
      | fail
  k_with "side" =>
    first
      | assumption
      | k_dflt rfl
      | omega
      | k_dflt (simp only [List.length_cons, List.length_nil, List.length_map]; omega)
      | k_dflt (decide)
      | fail
  k_with "br" =>
    first
      | (with_reducible refine' Br.decT ?brT ?_; (case brT => k_extra "side"))
      | (with_reducible refine' Br.decF ?brF ?_; (case brF => k_extra "side"))
      | fail
  k_with "y" =>
    first
      | (with_reducible refine' gWE ?_; k_extra "we")
      | (with_reducible refine' gWA ?_; k_extra "wa")
      | (with_reducible refine' gWSs ?_; k_extra "wss")
      | (with_reducible refine' gWS ?_; k_extra "ws")
      | (with_reducible refine' gWT ?_; k_extra "wt")
      | (with_reducible refine' gWW ?_; k_extra "ww")
      | (with_reducible refine' gWG ?_; k_extra "wg")
      | (with_reducible refine' gWI ?_; k_extra "wi")
      | k_extra "q"
      | k_extra "lq"
      | k_extra "wgs"
      | k_extra "br"
      | fail
  trivial

example : True := by
  k_with "mg0" => first | with_reducible exact Txt.b_isinstance (by assumption) | with_reducible exact Txt.b_int (by assumption) | with_reducible exact Txt.b_bool (by assumption) | with_reducible exact Txt.b_list (by assumption) | with_reducible exact Txt.b_tuple (by assumption) | with_reducible exact Txt.b_len (by assumption) | with_reducible exact Txt.b_enumerate (by assumption) | with_reducible exact Txt.b_abs (by assumption) | with_reducible exact Txt.b_all (by assumption) | with_reducible exact Txt.b_sum (by assumption) | with_reducible exact Txt.b_range (by assumption) | with_reducible exact Txt.b_repr (by assumption) | with_reducible exact Txt.b_zip (by assumption)
  k_with "mgI" => first | with_reducible exact Txt.c_MOST_DAYS (by assumption) | with_reducible exact Txt.c_MOST_DEMAND (by assumption) | with_reducible exact Txt.c_MOST_PARTS (by assumption) | with_reducible exact Txt.c_MOST_WEIGHTS (by assumption) | with_reducible exact Txt.c_MOST_WEIGHT (by assumption) | with_reducible exact Txt.c_MOST_STRAIGHT (by assumption) | with_reducible exact Txt.c_MOST_DELAY (by assumption)
  trivial
section
variable {P : Program} {w : World} {K : PySem.W.Frag} {mg : Str → Option Value} {base : Heap}
/-! ### _law_mixed -/
abbrev s__law_mixed : Stmt := top 35
theorem sc__law_mixed : FnScope ["_law_cell", "_law_n", "_law_blend"] ["_law_cell", "_law_n"] (defScope s__law_mixed) := ⟨rfl, rfl, rfl, by decide +kernel, rfl, by decide +kernel, by decide +kernel⟩
abbrev nm__law_mixed : Nms := ⟨["_law_cell", "_law_n", "_law_blend"], ["_law_cell", "_law_n", "_law_blend"], ["_law_cell", "_law_n", "_law_blend"], ["int"], []⟩
theorem no__law_mixed : nm__law_mixed.ok (defScope s__law_mixed) = true := by decide +kernel
def sp__law_mixed : Sp2 := fun ds M Q _ => ∃ c n : Int, ds = [.int c, .int n] ∧ Bd 64 c ∧ Bd 40 n ∧ ∀ r : Int, 0 ≤ r → r < 2147483648 → Q (.int r) M
theorem ok__law_mixed {f : Addr} {fd : FuncData} (F : Fun K "_law_mixed" "_law_mixed" s__law_mixed f fd) (T : Txt mg)  : Fn2 P w K mg base CX0 1 f fd ["_law_cell", "_law_n"] sp__law_mixed := by
  refine fn2_of F sc__law_mixed no__law_mixed (fun ds M Q E h => ?_) (fun X ds M Q E C h => ?_)
  · repeat (first | (obtain ⟨rfl, _⟩ := h; rfl) | (obtain ⟨_, h⟩ := h))
  · obtain ⟨c, n, rfl, hc, hn, k⟩ := h
    show WSs X _ _ [some (.int c), some (.int n), none] M
    refine wss_cons ?_
    have b2 : Bd 42 (2 * n) := (Bd.mul (a := 2) (b := 40) (by decide) hn)
    have b3 : Bd 43 (1 + 2 * n) := Bd.add (Bd.le (a := 1) (by decide) (by decide)) b2
    have b4 : Bd 107 (c * (1 + 2 * n)) := hc.mul b3
    have b5 : Bd 53 (7919 * n) := Bd.mul (a := 13) (by decide) hn
    have b6 : Bd 93 (7919 * n * n) := b5.mul hn
    have b7 : Bd 57 (104729 * n) := Bd.mul (a := 17) (by decide) hn
    have b8 : Bd 31 ((c * (1 + 2 * n) * 48271).fmod 2147483647) := Bd.b31 (Int.fmod_nonneg_of_pos _ (by decide)) (Int.lt_trans (Int.fmod_lt_of_pos _ (by decide)) (by decide))
    have b9 : Bd 95 ((c * (1 + 2 * n) * 48271).fmod 2147483647 + 7919 * n * n + 104729 * n) := Bd.add (Bd.add (b8.le (by decide)) (b6.le (by decide))) (b7.le (by decide))
    repeat' (k_extra "y")
    · exact mulW (a := 2) (b := 40) (by decide) hn
    · exact mulW hc b3
    · exact mulW (b := 16) b4 (by decide)
    · exact mulW (a := 13) (by decide) hn
    · exact mulW b5 hn
    · exact mulW (a := 17) (by decide) hn
    · exact mulW (b := 17) b9 (by decide)
    · exact divW' (by decide) (by decide)
    · generalize ((c * (1 + 2 * n) * 48271).fmod 2147483647 + 7919 * n * n + 104729 * n) * 69621 = z
      have h1 := Int.fmod_nonneg_of_pos z (b := 2147483629) (by decide)
      have h2 := Int.fmod_lt_of_pos z (b := 2147483629) (by decide)
      exact k _ (Int.ediv_nonneg h1 (by decide)) (by omega)
/-! ### _law_folded -/
abbrev s__law_folded : Stmt := top 36
theorem sc__law_folded : FnScope ["_law_script", "_law_found", "_law_n", "_law_cell"] ["_law_script"] (defScope s__law_folded) := ⟨rfl, rfl, rfl, by decide +kernel, rfl, by decide +kernel, by decide +kernel⟩
abbrev nm__law_folded : Nms := ⟨["_law_script", "_law_n", "_law_found", "_law_cell"], ["_law_script", "_law_n", "_law_found", "_law_cell"], ["_law_script", "_law_n", "_law_found", "_law_cell"], ["range", "enumerate", "int"], []⟩
theorem no__law_folded : nm__law_folded.ok (defScope s__law_folded) = true := by decide +kernel
abbrev nb__law_folded_0 : Nms := ⟨["_law_n"], ["_law_n"], ["_law_n"], [], []⟩
abbrev ow__law_folded_0 : List (Str × Nat) := [("_law_n", 2)]
def Cells (cs : List Int) : Prop := cs.length = 64 ∧ ∀ x ∈ cs, 0 ≤ x ∧ x < 2147483648
theorem cells_mod (z : Int) : 0 ≤ z.fmod 2147483647 ∧ z.fmod 2147483647 < 2147483648 := ⟨Int.fmod_nonneg_of_pos _ (by decide), Int.lt_trans (Int.fmod_lt_of_pos _ (by decide)) (by decide)⟩
def sp__law_folded : Sp2 := fun ds M Q _ => ∃ ns : List Int, ds = [.ro (ns.map D.int)] ∧ ∀ p cs, M p = none → Cells cs → Q (.obj p) (mup M p (.lst (cs.map D.int)))
theorem ok__law_folded {f : Addr} {fd : FuncData} (F : Fun K "_law_folded" "_law_folded" s__law_folded f fd) (T : Txt mg)  : Fn2 P w K mg base CX0 1 f fd ["_law_script"] sp__law_folded := by
  refine fn2_of F sc__law_folded no__law_folded (fun ds M Q E h => ?_) (fun X ds M Q E C h => ?_)
  · repeat (first | (obtain ⟨rfl, _⟩ := h; rfl) | (obtain ⟨_, h⟩ := h))
  · obtain ⟨ns, rfl, k⟩ := h
    show WSs X _ _ [some (.ro (ns.map D.int)), none, none, none] M
    refine wss_cons ?_
    refine ws_setLcP (own := ow__law_folded_0) (t := .nm 2) C (by k_extra "nm") (by k_extra "gl") rfl rfl (by decide +kernel) (by decide) (fun X' B => pt2_name (C.blk (sc2 := nb__law_folded_0) B rfl (by decide +kernel)) (by k_extra "nm") (by k_extra "gl")) (fun _ => rfl) (fun d => match d with | .int i => .int (17 + i) | d => d) ?_
    k_extra "y"
    k_extra "y"
    refine ⟨64, rfl, by decide, by decide, ⟨by decide, fun _ _ _ => trivial, fun d Dd acc hd _ => ?_⟩, fun p hp => ⟨_, by k_extra "put", ?_⟩⟩
    · obtain ⟨i, _, rfl⟩ := List.mem_map.mp hd
      refine ⟨[some (.ro (ns.map D.int)), none, some (.int (0 + (i : Nat))), none], rfl, fun X' B => ?_⟩
      have C' := C.blk (sc2 := nb__law_folded_0) B rfl (by decide +kernel)
      repeat' (k_extra "y")
      exact ⟨rfl, rfl⟩
    · obtain ⟨cs, e, hc⟩ : ∃ cs : List Int, ((List.range (64 : Int).toNat).map fun i => D.int (0 + (i : Nat))).map (fun d => match d with | .int i => D.int (17 + i) | d => d) = cs.map D.int ∧ Cells cs := by
        refine ⟨(List.range 64).map fun i => 17 + (0 + ((i : Nat) : Int)), ?_, by simp, fun x hx => ?_⟩
        · rw [List.map_map, List.map_map]; rfl
        · obtain ⟨i, hi, rfl⟩ := List.mem_map.mp hx
          have := List.mem_range.mp hi
          omega
      rw [e]
      clear e
      refine wss_cons ?_
      refine ws_for (t := .tp [.nm 2, .nm 3]) C (by k_extra "tgt") (fun _ => rfl) ?_
      k_extra "enR"
      k_extra "y"
      refine ⟨_, rfl, fun i ρ M' => ∃ cs a b, ρ = [some (.ro (ns.map D.int)), some (.obj p), a, b] ∧ M' = mup M p (.lst (cs.map D.int)) ∧ Cells cs, ⟨cs, _, _, rfl, rfl, hc⟩, fun _ _ _ _ => trivial, ?_, ?_⟩
      · rintro i d ρ M' hd ⟨cs, a, b, rfl, rfl, hc⟩
        obtain ⟨e, he, rfl⟩ := enumD_get hd
        obtain ⟨z, rfl, _⟩ := get_ints he
        refine ⟨[some (.ro (ns.map D.int)), some (.obj p), some (.int (i : Nat)), some (.int z)], rfl, ?_⟩
        have h1 := Int.fmod_nonneg_of_pos (i : Int) (b := 64) (by decide)
        have h2 := Int.fmod_lt_of_pos (i : Int) (b := 64) (by decide)
        obtain ⟨x, hx, ex⟩ := atI_int (cs := cs) h1 (by rw [hc.1]; exact h2)
        have bx := hc.2 x hx
        repeat' (k_extra "y")
        refine q_ix (items_lst mup_same) ex ?_
        repeat' (k_extra "y")
        · exact mulW (b := 16) (Bd.b31 bx.1 bx.2) (by decide)
        · refine ⟨p, _, _, _, rfl, rfl, mup_same, ixN_in h1 (by rw [List.length_map, hc.1]; exact h2), ?_⟩
          rw [mup_mup, set_ints]
          exact ⟨_, _, _, rfl, rfl, by rw [List.length_set]; exact hc.1, mem_set hc.2 (cells_mod _)⟩
      · rintro ρ M' ⟨cs, a, b, rfl, rfl, hc⟩
        refine wss_cons ?_
        refine ws_for (t := .nm 2) C (by k_extra "tgt") (fun _ => rfl) ?_
        k_extra "y"
        k_extra "y"
        k_extra "y"
        k_extra "y"
        k_extra "y"
        k_extra "y"
        refine ⟨1, 64, rfl, by decide, fun i ρ M' => ∃ cs a, ρ = [some (.ro (ns.map D.int)), some (.obj p), a, b] ∧ M' = mup M p (.lst (cs.map D.int)) ∧ Cells cs, ⟨cs, _, rfl, rfl, hc⟩, fun _ _ _ _ => trivial, ?_, ?_⟩
        · rintro i d ρ M' hd ⟨cs, a, rfl, rfl, hc⟩
          obtain ⟨hi, rfl⟩ := rng_get hd
          have hi' : i < 63 := hi
          refine ⟨[some (.ro (ns.map D.int)), some (.obj p), some (.int (1 + (i : Nat))), b], rfl, ?_⟩
          obtain ⟨x, hx, ex⟩ := atI_int (cs := cs) (k := 1 + (i : Nat)) (by omega) (by rw [hc.1]; omega)
          obtain ⟨y, hy, ey⟩ := atI_int (cs := cs) (k := 1 + (i : Nat) - 1) (by omega) (by rw [hc.1]; omega)
          have bx := hc.2 x hx
          have bY := hc.2 y hy
          repeat' (k_extra "y")
          refine q_ix (items_lst mup_same) ex ?_
          repeat' (k_extra "y")
          refine q_ix (items_lst mup_same) ey ?_
          repeat' (k_extra "y")
          · exact mulW (b := 15) (Bd.b31 bY.1 bY.2) (by decide)
          · refine ⟨p, _, _, _, rfl, rfl, mup_same, ixN_in (by omega) (by rw [List.length_map, hc.1]; omega), ?_⟩
            rw [mup_mup, set_ints]
            exact ⟨_, _, rfl, rfl, by rw [List.length_set]; exact hc.1, mem_set hc.2 (cells_mod _)⟩
        · rintro ρ M' ⟨cs, a, rfl, rfl, hc⟩
          repeat' (k_extra "y")
          exact k p cs hp hc
/-! ### _law_draw -/
abbrev s__law_draw : Stmt := top 37
theorem sc__law_draw : FnScope ["_law_m", "_law_limit", "_law_n", "_law_lot", "_law_here", "_law_cell"] ["_law_m", "_law_limit"] (defScope s__law_draw) := ⟨rfl, rfl, rfl, by decide +kernel, rfl, by decide +kernel, by decide +kernel⟩
abbrev nm__law_draw : Nms := ⟨["_law_m", "_law_limit", "_law_n", "_law_lot", "_law_here", "_law_cell"], ["_law_m", "_law_limit", "_law_n", "_law_lot", "_law_here", "_law_cell"], ["_law_m", "_law_limit", "_law_n", "_law_lot", "_law_here", "_law_cell"], ["int", "len", "_law_mixed"], []⟩
theorem no__law_draw : nm__law_draw.ok (defScope s__law_draw) = true := by decide +kernel
/-- the state from which all numbers are drawn: at m, its list of great cells at g, behind n numbers -/
def Drw (M : Mem) (m g c : Addr) (n : Int) : Prop := ∃ (cs gs : List Int), M m = some (.dk [(.inr "cells", .obj c), (.inr "great", .obj g), (.inr "spot", .int n)]) ∧ M c = some (.lst (cs.map D.int)) ∧ M g = some (.lst (gs.map D.int)) ∧ c ≠ g ∧ Cells cs ∧ (∀ x ∈ gs, 0 ≤ x) ∧ 0 ≤ n
/-- all that stood, but m and g, is as it was -/
def But (m g : Addr) (M M' : Mem) : Prop := ∀ b o, b ≠ m → b ≠ g → M b = some o → M' b = some o
theorem But.refl {m g : Addr} (M : Mem) : But m g M M := fun _ _ _ _ h => h
theorem But.trans {m g : Addr} {A B C : Mem} (h : But m g A B) (k : But m g B C) : But m g A C := fun b o x y e => k b o x y (h b o x y e)
theorem But.new {m g p : Addr} {o : MO} {M : Mem} (h : M p = none) : But m g M (mup M p o) := fun b u _ _ e => (mup_ne (mem_ne e h)).trans e
theorem n_cg : ¬ (Str.ofString "cells" = Str.ofString "great") := by decide +kernel
theorem n_cs : ¬ (Str.ofString "cells" = Str.ofString "spot") := by decide +kernel
theorem n_gs : ¬ (Str.ofString "great" = Str.ofString "spot") := by decide +kernel
theorem n_sg : ¬ (Str.ofString "spot" = Str.ofString "great") := by decide +kernel
theorem val_c {a b c : D} : valD [((Sum.inr (Str.ofString "cells") : Key), a), (Sum.inr (Str.ofString "great"), b), (Sum.inr (Str.ofString "spot"), c)] (Sum.inr (Str.ofString "cells")) = some a := by simp [valD]
theorem val_g {a b c : D} : valD [((Sum.inr (Str.ofString "cells") : Key), a), (Sum.inr (Str.ofString "great"), b), (Sum.inr (Str.ofString "spot"), c)] (Sum.inr (Str.ofString "great")) = some b := by simp [valD, n_cg, List.find?_cons]
theorem val_s {a b c : D} : valD [((Sum.inr (Str.ofString "cells") : Key), a), (Sum.inr (Str.ofString "great"), b), (Sum.inr (Str.ofString "spot"), c)] (Sum.inr (Str.ofString "spot")) = some c := by simp [valD, n_cs, n_gs, List.find?_cons]
theorem put_s {a b c d : D} : putD [((Sum.inr (Str.ofString "cells") : Key), a), (Sum.inr (Str.ofString "great"), b), (Sum.inr (Str.ofString "spot"), c)] (Sum.inr (Str.ofString "spot")) d = [((Sum.inr (Str.ofString "cells") : Key), a), (Sum.inr (Str.ofString "great"), b), (Sum.inr (Str.ofString "spot"), d)] := by simp [putD, n_cs, n_gs]
theorem put_g {a b c d : D} : putD [((Sum.inr (Str.ofString "cells") : Key), a), (Sum.inr (Str.ofString "great"), b), (Sum.inr (Str.ofString "spot"), c)] (Sum.inr (Str.ofString "great")) d = [((Sum.inr (Str.ofString "cells") : Key), a), (Sum.inr (Str.ofString "great"), d), (Sum.inr (Str.ofString "spot"), c)] := by simp [putD, n_cg, n_sg]
def sp__law_draw : Sp2 := fun ds M Q _ => ∃ (m g c : Addr) (n l : Int), ds = [.obj m, .int l] ∧ Drw M m g c n ∧ 0 < l ∧ l < 1152921504606846976 ∧ n < 274877906944 ∧ ∀ (r : Int) (M' : Mem), 0 ≤ r → r < l → Drw M' m g c (n + 1) → But m g M M' → Q (.int r) M'
theorem ok__law_draw {f : Addr} {fd : FuncData} (F : Fun K "_law_draw" "_law_draw" s__law_draw f fd) (T : Txt mg) (G__law_mixed : Def2 P w K mg base CX0 1 "_law_mixed" ["_law_cell", "_law_n"] sp__law_mixed) : Fn2 P w K mg base CX0 2 f fd ["_law_m", "_law_limit"] sp__law_draw := by
  refine fn2_of F sc__law_draw no__law_draw (fun ds M Q E h => ?_) (fun X ds M Q E C h => ?_)
  · repeat (first | (obtain ⟨rfl, _⟩ := h; rfl) | (obtain ⟨_, h⟩ := h))
  · obtain ⟨m, g, c, n, l, rfl, ⟨cs, gs, hm, hc, hg, cg, Cc, Cg, n0⟩, l0, l1, n1, k⟩ := h
    show WSs X _ _ [some (.obj m), some (.int l), none, none, none, none] M
    have mc : c ≠ m := fun e => by subst e; rw [hc] at hm; cases hm
    have mg' : g ≠ m := fun e => by subst e; rw [hg] at hm; cases hm
    refine wss_cons ?_
    k_extra "y"
    k_extra "y"
    k_extra "y"
    refine ⟨m, _, .int n, rfl, hm, val_s, ?_⟩
    k_extra "y"
    k_extra "y"
    k_extra "y"
    repeat' (k_extra "y")
    refine ⟨m, _, rfl, hm, by show 3 < sizeLine; decide, ?_⟩
    rw [put_s]
    generalize hM1 : mup M m (.dk [(.inr "cells", .obj c), (.inr "great", .obj g), (.inr "spot", .int (n + 1))]) = M1
    have hm1 : M1 m = some (.dk [(.inr "cells", .obj c), (.inr "great", .obj g), (.inr "spot", .int (n + 1))]) := by rw [← hM1]; exact mup_same
    have hc1 : M1 c = some (.lst (cs.map D.int)) := by rw [← hM1, mup_ne mc]; exact hc
    have hg1 : M1 g = some (.lst (gs.map D.int)) := by rw [← hM1, mup_ne mg']; exact hg
    have bt1 : But m g M M1 := fun b o h1 h2 e => by rw [← hM1, mup_ne h1]; exact e
    clear hM1
    -- the mixed number
    have last : ∀ (a b d : Option D) (M2 : Mem), M2 m = some (.dk [(.inr "cells", .obj c), (.inr "great", .obj g), (.inr "spot", .int (n + 1))]) → M2 c = some (.lst (cs.map D.int)) → M2 g = some (.lst (gs.map D.int)) → But m g M M2 →
        WSs X ((defBody s__law_draw).drop 3) { nx := fun _ M' => Q .non M', rt := Q } [some (.obj m), some (.int l), some (.int n), a, b, d] M2 := by
      intro a b d M2 hm2 hc2 hg2 bt2
      refine wss_cons ?_
      k_extra "y"
      k_extra "y"
      k_extra "y"
      refine ⟨m, _, _, rfl, hm2, val_c, ?_⟩
      have h1 := Int.fmod_nonneg_of_pos n (b := 64) (by decide)
      have h2 := Int.fmod_lt_of_pos n (b := 64) (by decide)
      obtain ⟨x, hx, ex⟩ := atI_int (cs := cs) h1 (by rw [Cc.1]; exact h2)
      have bx := Cc.2 x hx
      repeat' (k_extra "y")
      refine q_ix (items_lst hc2) ex ?_
      repeat' (k_extra "y")
      · exact divW' (by decide) (by decide)
      · exact mulW (a := 5) (b := 40) (by decide) (by unfold Bd; omega)
      · refine ⟨_, _, rfl, by unfold Bd; omega, by unfold Bd; omega, fun r1 r10 r11 => ?_⟩
        repeat' (k_extra "y")
        refine ⟨_, _, rfl, by unfold Bd; omega, by unfold Bd; omega, fun r2 r20 r21 => ?_⟩
        repeat' (k_extra "y")
        · omega
        · exact k _ _ (Int.fmod_nonneg_of_pos _ l0) (Int.fmod_lt_of_pos _ l0) ⟨cs, gs, hm2, hc2, hg2, cg, Cc, Cg, by omega⟩ bt2
    refine wss_cons ?_
    k_extra "y"
    k_extra "y"
    k_extra "y"
    k_extra "y"
    refine ⟨m, _, _, rfl, hm1, val_g, ?_⟩
    k_extra "y"
    k_extra "y"
    refine ⟨by decide, fun q hq => ?_⟩
    have gq := mem_ne hg1 hq
    have cq := mem_ne hc1 hq
    have mq := mem_ne hm1 hq
    refine q_neNil (gs := gs) ((mup_ne gq).trans hg1) mup_same ?_
    have bt2 : But m g M (mup M1 q (.lst [])) := bt1.trans (But.new hq)
    have hm2 : mup M1 q (.lst []) m = some (.dk [(.inr "cells", .obj c), (.inr "great", .obj g), (.inr "spot", .int (n + 1))]) := (mup_ne mq).trans hm1
    have hc2 : mup M1 q (.lst []) c = some (.lst (cs.map D.int)) := (mup_ne cq).trans hc1
    have hg2 : mup M1 q (.lst []) g = some (.lst (gs.map D.int)) := (mup_ne gq).trans hg1
    generalize mup M1 q (.lst []) = M2 at bt2 hm2 hc2 hg2 ⊢
    refine q_isB (Br.not (Br.dec (fun e => ?_) fun ne => ?_))
    · refine wss_nil ?_
      exact last _ _ _ M2 hm2 hc2 hg2 bt2
    · have gl : 0 < gs.length := List.length_pos_iff.mpr ne
      refine wss_cons ?_
      k_extra "y"
      k_extra "y"
      k_extra "y"
      refine ⟨m, _, _, rfl, hm2, val_g, ?_⟩
      have h1 := Int.fmod_nonneg_of_pos n (b := ((gs.map D.int).length : Nat)) (by rw [List.length_map]; omega)
      have h2 := Int.fmod_lt_of_pos n (b := ((gs.map D.int).length : Nat)) (by rw [List.length_map]; omega)
      obtain ⟨x, hx, ex⟩ := atI_int (cs := gs) h1 (by rw [List.length_map] at h2; rw [List.length_map]; exact h2)
      have bx := Cg x hx
      repeat' (k_extra "y")
      · rw [List.length_map]; omega
      refine q_ix (items_lst hg2) ex ?_
      repeat' (k_extra "y")
      refine Br.dec (fun hp => ?_) fun hp => ?_
      · repeat' (k_extra "y")
        · exact divW' l0 l1
        · refine ⟨g, _, _, _, rfl, rfl, hg2, ixN_in h1 h2, ?_⟩
          rw [set_ints]
          repeat' (k_extra "y")
          · omega
          · refine k _ _ (Int.fmod_nonneg_of_pos _ l0) (Int.fmod_lt_of_pos _ l0) ⟨cs, _, (mup_ne (Ne.symm mg')).trans hm2, (mup_ne cg).trans hc2, mup_same, cg, Cc, mem_set Cg (Int.ediv_nonneg bx (by omega)), by omega⟩ fun b o b1 b2 e => ?_
            exact (mup_ne b2).trans (bt2 b o b1 b2 e)
      · refine wss_nil ?_
        exact last _ _ _ M2 hm2 hc2 hg2 bt2
/-! ### _law_begun -/
abbrev s__law_begun : Stmt := top 38
theorem sc__law_begun : FnScope ["_law_script", "_law_m", "_law_cell"] ["_law_script"] (defScope s__law_begun) := ⟨rfl, rfl, rfl, by decide +kernel, rfl, by decide +kernel, by decide +kernel⟩
abbrev nm__law_begun : Nms := ⟨["_law_script", "_law_m"], ["_law_script", "_law_m"], ["_law_script", "_law_m"], ["_law_folded"], []⟩
theorem no__law_begun : nm__law_begun.ok (defScope s__law_begun) = true := by decide +kernel
abbrev nb__law_begun_0 : Nms := ⟨["_law_cell"], ["_law_cell"], ["_law_cell"], [], []⟩
abbrev ow__law_begun_0 : List (Str × Nat) := [("_law_cell", 2)]
def sp__law_begun : Sp2 := fun ds M Q _ => ∃ ns : List Int, ds = [.ro (ns.map D.int)] ∧ ns.length ≤ 63 ∧ (∀ a, M a = none) ∧ ∀ m g c M', Drw M' m g c 0 → Q (.obj m) M'
theorem ok__law_begun {f : Addr} {fd : FuncData} (F : Fun K "_law_begun" "_law_begun" s__law_begun f fd) (T : Txt mg) (G__law_folded : Def2 P w K mg base CX0 1 "_law_folded" ["_law_script"] sp__law_folded) : Fn2 P w K mg base CX0 2 f fd ["_law_script"] sp__law_begun := by
  refine fn2_of F sc__law_begun no__law_begun (fun ds M Q E h => ?_) (fun X ds M Q E C h => ?_)
  · repeat (first | (obtain ⟨rfl, _⟩ := h; rfl) | (obtain ⟨_, h⟩ := h))
  · obtain ⟨ns, rfl, hl, emp, k⟩ := h
    show WSs X _ _ [some (.ro (ns.map D.int)), none, none] M
    refine wss_cons ?_
    k_extra "y"
    with_reducible apply we_disp3
    · decide +kernel
    · decide +kernel
    · decide +kernel
    intro m hm
    k_extra "y"
    k_extra "y"
    k_extra "y"
    k_extra "y"
    refine ⟨ns, rfl, fun c cs hc Cc => ?_⟩
    have mc := mem_ne (mup_same : mup M m (.dk []) m = _) hc
    k_extra "y"
    k_extra "y"
    refine ⟨by decide, fun g hg => ?_⟩
    have cg := mem_ne (mup_same : mup (mup M m (.dk [])) c (.lst (cs.map D.int)) c = _) hg
    have mg' := mem_ne (show mup (mup M m (.dk [])) c (.lst (cs.map D.int)) m = _ from (mup_ne mc).trans mup_same) hg
    k_extra "y"
    refine ⟨(mup_ne mg').trans ((mup_ne mc).trans mup_same), ?_⟩
    generalize hM1 : mup (mup (mup (mup M m (.dk [])) c (.lst (cs.map D.int))) g (.lst [])) m (.dk [(.inr (Str.ofString "cells"), .obj c), (.inr (Str.ofString "great"), .obj g), (.inr (Str.ofString "spot"), .int 0)]) = M1
    have hm1 : M1 m = some (.dk [(.inr (Str.ofString "cells"), .obj c), (.inr (Str.ofString "great"), .obj g), (.inr (Str.ofString "spot"), .int 0)]) := by rw [← hM1]; exact mup_same
    have hc1 : M1 c = some (.lst (cs.map D.int)) := by rw [← hM1]; exact (mup_ne (Ne.symm mc)).trans ((mup_ne cg).trans mup_same)
    clear hM1
    k_extra "y"
    refine wss_cons ?_
    with_reducible refine' ws_dputS C ?_ ?_
    · k_dflt rfl
    refine we_lcP (own := ow__law_begun_0) (t := .nm 2) C (by decide +kernel) (by decide) (fun X' B => pt2_name (C.blk (sc2 := nb__law_begun_0) B rfl (by decide +kernel)) (by k_extra "nm") (by k_extra "gl")) (fun _ => rfl) (fun d => match d with | .int i => .int (if 10 ^ 18 ≤ i then i else 0) | d => d) ?_
    refine wi_ro ?_
    k_extra "y"
    refine ⟨_, rfl, ⟨by rw [List.length_map]; exact Nat.le_trans hl (by decide), fun _ _ _ => trivial, fun d Dd acc hd _ => ?_⟩, fun p hp => ?_⟩
    · obtain ⟨i, _, rfl⟩ := List.mem_map.mp hd
      refine ⟨[some (.ro (ns.map D.int)), some (.obj m), some (.int i)], rfl, fun X' B => ?_⟩
      have C' := C.blk (sc2 := nb__law_begun_0) B rfl (by decide +kernel)
      repeat' (k_extra "y")
      · exact ⟨by decide, by decide, by decide⟩
      · refine Br.dec (fun h => ?_) fun h => ?_
        · repeat' (k_extra "y")
          exact ⟨rfl, by show D.int i = D.int (if (10 : Int) ^ 18 ≤ i then i else 0); rw [if_pos (show (10 : Int) ^ 18 ≤ i from h)]⟩
        · repeat' (k_extra "y")
          exact ⟨rfl, by show D.int 0 = D.int (if (10 : Int) ^ 18 ≤ i then i else 0); rw [if_neg (show ¬ (10 : Int) ^ 18 ≤ i from h)]⟩
    · have e : (ns.map D.int).map (fun d => match d with | .int i => D.int (if 10 ^ 18 ≤ i then i else 0) | d => d) = (ns.map fun i => if 10 ^ 18 ≤ i then i else 0).map D.int := by rw [List.map_map, List.map_map]; rfl
      rw [e]
      clear e
      have pm := mem_ne hm1 hp
      have pc := mem_ne hc1 hp
      repeat' (k_extra "y")
      refine ⟨m, _, rfl, (mup_ne pm).trans hm1, by show 3 < sizeLine; decide, ?_⟩
      rw [put_g]
      repeat' (k_extra "y")
      refine k m p c _ ⟨cs, _, mup_same, (mup_ne (Ne.symm mc)).trans ((mup_ne pc).trans hc1), (mup_ne (Ne.symm pm)).trans mup_same, pc, Cc, fun x hx => ?_, by omega⟩
      obtain ⟨y, _, rfl⟩ := List.mem_map.mp hx
      split <;> omega
/-! sums over numbers below a bound -/
def sg (g : Nat → Int) : Nat → Int
  | 0 => 0
  | n + 1 => sg g n + g n
theorem sg_congr {f g : Nat → Int} : ∀ {n : Nat}, (∀ k, k < n → f k = g k) → sg f n = sg g n
  | 0, _ => rfl
  | n + 1, h => by simp only [sg]; rw [sg_congr (n := n) fun k hk => h k (by omega), h n (by omega)]
theorem sg_zero {g : Nat → Int} : ∀ {n : Nat}, (∀ k, k < n → g k = 0) → sg g n = 0
  | 0, _ => rfl
  | n + 1, h => by simp only [sg]; rw [sg_zero (n := n) fun k hk => h k (by omega), h n (by omega)]; rfl
theorem sg_add (f g : Nat → Int) : ∀ n, sg (fun k => f k + g k) n = sg f n + sg g n
  | 0 => rfl
  | n + 1 => by simp only [sg]; rw [sg_add f g n]; omega
theorem sg_mul (c : Int) (g : Nat → Int) : ∀ n, sg (fun k => c * g k) n = c * sg g n
  | 0 => by simp [sg]
  | n + 1 => by simp only [sg]; rw [sg_mul c g n, Int.mul_add]
theorem sg_swap (f : Nat → Nat → Int) (m : Nat) : ∀ n, sg (fun i => sg (fun j => f i j) m) n = sg (fun j => sg (fun i => f i j) n) m
  | 0 => by simp only [sg]; exact (sg_zero fun k _ => rfl).symm
  | n + 1 => by
    simp only [sg]
    rw [sg_swap f m n, ← sg_add]
theorem sg_more {g : Nat → Int} {n : Nat} : ∀ {m : Nat}, n ≤ m → (∀ k, n ≤ k → k < m → g k = 0) → sg g m = sg g n
  | 0, h, _ => by rw [show n = 0 by omega]
  | m + 1, h, z => by
    by_cases e : n = m + 1
    · rw [e]
    · simp only [sg]
      rw [sg_more (m := m) (by omega) fun k h1 h2 => z k h1 (by omega), z m (by omega) (by omega)]
      omega
theorem sg_shift {g : Nat → Int} {k : Nat} : ∀ {m : Nat}, sg (fun t => if k ≤ t then g (t - k) else 0) (k + m) = sg g m
  | 0 => by
    rw [Nat.add_zero]
    exact sg_zero fun t h => if_neg (by omega)
  | m + 1 => by
    rw [← Nat.add_assoc]
    simp only [sg]
    rw [sg_shift (m := m), if_pos (by omega), show k + m - k = m by omega]
def gt (xs : List Int) (k : Nat) : Int := xs.getD k 0
theorem gt_some {xs : List Int} {k : Nat} {x : Int} (h : xs[k]? = some x) : gt xs k = x := by unfold gt; rw [List.getD_eq_getElem?_getD, h]; rfl
theorem gt_none {xs : List Int} {k : Nat} (h : xs.length ≤ k) : gt xs k = 0 := by unfold gt; rw [List.getD_eq_getElem?_getD, List.getElem?_eq_none h]; rfl
theorem sum_sg : ∀ (xs : List Int), xs.sum = sg (gt xs) xs.length
  | [] => rfl
  | x :: xs => by
    have h : sg (gt (x :: xs)) (1 + xs.length) = gt (x :: xs) 0 + sg (fun k => gt (x :: xs) (k + 1)) xs.length := by
      generalize xs.length = n
      induction n with
      | zero => simp [sg]
      | succ n ih => rw [← Nat.add_assoc]; simp only [sg]; rw [ih]; rw [show 1 + n = n + 1 by omega]; omega
    rw [List.sum_cons, List.length_cons, Nat.add_comm, h, sum_sg xs]
    rfl
theorem map_sum_sg {α : Type} (g : Nat → Int) : ∀ n, ((List.range n).map g).sum = sg g n
  | 0 => rfl
  | n + 1 => by rw [List.range_succ, List.map_append, List.sum_append, map_sum_sg (α := α) g n]; simp [sg]
/-! the product of two rows of weights -/
def cv (a b : List Int) (t : Nat) : Int := sg (fun k => if k ≤ t then gt a k * gt b (t - k) else 0) a.length
def cvL (a b : List Int) : List Int := (List.range (a.length + b.length - 1)).map (cv a b)
/-- what weights order at a day, with demands f by day, back to all days ahead -/
def od (w : List Int) (f : Int → Int) (K : Int) : Int := sg (fun t => gt w t * f (K - t)) w.length
theorem gt_cvL {a b : List Int} {t : Nat} (h : t < a.length + b.length - 1) : gt (cvL a b) t = cv a b t := by
  refine gt_some ?_
  unfold cvL
  rw [List.getElem?_map, List.getElem?_range h]
  rfl
theorem od_cv {a b : List Int} (ha : a ≠ []) (hb : b ≠ []) (f : Int → Int) (K : Int) : od (cvL a b) f K = od b (fun i => od a f i) K := by
  have la : 0 < a.length := List.length_pos_iff.mpr ha
  have lb : 0 < b.length := List.length_pos_iff.mpr hb
  have hl : (cvL a b).length = a.length + b.length - 1 := by simp [cvL]
  unfold od
  rw [hl]
  have e1 : sg (fun t => gt (cvL a b) t * f (K - t)) (a.length + b.length - 1) = sg (fun t => sg (fun k => if k ≤ t then gt a k * (gt b (t - k) * f (K - t)) else 0) a.length) (a.length + b.length - 1) := by
    refine sg_congr fun t ht => ?_
    rw [gt_cvL ht, cv, Int.mul_comm, ← sg_mul]
    refine sg_congr fun k _ => ?_
    split
    · rw [Int.mul_comm, Int.mul_assoc]
    · rw [Int.mul_zero]
  rw [e1, sg_swap]
  have e2 : sg (fun j => gt b j * sg (fun t => gt a t * f (K - j - t)) a.length) b.length = sg (fun k => sg (fun j => gt a k * (gt b j * f (K - j - k))) b.length) a.length := by
    rw [← sg_swap (fun j k => gt a k * (gt b j * f (K - j - k)))]
    refine sg_congr fun j _ => ?_
    rw [← sg_mul]
    refine sg_congr fun k _ => ?_
    rw [← Int.mul_assoc, ← Int.mul_assoc, Int.mul_comm (gt b j)]
  rw [e2]
  refine sg_congr fun k hk => ?_
  have e3 : ∀ t, (if k ≤ t then gt a k * (gt b (t - k) * f (K - t)) else 0) = (if k ≤ t then (fun j => gt a k * (gt b j * f (K - (j : Nat) - k))) (t - k) else 0) := by
    intro t
    split
    · rename_i h
      show _ = gt a k * (gt b (t - k) * f (K - ((t - k : Nat) : Int) - k))
      rw [show K - ((t - k : Nat) : Int) - k = K - t by omega]
    · rfl
  rw [sg_congr (g := fun t => if k ≤ t then (fun j => gt a k * (gt b j * f (K - (j : Nat) - k))) (t - k) else 0) fun t _ => e3 t]
  rw [sg_more (n := k + b.length) (by omega)]
  · exact sg_shift (g := fun j => gt a k * (gt b j * f (K - (j : Nat) - k)))
  intro t h1 h2
  rw [if_pos (by omega)]
  simp only
  rw [gt_none (xs := b) (by omega)]
  simp
/-! greatest common divisors, least terms -/
def gl (p : Int) (ws : List Int) : Int := ws.foldl (fun d w => ((Int.gcd d w : Nat) : Int)) p
theorem gl_pos : ∀ {ws : List Int} {p : Int}, 0 < p → 0 < gl p ws
  | [], _, h => h
  | w :: ws, p, h => by
    show 0 < gl ((Int.gcd p w : Nat) : Int) ws
    refine gl_pos ?_
    have : 0 < Int.gcd p w := Int.gcd_pos_of_ne_zero_left _ (by omega)
    omega
theorem gl_le : ∀ {ws : List Int} {p : Int}, 0 < p → gl p ws ≤ p
  | [], _, _ => Int.le_refl _
  | w :: ws, p, h => by
    show gl ((Int.gcd p w : Nat) : Int) ws ≤ p
    have h1 : 0 < Int.gcd p w := Int.gcd_pos_of_ne_zero_left _ (by omega)
    have h2 : ((Int.gcd p w : Nat) : Int) ≤ p := Int.le_of_dvd h (Int.gcd_dvd_left ..)
    exact Int.le_trans (gl_le (by omega)) h2
def trm : Nat → List Int → List Int
  | 0, xs => xs
  | n + 1, xs => if 1 < xs.length ∧ xs.getLast? = some 0 then trm n xs.dropLast else xs
def low (p : Int) (ws : List Int) : Int × List Int := (p / gl p ws, trm ws.length (ws.map (· / gl p ws)))
theorem gl_scale (t : Int) (ht : 0 < t) : ∀ {ws : List Int} {p : Int}, gl (t * p) (ws.map (t * ·)) = t * gl p ws
  | [], _ => rfl
  | w :: ws, p => by
    show gl ((Int.gcd (t * p) (t * w) : Nat) : Int) (ws.map (t * ·)) = t * gl ((Int.gcd p w : Nat) : Int) ws
    rw [Int.gcd_mul_left, ← gl_scale t ht]
    congr 1
    rw [Int.natCast_mul, Int.natAbs_of_nonneg (by omega)]
theorem gl_zeros : ∀ (k : Nat) {p : Int}, 0 ≤ p → gl p (List.replicate k 0) = p
  | 0, _, _ => rfl
  | k + 1, p, h => by
    rw [List.replicate_succ]
    show gl ((Int.gcd p 0 : Nat) : Int) (List.replicate k 0) = p
    rw [Int.gcd_zero_right, Int.natAbs_of_nonneg h]
    exact gl_zeros k h
theorem gl_app : ∀ {xs ys : List Int} {p : Int}, gl p (xs ++ ys) = gl (gl p xs) ys
  | [], _, _ => rfl
  | x :: xs, ys, p => by show gl ((Int.gcd p x : Nat) : Int) (xs ++ ys) = _; rw [gl_app]; rfl
theorem trm_zeros {xs : List Int} (h : xs ≠ []) : ∀ (k n : Nat), trm (n + k) (xs ++ List.replicate k 0) = trm n xs
  | 0, n => by simp
  | k + 1, n => by
    rw [List.replicate_succ', ← List.append_assoc, ← Nat.add_assoc]
    show (if 1 < (xs ++ List.replicate k 0 ++ [0]).length ∧ (xs ++ List.replicate k 0 ++ [0]).getLast? = some 0 then trm (n + k) (xs ++ List.replicate k 0 ++ [0]).dropLast else _) = _
    have l : 0 < xs.length := List.length_pos_iff.mpr h
    rw [if_pos ⟨by simp; omega, by simp⟩, List.dropLast_concat]
    exact trm_zeros h k n
theorem low_scale {p t : Int} {ws : List Int} {k : Nat} (hp : 0 < p) (ht : 0 < t) (hw : ws ≠ []) : low (t * p) (ws.map (t * ·) ++ List.replicate k 0) = low p ws := by
  have g0 := gl_pos (ws := ws) hp
  have tg : 0 ≤ t * gl p ws := Int.mul_nonneg (by omega) (by omega)
  have e : gl (t * p) (ws.map (t * ·) ++ List.replicate k 0) = t * gl p ws := by
    rw [gl_app, gl_scale t ht, gl_zeros k tg]
  unfold low
  rw [e]
  have e2 : (ws.map (t * ·) ++ List.replicate k 0).map (· / (t * gl p ws)) = ws.map (· / gl p ws) ++ List.replicate k 0 := by
    rw [List.map_append, List.map_map, List.map_replicate, Int.zero_ediv]
    congr 1
    refine List.map_congr_left fun w _ => ?_
    exact Int.mul_ediv_mul_of_pos _ _ ht
  rw [e2, Int.mul_ediv_mul_of_pos _ _ ht]
  congr 1
  rw [List.length_append, List.length_map, List.length_replicate]
  exact trm_zeros (by simpa using hw) k ws.length

def lnD (p : Int) (ws : List Int) : D := .tup [.int p, .tup (ws.map D.int)]
structure LnOk (p : Int) (ws : List Int) : Prop where
  p0 : 1 ≤ p
  p1 : p ≤ 60
  l0 : 1 ≤ ws.length
  l1 : ws.length ≤ 8
  w : ∀ x ∈ ws, -600 ≤ x ∧ x ≤ 600
  s : ws.sum = p
theorem abs_nat (i : Int) : (if i < 0 then -i else i) = (i.natAbs : Nat) := by split <;> omega
theorem gcd_step (m n : Nat) (h : 0 < n) : ((m : Int).fmod (n : Int)) = ((m % n : Nat) : Int) := by
  rw [Int.fmod_eq_emod_of_nonneg _ (by omega)]; rfl
/-! ### is_whole -/
abbrev s_is_whole : Stmt := top 9
theorem sc_is_whole : FnScope ["value", "least", "most"] ["value", "least", "most"] (defScope s_is_whole) := ⟨rfl, rfl, rfl, by decide +kernel, rfl, by decide +kernel, by decide +kernel⟩
abbrev nm_is_whole : Nms := ⟨["value", "least", "most"], ["value", "least", "most"], ["value", "least", "most"], ["isinstance", "int", "bool"], []⟩
theorem no_is_whole : nm_is_whole.ok (defScope s_is_whole) = true := by decide +kernel
def sp_is_whole : Sp2 := fun ds M Q _ => ∃ v a b : Int, ds = [.int v, .int a, .int b] ∧ Q (.bl (decide (a ≤ v ∧ v ≤ b))) M
theorem st_is_whole {M : Mem} {Q : QE} {E : XQ} {v a b : Int} (q : Q (.bl (decide (a ≤ v ∧ v ≤ b))) M) : sp_is_whole [.int v, .int a, .int b] M Q E := ⟨v, a, b, rfl, q⟩
theorem ok_is_whole {f : Addr} {fd : FuncData} (F : Fun K "is_whole" "is_whole" s_is_whole f fd) (T : Txt mg)  : Fn2 P w K mg base CX0 1 f fd ["value", "least", "most"] sp_is_whole := by
  refine fn2_of F sc_is_whole no_is_whole (fun ds M Q E h => ?_) (fun X ds M Q E C h => ?_)
  · repeat (first | (obtain ⟨rfl, _⟩ := h; rfl) | (obtain ⟨_, h⟩ := h))
  · obtain ⟨v, a, b, rfl, k⟩ := h
    show WSs X _ _ [some (.int v), some (.int a), some (.int b)] M
    refine wss_one ?_
    repeat' (k_extra "y")
    refine Br.dec (fun h1 => ?_) fun h1 => ?_
    · repeat' (k_extra "y")
      simpa [h1] using k
    · simpa [h1] using k
example : True := by
  k_with "lq" => first | with_reducible apply st_is_whole | fail
  trivial
/-! ### common -/
abbrev s_common : Stmt := top 17
theorem sc_common : FnScope ["one", "other"] ["one", "other"] (defScope s_common) := ⟨rfl, rfl, rfl, by decide +kernel, rfl, by decide +kernel, by decide +kernel⟩
abbrev nm_common : Nms := ⟨["one", "other"], ["one", "other"], ["one", "other"], ["abs", "int"], []⟩
theorem no_common : nm_common.ok (defScope s_common) = true := by decide +kernel
def sp_common : Sp2 := fun ds M Q _ => ∃ a b : Int, ds = [.int a, .int b] ∧ b.natAbs < 1152921504606846976 ∧ a.natAbs < 1152921504606846976 ∧ Q (.int (Int.gcd a b : Nat)) M
theorem st_common {M : Mem} {Q : QE} {E : XQ} {a b : Int} (h : b.natAbs < 1152921504606846976) (h2 : a.natAbs < 1152921504606846976) (q : Q (.int (Int.gcd a b : Nat)) M) : sp_common [.int a, .int b] M Q E := ⟨a, b, rfl, h, h2, q⟩
theorem ok_common {f : Addr} {fd : FuncData} (F : Fun K "common" "common" s_common f fd) (T : Txt mg)  : Fn2 P w K mg base CX0 1 f fd ["one", "other"] sp_common := by
  refine fn2_of F sc_common no_common (fun ds M Q E h => ?_) (fun X ds M Q E C h => ?_)
  · repeat (first | (obtain ⟨rfl, _⟩ := h; rfl) | (obtain ⟨_, h⟩ := h))
  · obtain ⟨a, b, rfl, hb, ha, k⟩ := h
    show WSs X _ _ [some (.int a), some (.int b)] M
    refine wss_cons ?_
    repeat' (k_extra "y")
    rw [abs_nat, abs_nat]
    refine ws_while C (fun m ρ' M' => ∃ x y : Nat, ρ' = [some (.int (x : Nat)), some (.int (y : Nat))] ∧ M' = M ∧ Nat.gcd x y = Int.gcd a b ∧ x < 1152921504606846976 ∧ y < 1152921504606846976 ∧ m = y) b.natAbs ⟨a.natAbs, b.natAbs, rfl, rfl, rfl, ha, hb, rfl⟩ ?_
    rintro m ρ' M' ⟨x, y, rfl, rfl, hg, hx, hy, hm⟩
    repeat' (k_extra "y")
    refine Br.dec (fun c => ?_) fun c => ?_
    · have c : y = 0 := by omega
      subst c
      repeat' (k_extra "y")
      rw [Nat.gcd_zero_right] at hg
      rw [hg]
      exact k
    · have c : 0 < y := by omega
      repeat' (k_extra "y")
      · omega
      · rw [gcd_step x y c]
        have e : Nat.gcd y (x % y) = Nat.gcd x y := (Nat.gcd_comm y (x % y)).trans ((Nat.gcd_rec y x).symm.trans (Nat.gcd_comm y x))
        have l := Nat.mod_lt x c
        exact ⟨x % y, by omega, y, x % y, rfl, rfl, e.trans hg, hy, by omega, rfl⟩
example : True := by
  k_with "lq" => first | with_reducible apply st_common | fail
  trivial
/-! ### are_weights -/
abbrev s_are_weights : Stmt := top 18
theorem sc_are_weights : FnScope ["value", "many", "most", "one"] ["value", "many", "most"] (defScope s_are_weights) := ⟨rfl, rfl, rfl, by decide +kernel, rfl, by decide +kernel, by decide +kernel⟩
abbrev nm_are_weights : Nms := ⟨["value", "many", "most"], ["value", "many", "most"], ["value", "many"], ["isinstance", "tuple", "len", "all"], ["most"]⟩
theorem no_are_weights : nm_are_weights.ok (defScope s_are_weights) = true := by decide +kernel
abbrev nb_are_weights_0 : Nms := ⟨["one", "most"], ["one"], ["one"], ["is_whole"], ["most"]⟩
abbrev ow_are_weights_0 : List (Str × Nat) := [("one", 3)]
def sp_are_weights : Sp2 := fun ds M Q _ => ∃ (ws : List Int) (m W : Int), ds = [.tup (ws.map D.int), .int m, .int W] ∧ 1 ≤ ws.length ∧ (ws.length : Int) ≤ m ∧ ws.length ≤ 100 ∧ (∀ x ∈ ws, -W ≤ x ∧ x ≤ W) ∧ ∀ M', Ext M M' → Q (.bl true) M'
theorem ok_are_weights {f : Addr} {fd : FuncData} (F : Fun K "are_weights" "are_weights" s_are_weights f fd) (T : Txt mg) (G_is_whole : Def2 P w K mg base CX0 1 "is_whole" ["value", "least", "most"] sp_is_whole) : Fn2 P w K mg base CX0 2 f fd ["value", "many", "most"] sp_are_weights := by
  refine fn2_of F sc_are_weights no_are_weights (fun ds M Q E h => ?_) (fun X ds M Q E C h => ?_)
  · repeat (first | (obtain ⟨rfl, _⟩ := h; rfl) | (obtain ⟨_, h⟩ := h))
  · obtain ⟨ws, m, W, rfl, l0, l1, l2, hw, k⟩ := h
    show WSs X _ _ [some (.tup (ws.map D.int)), some (.int m), some (.int W), none] M
    refine wss_cons ?_
    repeat' (k_extra "y")
    refine we_lcG (own := ow_are_weights_0) (t := .nm 3) C (by decide +kernel) (by decide) (fun X' B => by have C' := C.blk (sc2 := nb_are_weights_0) B rfl (by decide +kernel); k_extra "tgt") (fun _ => rfl) ?_
    refine wi_tup ?_
    repeat' (k_extra "y")
    refine ⟨(ws.map fun _ => true).map D.bl, ⟨by rw [List.length_map]; exact Nat.le_trans l2 (by decide), by simp, fun _ _ => trivial, fun i d z M' hd hz x => ?_⟩, fun Dd M' hD e x => ?_⟩
    · obtain ⟨y, rfl, hy⟩ := get_map hd
      have ez := get_map2 hz hy
      have ⟨y0, y1⟩ := hw y (List.mem_of_getElem? hy)
      subst ez
      refine ⟨[some (.tup (ws.map D.int)), some (.int m), some (.int W), some (.int y)], rfl, fun X' B => ?_⟩
      have C' := C.blk (sc2 := nb_are_weights_0) B rfl (by decide +kernel)
      repeat' (k_extra "y")
      exact ⟨Ext.refl _, by simp [y0, y1]⟩
    · refine q_allT e (by simp) ?_
      repeat' (k_extra "y")
      exact k _ x
/-! ### need_parts -/
abbrev s_need_parts : Stmt := top 19
theorem sc_need_parts : FnScope ["thing", "parts", "many", "most"] ["thing", "parts", "many", "most"] (defScope s_need_parts) := ⟨rfl, rfl, rfl, by decide +kernel, rfl, by decide +kernel, by decide +kernel⟩
abbrev nm_need_parts : Nms := ⟨["thing", "parts", "many", "most"], ["thing", "parts", "many", "most"], ["thing", "parts", "many", "most"], ["isinstance", "tuple", "len", "BadLine", "is_whole", "are_weights"], []⟩
theorem no_need_parts : nm_need_parts.ok (defScope s_need_parts) = true := by decide +kernel
def sp_need_parts : Sp2 := fun ds M Q _ => ∃ (p : Int) (ws : List Int) (P m W : Int), ds = [lnD p ws, .int P, .int m, .int W] ∧ 1 ≤ p ∧ p ≤ P ∧ 1 ≤ ws.length ∧ (ws.length : Int) ≤ m ∧ ws.length ≤ 100 ∧ (∀ x ∈ ws, -W ≤ x ∧ x ≤ W) ∧ ∀ M', Ext M M' → Q .non M'
theorem ok_need_parts {f : Addr} {fd : FuncData} (F : Fun K "need_parts" "need_parts" s_need_parts f fd) (T : Txt mg) (G_is_whole : Def2 P w K mg base CX0 1 "is_whole" ["value", "least", "most"] sp_is_whole) (G_are_weights : Def2 P w K mg base CX0 2 "are_weights" ["value", "many", "most"] sp_are_weights) : Fn2 P w K mg base CX0 3 f fd ["thing", "parts", "many", "most"] sp_need_parts := by
  refine fn2_of F sc_need_parts no_need_parts (fun ds M Q E h => ?_) (fun X ds M Q E C h => ?_)
  · repeat (first | (obtain ⟨rfl, _⟩ := h; rfl) | (obtain ⟨_, h⟩ := h))
  · obtain ⟨p, ws, P, m, W, rfl, p0, p1, l0, l1, l2, hw, k⟩ := h
    show WSs X _ _ [some (.tup [.int p, .tup (ws.map D.int)]), some (.int P), some (.int m), some (.int W)] M
    refine wss_cons ?_
    repeat' (k_extra "y")
    refine ⟨ws, m, W, rfl, l0, l1, l2, hw, fun M1 x1 => ?_⟩
    repeat' (k_extra "y")
    exact k _ x1
/-! ### need_line -/
abbrev s_need_line : Stmt := top 20
theorem sc_need_line : FnScope ["thing"] ["thing"] (defScope s_need_line) := ⟨rfl, rfl, rfl, by decide +kernel, rfl, by decide +kernel, by decide +kernel⟩
abbrev nm_need_line : Nms := ⟨["thing"], ["thing"], ["thing"], ["need_parts", "MOST_PARTS", "MOST_WEIGHTS", "MOST_WEIGHT", "sum", "BadLine"], []⟩
theorem no_need_line : nm_need_line.ok (defScope s_need_line) = true := by decide +kernel
def sp_need_line : Sp2 := fun ds M Q _ => ∃ (p : Int) (ws : List Int), ds = [lnD p ws] ∧ LnOk p ws ∧ ∀ M', Ext M M' → Q (lnD p ws) M'
theorem ok_need_line {f : Addr} {fd : FuncData} (F : Fun K "need_line" "need_line" s_need_line f fd) (T : Txt mg) (G_need_parts : Def2 P w K mg base CX0 3 "need_parts" ["thing", "parts", "many", "most"] sp_need_parts) : Fn2 P w K mg base CX0 4 f fd ["thing"] sp_need_line := by
  refine fn2_of F sc_need_line no_need_line (fun ds M Q E h => ?_) (fun X ds M Q E C h => ?_)
  · repeat (first | (obtain ⟨rfl, _⟩ := h; rfl) | (obtain ⟨_, h⟩ := h))
  · obtain ⟨p, ws, rfl, ok, k⟩ := h
    have s := ok.s
    have l1 := ok.l1
    show WSs X _ _ [some (.tup [.int p, .tup (ws.map D.int)])] M
    refine wss_cons ?_
    repeat' (k_extra "y")
    refine ⟨p, ws, 60, 8, 600, rfl, ok.p0, ok.p1, ok.l0, by omega, by omega, ok.w, fun M1 x1 => ?_⟩
    repeat' (k_extra "y")
    exact k _ x1
/-! ### least_terms -/
abbrev s_least_terms : Stmt := top 21
theorem sc_least_terms : FnScope ["parts", "weights", "divisor", "one", "found"] ["parts", "weights"] (defScope s_least_terms) := ⟨rfl, rfl, rfl, by decide +kernel, rfl, by decide +kernel, by decide +kernel⟩
abbrev nm_least_terms : Nms := ⟨["parts", "weights", "divisor", "one", "found"], ["parts", "weights", "divisor", "one", "found"], ["parts", "weights", "one", "found"], ["common", "len", "tuple"], ["divisor"]⟩
theorem no_least_terms : nm_least_terms.ok (defScope s_least_terms) = true := by decide +kernel
abbrev nb_least_terms_0 : Nms := ⟨["one", "divisor"], ["one"], ["one"], [], ["divisor"]⟩
abbrev ow_least_terms_0 : List (Str × Nat) := [("one", 3)]
abbrev lt_rest : List Stmt := (defBody s_least_terms).drop 3
theorem low_fst {p : Int} {ws : List Int} : (low p ws).1 = p / gl p ws := rfl
theorem low_snd {p : Int} {ws : List Int} : (low p ws).2 = trm ws.length (ws.map (· / gl p ws)) := rfl
theorem trm_last {n : Nat} {xs ys : List Int} (h1 : 1 < xs.length) (h2 : xs.getLast? = some 0) (e : trm (n + 1) xs = ys) : trm n xs.dropLast = ys := by
  rw [← e, trm, if_pos ⟨h1, h2⟩]
theorem trm_stop {n : Nat} {xs ys : List Int} (h : ¬ (1 < xs.length ∧ xs.getLast? = some 0)) (e : trm n xs = ys) : xs = ys := by
  cases n with
  | zero => exact e
  | succ n => rw [trm, if_neg h] at e; exact e
theorem least_terms_rest {X : Cx} {E : Ends2} (C : Cxt X ["parts", "weights", "divisor", "one", "found"] nm_least_terms P w K mg base 1) (T : Txt mg) (G_common : Def2 P w K mg base CX0 1 "common" ["one", "other"] sp_common) : ∀ {M0 M : Mem} {p g : Int} {xs : List Int} {pf : Addr} {d1 d3 : Option D}, M pf = some (.lst (xs.map D.int)) → xs ≠ [] → 0 < g → g < 1152921504606846976 → M0 pf = none → Ext M0 M → (∀ M', Ext M0 M' → E.rt (.tup [.int (p / g), .tup ((trm xs.length xs).map D.int)]) M') → WSs X lt_rest E [some (.int p), d1, some (.int g), d3, some (.obj pf)] M := by
  intro M0 M p g xs pf d1 d3 e hx g0 g1 f0 x k
  refine wss_cons ?_
  refine ws_while C (fun m ρ' M' => ∃ ys : List Int, ρ' = [some (.int p), d1, some (.int g), d3, some (.obj pf)] ∧ M' pf = some (.lst (ys.map D.int)) ∧ Ext M0 M' ∧ ys ≠ [] ∧ trm ys.length ys = trm xs.length xs ∧ m = ys.length) xs.length ⟨xs, rfl, e, x, hx, rfl, rfl⟩ ?_
  rintro m ρ' M' ⟨ys, rfl, e', x', hy, ht, hm⟩
  obtain ⟨zs, z, rfl⟩ : ∃ zs z, ys = zs ++ [z] := ⟨ys.dropLast, ys.getLast hy, (List.dropLast_concat_getLast hy).symm⟩
  repeat' (k_extra "y")
  have fin : ¬ (1 < (zs ++ [z]).length ∧ (zs ++ [z]).getLast? = some 0) → WSs X (lt_rest.drop 1) E [some (.int p), d1, some (.int g), d3, some (.obj pf)] M' := by
    intro hn
    have ez := trm_stop hn ht
    rw [← ez] at k
    refine wss_cons ?_
    repeat' (k_extra "y")
    · exact divW' g0 g1
    · exact k _ x'
  refine Br.dec (fun c1 => ?_) fun c1 => ?_
  · repeat' (k_extra "y")
    refine q_ixL (items_lst e') (x := z) (by simp) ?_
    repeat' (k_extra "y")
    refine Br.dec (fun c2 => ?_) fun c2 => ?_
    · subst c2
      repeat' (k_extra "y")
      refine ⟨pf, _, .int 0, rfl, e', by simp, ?_⟩
      rw [← List.map_dropLast, List.dropLast_concat]
      have l2 : 1 < (zs ++ [(0 : Int)]).length := by rw [List.length_map] at c1; omega
      have ht' := ht
      rw [show (zs ++ [(0 : Int)]).length = zs.length + 1 by simp] at ht'
      have h5 := trm_last l2 (by simp) ht'
      rw [List.dropLast_concat] at h5
      refine ⟨zs.length, by rw [hm]; simp, zs, rfl, mup_same, x'.put f0, ?_, h5, rfl⟩
      intro z0
      subst z0
      simp at l2
    · exact fin fun ⟨_, h2⟩ => c2 (by simpa using h2)
  · have fin2 := fin fun ⟨h1, _⟩ => c1 (by rw [List.length_map]; omega)
    exact Br.f fin2
def sp_least_terms : Sp2 := fun ds M Q _ => ∃ (p : Int) (ws : List Int) (d : D), ds = [.int p, d] ∧ ((∃ a, d = .obj a ∧ M a = some (.lst (ws.map D.int))) ∨ d = .tup (ws.map D.int)) ∧ 0 < p ∧ p < 1152921504606846976 ∧ ws ≠ [] ∧ ws.length ≤ 100 ∧ (∀ x ∈ ws, x.natAbs < 1152921504606846976) ∧ ∀ M', Ext M M' → Q (lnD (low p ws).1 (low p ws).2) M'
theorem ok_least_terms {f : Addr} {fd : FuncData} (F : Fun K "least_terms" "least_terms" s_least_terms f fd) (T : Txt mg) (G_common : Def2 P w K mg base CX0 1 "common" ["one", "other"] sp_common) : Fn2 P w K mg base CX0 2 f fd ["parts", "weights"] sp_least_terms := by
  refine fn2_of F sc_least_terms no_least_terms (fun ds M Q E h => ?_) (fun X ds M Q E C h => ?_)
  · repeat (first | (obtain ⟨rfl, _⟩ := h; rfl) | (obtain ⟨_, h⟩ := h))
  · obtain ⟨p, ws, d, rfl, hd, p0, p1, hn, hl, hw, k⟩ := h
    have l9 : 100 ≤ sizeLine := by decide
    rcases hd with ⟨a, rfl, e⟩ | rfl
    · show WSs X _ _ [some (.int p), some (.obj a), none, none, none] M
      refine wss_cons ?_
      repeat' (k_extra "y")
      refine ws_for (t := .nm 3) C (by k_extra "tgt") (fun _ => rfl) ?_
      refine wi_list ?_
      repeat' (k_extra "y")
      refine ⟨a, _, rfl, by rw [e]; rfl, fun i ρ M' => ∃ c3, ρ = [some (.int p), some (.obj a), some (.int (gl p (ws.take i))), c3, none] ∧ M' = M, ⟨_, rfl, rfl⟩, fun _ _ M' ⟨_, _, z⟩ => by show lstOf (M' a) = _; rw [z, e]; rfl, ?_, ?_⟩
      · rintro i d ρ M' hd ⟨c3, rfl, rfl⟩
        obtain ⟨y, rfl, hy⟩ := get_map hd
        have g0 := gl_pos (ws := ws.take i) p0
        have g1 := gl_le (ws := ws.take i) p0
        have wy := hw y (List.mem_of_getElem? hy)
        refine ⟨[some (.int p), some (.obj a), some (.int (gl p (ws.take i))), some (.int y), none], rfl, ?_⟩
        repeat' (k_extra "y")
        · exact wy
        · omega
        · exact ⟨_, by rw [take_succ' hy, gl_app]; rfl, rfl⟩
      · rintro ρ M' ⟨c3, rfl, rfl⟩
        rw [List.length_map, List.take_length]
        have g0 := gl_pos (ws := ws) p0
        have g1 := gl_le (ws := ws) p0
        refine wss_cons ?_
        refine ws_setLcG (own := ow_least_terms_0) (t := .nm 3) C (by k_extra "nm") (by k_extra "gl") rfl rfl (by decide +kernel) (by decide) (fun X' B => by have C' := C.blk (sc2 := nb_least_terms_0) B rfl (by decide +kernel); k_extra "tgt") (fun _ => rfl) ?_
        refine wi_list ?_
        repeat' (k_extra "y")
        refine ⟨a, _, rfl, by rw [e]; rfl, (ws.map (· / gl p ws)).map D.int, ⟨by rw [List.length_map]; omega, by simp, fun M5 x5 => (by show lstOf (M5 a) = _; rw [x5 _ _ e]; rfl), fun i d v M5 hd hv x5 => ?_⟩, fun pf M5 hpf e5 x5 => ⟨_, by k_extra "put", ?_⟩⟩
        · obtain ⟨y, rfl, hy⟩ := get_map hd
          have ez := get_map2 hv hy
          subst ez
          refine ⟨[some (.int p), some (.obj a), some (.int (gl p ws)), some (.int y), none], rfl, fun X' B => ?_⟩
          have C' := C.blk (sc2 := nb_least_terms_0) B rfl (by decide +kernel)
          repeat' (k_extra "y")
          · exact divW' g0 (by omega)
          · exact ⟨Ext.refl _, rfl⟩
        · have lw : ws.length = (ws.map (· / gl p ws)).length := by simp
          exact least_terms_rest C T ‹_› e5 (by simpa using hn) g0 (by omega) hpf x5 fun M6 x6 => by
            have := k M6 x6
            rw [low_fst, low_snd, lw] at this
            exact this
    · show WSs X _ _ [some (.int p), some (.tup (ws.map D.int)), none, none, none] M
      refine wss_cons ?_
      repeat' (k_extra "y")
      refine ws_for (t := .nm 3) C (by k_extra "tgt") (fun _ => rfl) ?_
      refine wi_tup ?_
      repeat' (k_extra "y")
      refine ⟨fun i ρ M' => ∃ c3, ρ = [some (.int p), some (.tup (ws.map D.int)), some (.int (gl p (ws.take i))), c3, none] ∧ M' = M, ⟨_, rfl, rfl⟩, fun _ _ _ _ => trivial, ?_, ?_⟩
      · rintro i d ρ M' hd ⟨c3, rfl, rfl⟩
        obtain ⟨y, rfl, hy⟩ := get_map hd
        have g0 := gl_pos (ws := ws.take i) p0
        have g1 := gl_le (ws := ws.take i) p0
        have wy := hw y (List.mem_of_getElem? hy)
        refine ⟨[some (.int p), some (.tup (ws.map D.int)), some (.int (gl p (ws.take i))), some (.int y), none], rfl, ?_⟩
        repeat' (k_extra "y")
        · exact wy
        · omega
        · exact ⟨_, by rw [take_succ' hy, gl_app]; rfl, rfl⟩
      · rintro ρ M' ⟨c3, rfl, rfl⟩
        rw [List.length_map, List.take_length]
        have g0 := gl_pos (ws := ws) p0
        have g1 := gl_le (ws := ws) p0
        refine wss_cons ?_
        refine ws_setLcG (own := ow_least_terms_0) (t := .nm 3) C (by k_extra "nm") (by k_extra "gl") rfl rfl (by decide +kernel) (by decide) (fun X' B => by have C' := C.blk (sc2 := nb_least_terms_0) B rfl (by decide +kernel); k_extra "tgt") (fun _ => rfl) ?_
        refine wi_tup ?_
        repeat' (k_extra "y")
        refine ⟨(ws.map (· / gl p ws)).map D.int, ⟨by rw [List.length_map]; omega, by simp, fun _ _ => trivial, fun i d v M5 hd hv x5 => ?_⟩, fun pf M5 hpf e5 x5 => ⟨_, by k_extra "put", ?_⟩⟩
        · obtain ⟨y, rfl, hy⟩ := get_map hd
          have ez := get_map2 hv hy
          subst ez
          refine ⟨[some (.int p), some (.tup (ws.map D.int)), some (.int (gl p ws)), some (.int y), none], rfl, fun X' B => ?_⟩
          have C' := C.blk (sc2 := nb_least_terms_0) B rfl (by decide +kernel)
          repeat' (k_extra "y")
          · exact divW' g0 (by omega)
          · exact ⟨Ext.refl _, rfl⟩
        · have lw : ws.length = (ws.map (· / gl p ws)).length := by simp
          exact least_terms_rest C T ‹_› e5 (by simpa using hn) g0 (by omega) hpf x5 fun M6 x6 => by
            have := k M6 x6
            rw [low_fst, low_snd, lw] at this
            exact this
/-! ### multiplied -/
abbrev s_multiplied : Stmt := top 22
theorem sc_multiplied : FnScope ["one", "other", "found", "place", "mine", "spot", "yours"] ["one", "other"] (defScope s_multiplied) := ⟨rfl, rfl, rfl, by decide +kernel, rfl, by decide +kernel, by decide +kernel⟩
abbrev nm_multiplied : Nms := ⟨["one", "other", "found", "place", "mine", "spot", "yours"], ["one", "other", "found", "place", "mine", "spot", "yours"], ["one", "other", "found", "place", "mine", "spot", "yours"], ["len", "enumerate"], []⟩
theorem no_multiplied : nm_multiplied.ok (defScope s_multiplied) = true := by decide +kernel
abbrev mu_out : List Stmt := forB (stAt (defBody s_multiplied) 1)
abbrev mu_in : List Stmt := forB (stAt mu_out 0)
theorem multiplied_in {X : Cx} {E : Ends2} (C : Cxt X ["one", "other", "found", "place", "mine", "spot", "yours"] nm_multiplied P w K mg base 0) (T : Txt mg)  : ∀ {M0 M : Mem} {d0 d1 : Option D} {pf : Addr} {xs : List Int} {i j : Nat} {u v x : Int}, M pf = some (.lst (xs.map D.int)) → M0 pf = none → Ext M0 M → xs[i + j]? = some x → Bd 100 u → Bd 100 v → (∀ M', M' pf = some (.lst ((xs.set (i + j) (x + u * v)).map D.int)) → Ext M0 M' → E.nx [d0, d1, some (.obj pf), some (.int (i : Nat)), some (.int u), some (.int (j : Nat)), some (.int v)] M') → WSs X mu_in E [d0, d1, some (.obj pf), some (.int (i : Nat)), some (.int u), some (.int (j : Nat)), some (.int v)] M := by
  intro M0 M d0 d1 pf xs i j u v x e f0 xt hx bu bv k
  refine wss_one ?_
  refine ws_augS (fun _ _ _ => rfl) ?_
  repeat' (k_extra "y")
  refine ⟨pf, _, _, i + j, x, rfl, rfl, e, ixN_nat (by omega) (by rw [List.length_map]; exact (List.getElem?_eq_some_iff.mp hx).1), by rw [List.getElem?_map, hx]; rfl, ?_⟩
  repeat' (k_extra "y")
  · exact mulW bu bv
  refine ⟨_, _, rfl, e, rfl, ?_⟩
  rw [set_ints]
  exact k _ mup_same (xt.put f0)
/-- the product when i of the rows are through, and j of the next one -/
def cp (a b : List Int) (i j t : Nat) : Int := sg (fun k => if k ≤ t then gt a k * gt b (t - k) else 0) i + (if i ≤ t ∧ t - i < j then gt a i * gt b (t - i) else 0)
def cpL (a b : List Int) (i j : Nat) : List Int := (List.range (a.length + b.length - 1)).map (cp a b i j)
theorem cpL_get {a b : List Int} {i j t : Nat} (h : t < a.length + b.length - 1) : (cpL a b i j)[t]? = some (cp a b i j t) := by
  unfold cpL
  rw [List.getElem?_map, List.getElem?_range h]
  rfl
theorem cpL_set {a b : List Int} {i j : Nat} (hi : i < a.length) (hj : j < b.length) : (cpL a b i j).set (i + j) (cp a b i j (i + j) + gt a i * gt b j) = cpL a b i (j + 1) := by
  apply List.ext_getElem?
  intro t
  rw [List.getElem?_set]
  by_cases c : t < a.length + b.length - 1
  · rw [cpL_get c]
    by_cases e : i + j = t
    · subst e
      rw [if_pos rfl, if_pos (by simp [cpL]; omega), cpL_get c]
      unfold cp
      rw [if_neg (by omega), if_pos (by omega), show i + j - i = j by omega, Int.add_zero]
    · rw [if_neg e, cpL_get c]
      unfold cp
      congr 2
      by_cases f : i ≤ t ∧ t - i < j
      · rw [if_pos f, if_pos (by omega)]
      · rw [if_neg f, if_neg (by omega)]
  · have h1 : (cpL a b i j)[t]? = none := List.getElem?_eq_none (by simp [cpL]; omega)
    have h2 : (cpL a b i (j + 1))[t]? = none := List.getElem?_eq_none (by simp [cpL]; omega)
    rw [h1, h2]
    split
    · rw [if_neg (by simp [cpL]; omega)]
    · rfl
theorem cpL_row {a b : List Int} {i : Nat} : cpL a b i b.length = cpL a b (i + 1) 0 := by
  unfold cpL
  refine List.map_congr_left fun t ht => ?_
  unfold cp
  rw [if_neg (show ¬ (i + 1 ≤ t ∧ t - (i + 1) < 0) by omega), Int.add_zero]
  simp only [sg]
  congr 1
  by_cases c : i ≤ t
  · rw [if_pos c]
    by_cases d : t - i < b.length
    · rw [if_pos ⟨c, d⟩]
    · rw [if_neg (by omega), gt_none (xs := b) (by omega), Int.mul_zero]
  · rw [if_neg c, if_neg (by omega)]
theorem cpL_zero {a b : List Int} : cpL a b 0 0 = List.replicate (a.length + b.length - 1) 0 := by
  apply List.ext_getElem?
  intro t
  by_cases c : t < a.length + b.length - 1
  · rw [cpL_get c, List.getElem?_replicate, if_pos c]
    unfold cp
    simp [sg]
  · rw [List.getElem?_eq_none (by simp [cpL]; omega), List.getElem?_eq_none (by simp; omega)]
theorem cpL_end {a b : List Int} : cpL a b a.length 0 = cvL a b := by
  unfold cpL cvL
  refine List.map_congr_left fun t ht => ?_
  unfold cp cv
  rw [if_neg (by omega), Int.add_zero]
theorem multiplied_out {X : Cx} {E : Ends2} (C : Cxt X ["one", "other", "found", "place", "mine", "spot", "yours"] nm_multiplied P w K mg base 0) (T : Txt mg)  : ∀ {M0 M : Mem} {pf : Addr} {a b : List Int} {i : Nat} {u : Int} {d5 d6 : Option D} {db : D} {d0 : Option D}, M pf = some (.lst ((cpL a b i 0).map D.int)) → M0 pf = none → Ext M0 M → a[i]? = some u → ((∃ q, db = .obj q ∧ M0 q = some (.lst (b.map D.int))) ∨ db = .tup (b.map D.int)) → Bd 100 u → (∀ x ∈ b, Bd 100 x) → (∀ M' c5 c6, M' pf = some (.lst ((cpL a b (i + 1) 0).map D.int)) → Ext M0 M' → E.nx [d0, some db, some (.obj pf), some (.int (i : Nat)), some (.int u), c5, c6] M') → WSs X mu_out E [d0, some db, some (.obj pf), some (.int (i : Nat)), some (.int u), d5, d6] M := by
  intro M0 M pf a b i u d5 d6 db d0 e f0 x hu hd bu bb k
  have hi : i < a.length := (List.getElem?_eq_some_iff.mp hu).1
  have gu := gt_some hu
  refine wss_one ?_
  rcases hd with ⟨q, rfl, eq⟩ | rfl
  · refine ws_for (t := .tp [.nm 5, .nm 6]) C (by k_extra "tgt") (fun _ => rfl) ?_
    k_extra "enL"
    repeat' (k_extra "y")
    have eqM := x _ _ eq
    refine ⟨q, _, rfl, lst_lst eqM, fun j ρ M' => ∃ c5 c6, ρ = [d0, some (.obj q), some (.obj pf), some (.int (i : Nat)), some (.int u), c5, c6] ∧ M' pf = some (.lst ((cpL a b i j).map D.int)) ∧ Ext M0 M', ⟨_, _, rfl, e, x⟩, fun _ _ M' ⟨_, _, _, _, z⟩ => (by exact lst_lst (z _ _ eq)), ?_, ?_⟩
    · rintro j d ρ M' hd ⟨c5, c6, rfl, e', x'⟩
      obtain ⟨f, hf, rfl⟩ := enumD_get hd
      obtain ⟨v, rfl, hv⟩ := get_map hf
      have hj : j < b.length := (List.getElem?_eq_some_iff.mp hv).1
      refine ⟨[d0, some (.obj q), some (.obj pf), some (.int (i : Nat)), some (.int u), some (.int (j : Nat)), some (.int v)], rfl, ?_⟩
      exact multiplied_in C T e' f0 x' (cpL_get (by omega)) bu (bb v (List.mem_of_getElem? hv)) fun M5 e5 x5 => ⟨_, _, rfl, by rw [e5, ← gu, ← gt_some hv, cpL_set hi hj], x5⟩
    · rintro ρ M' ⟨c5, c6, rfl, e', x'⟩
      rw [enumD_len, List.length_map, cpL_row] at e'
      exact k _ _ _ e' x'
  · refine ws_for (t := .tp [.nm 5, .nm 6]) C (by k_extra "tgt") (fun _ => rfl) ?_
    k_extra "enT"
    repeat' (k_extra "y")
    refine ⟨fun j ρ M' => ∃ c5 c6, ρ = [d0, some (.tup (b.map D.int)), some (.obj pf), some (.int (i : Nat)), some (.int u), c5, c6] ∧ M' pf = some (.lst ((cpL a b i j).map D.int)) ∧ Ext M0 M', ⟨_, _, rfl, e, x⟩, fun _ _ _ _ => trivial, ?_, ?_⟩
    · rintro j d ρ M' hd ⟨c5, c6, rfl, e', x'⟩
      obtain ⟨f, hf, rfl⟩ := enumD_get hd
      obtain ⟨v, rfl, hv⟩ := get_map hf
      have hj : j < b.length := (List.getElem?_eq_some_iff.mp hv).1
      refine ⟨[d0, some (.tup (b.map D.int)), some (.obj pf), some (.int (i : Nat)), some (.int u), some (.int (j : Nat)), some (.int v)], rfl, ?_⟩
      exact multiplied_in C T e' f0 x' (cpL_get (by omega)) bu (bb v (List.mem_of_getElem? hv)) fun M5 e5 x5 => ⟨_, _, rfl, by rw [e5, ← gu, ← gt_some hv, cpL_set hi hj], x5⟩
    · rintro ρ M' ⟨c5, c6, rfl, e', x'⟩
      rw [enumD_len, List.length_map, cpL_row] at e'
      exact k _ _ _ e' x'
def sp_multiplied : Sp2 := fun ds M Q _ => ∃ (da db : D) (a b : List Int), ds = [da, db] ∧ ((∃ q, da = .obj q ∧ M q = some (.lst (a.map D.int))) ∨ da = .tup (a.map D.int)) ∧ ((∃ q, db = .obj q ∧ M q = some (.lst (b.map D.int))) ∨ db = .tup (b.map D.int)) ∧ 1 ≤ a.length ∧ a.length ≤ 100 ∧ 1 ≤ b.length ∧ b.length ≤ 100 ∧ (∀ x ∈ a, Bd 100 x) ∧ (∀ x ∈ b, Bd 100 x) ∧ ∀ p M', M p = none → M' p = some (.lst ((cvL a b).map D.int)) → Ext M M' → Q (.obj p) M'
theorem ok_multiplied {f : Addr} {fd : FuncData} (F : Fun K "multiplied" "multiplied" s_multiplied f fd) (T : Txt mg)  : Fn2 P w K mg base CX0 1 f fd ["one", "other"] sp_multiplied := by
  refine fn2_of F sc_multiplied no_multiplied (fun ds M Q E h => ?_) (fun X ds M Q E C h => ?_)
  · repeat (first | (obtain ⟨rfl, _⟩ := h; rfl) | (obtain ⟨_, h⟩ := h))
  · obtain ⟨da, db, a, b, rfl, ha, hb, la, la2, lb, lb2, ba, bb, k⟩ := h
    have s999 : 999 ≤ sizeLine := by decide
    have ia : ∀ {M' : Mem}, Ext M M' → itemsOf M' da = some (a.map D.int) := fun x => ha.elim (fun ⟨q, e, h⟩ => by subst e; exact items_lst (x _ _ h)) fun e => by subst e; rfl
    have ib : ∀ {M' : Mem}, Ext M M' → itemsOf M' db = some (b.map D.int) := fun x => hb.elim (fun ⟨q, e, h⟩ => by subst e; exact items_lst (x _ _ h)) fun e => by subst e; rfl
    show WSs X _ _ [some da, some db, none, none, none, none, none] M
    refine wss_cons ?_
    repeat' (k_extra "y")
    intro p0 hp0
    have x0 := Ext.new (M := M) (o := .lst [.int 0]) hp0
    have ia0 := ia x0
    have ib0 := ib x0
    repeat' (k_extra "y")
    refine ⟨_, mup_same, by simp only [List.length_map]; omega, by simp only [List.length_map]; omega, by simp only [List.length_map, List.length_cons, List.length_nil]; omega, fun pf hpf => ?_⟩
    have eL : (List.replicate ((((a.map D.int).length : Nat) : Int) + (((b.map D.int).length : Nat) : Int) - 1).toNat [D.int 0]).flatten = (cpL a b 0 0).map D.int := by
      rw [cpL_zero, List.length_map, List.length_map, show ((a.length : Int) + (b.length : Int) - 1).toNat = a.length + b.length - 1 by omega, List.map_replicate]
      generalize a.length + b.length - 1 = n
      induction n with
      | zero => rfl
      | succ n ih => rw [List.replicate_succ, List.replicate_succ, List.flatten_cons, ih]; rfl
    rw [eL]
    have f0 : M pf = none := x0.free hpf
    have x1 : Ext M (mup (mup M p0 (.lst [.int 0])) pf (.lst ((cpL a b 0 0).map D.int))) := x0.trans (Ext.new hpf)
    have e1 : mup (mup M p0 (.lst [.int 0])) pf (.lst ((cpL a b 0 0).map D.int)) pf = some (.lst ((cpL a b 0 0).map D.int)) := mup_same
    generalize mup (mup M p0 (.lst [.int 0])) pf (.lst ((cpL a b 0 0).map D.int)) = M1 at x1 e1 ⊢
    clear ia0 ib0 x0 hpf eL
    repeat' (k_extra "y")
    rcases ha with ⟨q, rfl, eq⟩ | rfl
    · refine ws_for (t := .tp [.nm 3, .nm 4]) C (by k_extra "tgt") (fun _ => rfl) ?_
      k_extra "enL"
      repeat' (k_extra "y")
      refine ⟨q, _, rfl, lst_lst (x1 _ _ eq), fun i ρ M' => ∃ c3 c4 c5 c6, ρ = [some (.obj q), some db, some (.obj pf), c3, c4, c5, c6] ∧ M' pf = some (.lst ((cpL a b i 0).map D.int)) ∧ Ext M M', ⟨_, _, _, _, rfl, e1, x1⟩, fun _ _ M' ⟨_, _, _, _, _, _, z⟩ => (by exact lst_lst (z _ _ eq)), ?_, ?_⟩
      · rintro i d ρ M' hd ⟨c3, c4, c5, c6, rfl, e', x'⟩
        obtain ⟨f, hf, rfl⟩ := enumD_get hd
        obtain ⟨u, rfl, hu⟩ := get_map hf
        refine ⟨[some (.obj q), some db, some (.obj pf), some (.int (i : Nat)), some (.int u), c5, c6], rfl, ?_⟩
        exact multiplied_out C T e' f0 x' hu hb (ba u (List.mem_of_getElem? hu)) bb fun M5 c5 c6 e5 x5 => ⟨_, _, _, _, rfl, e5, x5⟩
      · rintro ρ M' ⟨c3, c4, c5, c6, rfl, e', x'⟩
        rw [enumD_len, List.length_map, cpL_end] at e'
        repeat' (k_extra "y")
        exact k _ _ f0 e' x'
    · refine ws_for (t := .tp [.nm 3, .nm 4]) C (by k_extra "tgt") (fun _ => rfl) ?_
      k_extra "enT"
      repeat' (k_extra "y")
      refine ⟨fun i ρ M' => ∃ c3 c4 c5 c6, ρ = [some (.tup (a.map D.int)), some db, some (.obj pf), c3, c4, c5, c6] ∧ M' pf = some (.lst ((cpL a b i 0).map D.int)) ∧ Ext M M', ⟨_, _, _, _, rfl, e1, x1⟩, fun _ _ _ _ => trivial, ?_, ?_⟩
      · rintro i d ρ M' hd ⟨c3, c4, c5, c6, rfl, e', x'⟩
        obtain ⟨f, hf, rfl⟩ := enumD_get hd
        obtain ⟨u, rfl, hu⟩ := get_map hf
        refine ⟨[some (.tup (a.map D.int)), some db, some (.obj pf), some (.int (i : Nat)), some (.int u), c5, c6], rfl, ?_⟩
        exact multiplied_out C T e' f0 x' hu hb (ba u (List.mem_of_getElem? hu)) bb fun M5 c5 c6 e5 x5 => ⟨_, _, _, _, rfl, e5, x5⟩
      · rintro ρ M' ⟨c3, c4, c5, c6, rfl, e', x'⟩
        rw [enumD_len, List.length_map, cpL_end] at e'
        repeat' (k_extra "y")
        exact k _ _ f0 e' x'
/-! ### told_of -/
abbrev s_told_of : Stmt := top 23
theorem sc_told_of : FnScope ["parts", "weights", "demands", "calm", "found", "spot", "whole", "back", "one"] ["parts", "weights", "demands", "calm"] (defScope s_told_of) := ⟨rfl, rfl, rfl, by decide +kernel, rfl, by decide +kernel, by decide +kernel⟩
abbrev nm_told_of : Nms := ⟨["parts", "weights", "demands", "calm", "found", "spot", "whole", "back", "one"], ["parts", "weights", "demands", "calm", "found", "spot", "whole", "back", "one"], ["parts", "weights", "demands", "calm", "found", "spot", "whole", "back", "one"], ["range", "len", "enumerate"], []⟩
theorem no_told_of : nm_told_of.ok (defScope s_told_of) = true := by decide +kernel
abbrev td_out : List Stmt := forB (stAt (defBody s_told_of) 1)
/-- the demand of a day, one of all days ahead for those before the first -/
def dm (ns : List Int) (c : Int) (i : Int) : Int := if i < 0 then c else gt ns i.toNat
theorem od_take {w : List Int} {f : Int → Int} {K : Int} {i : Nat} {y : Int} (h : w[i]? = some y) : sg (fun t => gt w t * f (K - t)) (i + 1) = sg (fun t => gt w t * f (K - t)) i + y * f (K - i) := by
  simp only [sg]
  rw [gt_some h]
theorem told_of_day {X : Cx} {E : Ends2} (C : Cxt X ["parts", "weights", "demands", "calm", "found", "spot", "whole", "back", "one"] nm_told_of P w K mg base 0) (T : Txt mg)  : ∀ {M : Mem} {pf : Addr} {ws ns : List Int} {xs : List D} {c : Int} {s : Nat} {d0 d6 d7 d8 : Option D}, M pf = some (.lst xs) → xs.length < 1000 → s < ns.length → (∀ x ∈ ws, Bd 60 x) → (∀ x ∈ ns, Bd 60 x) → Bd 60 c → (∀ M' c6 c7 c8, M' = mup M pf (.lst (xs ++ [.int (od ws (dm ns c) s)])) → E.nx [d0, some (.tup (ws.map D.int)), some (.tup (ns.map D.int)), some (.int c), some (.obj pf), some (.int (s : Nat)), c6, c7, c8] M') → WSs X td_out E [d0, some (.tup (ws.map D.int)), some (.tup (ns.map D.int)), some (.int c), some (.obj pf), some (.int (s : Nat)), d6, d7, d8] M := by
  intro M pf ws ns xs c s d0 d6 d7 d8 e xl hs bw bn bc k
  have s999 : 1000 ≤ sizeLine := by decide
  refine wss_cons ?_
  repeat' (k_extra "y")
  refine ws_for (t := .tp [.nm 7, .nm 8]) C (by k_extra "tgt") (fun _ => rfl) ?_
  k_extra "enT"
  repeat' (k_extra "y")
  refine ⟨fun i ρ M' => ∃ c7 c8, ρ = [d0, some (.tup (ws.map D.int)), some (.tup (ns.map D.int)), some (.int c), some (.obj pf), some (.int (s : Nat)), some (.int (sg (fun t => gt ws t * dm ns c (s - t)) i)), c7, c8] ∧ M' = M, ⟨_, _, rfl, rfl⟩, fun _ _ _ _ => trivial, ?_, ?_⟩
  · rintro i d ρ M' hd ⟨c7, c8, rfl, rfl⟩
    obtain ⟨f, hf, rfl⟩ := enumD_get hd
    obtain ⟨y, rfl, hy⟩ := get_map hf
    refine ⟨[d0, some (.tup (ws.map D.int)), some (.tup (ns.map D.int)), some (.int c), some (.obj pf), some (.int (s : Nat)), some (.int (sg (fun t => gt ws t * dm ns c (s - t)) i)), some (.int (i : Nat)), some (.int y)], rfl, ?_⟩
    have bd : Bd 60 (dm ns c (s - i)) := by
      unfold dm
      split
      · exact bc
      · obtain ⟨z, hz⟩ : ∃ z, ns[((s : Int) - i).toNat]? = some z := ⟨_, List.getElem?_eq_getElem (by omega)⟩
        rw [gt_some hz]
        exact bn z (List.mem_of_getElem? hz)
    repeat' (k_extra "y")
    refine Br.joinE (.int (dm ns c (s - i))) (fun q => ?_) (fun q => ?_) ?_
    · obtain ⟨z, hz⟩ : ∃ z, ns[s - i]? = some z := ⟨_, List.getElem?_eq_getElem (by omega)⟩
      repeat' (k_extra "y")
      refine q_ixK rfl (n := s - i) (ixN_nat (by omega) (by omega)) hz ?_
      refine ⟨?_, rfl⟩
      unfold dm
      rw [if_neg (by omega), show ((s : Int) - i).toNat = s - i by omega, gt_some hz]
    · repeat' (k_extra "y")
      refine ⟨?_, rfl⟩
      unfold dm
      rw [if_pos (by omega)]
    repeat' (k_extra "y")
    · exact mulW (bw y (List.mem_of_getElem? hy)) bd
    · exact ⟨_, _, by rw [od_take hy], rfl⟩
  · rintro ρ M' ⟨c7, c8, rfl, rfl⟩
    rw [enumD_len, List.length_map]
    repeat' (k_extra "y")
    refine ⟨pf, _, rfl, e, ?_⟩
    repeat' (k_extra "y")
    refine ⟨_, e, by omega, k _ _ _ _ rfl⟩
def odL (ws ns : List Int) (c : Int) : List Int := (List.range ns.length).map fun s => od ws (dm ns c) (s : Nat)
def sp_told_of : Sp2 := fun ds M Q _ => ∃ (p : D) (ws ns : List Int) (c : Int), ds = [p, .tup (ws.map D.int), .tup (ns.map D.int), .int c] ∧ ns.length ≤ 400 ∧ (∀ x ∈ ws, Bd 60 x) ∧ (∀ x ∈ ns, Bd 60 x) ∧ Bd 60 c ∧ ∀ p M', M p = none → M' = mup M p (.lst ((odL ws ns c).map D.int)) → Q (.obj p) M'
theorem ok_told_of {f : Addr} {fd : FuncData} (F : Fun K "told_of" "told_of" s_told_of f fd) (T : Txt mg)  : Fn2 P w K mg base CX0 1 f fd ["parts", "weights", "demands", "calm"] sp_told_of := by
  refine fn2_of F sc_told_of no_told_of (fun ds M Q E h => ?_) (fun X ds M Q E C h => ?_)
  · repeat (first | (obtain ⟨rfl, _⟩ := h; rfl) | (obtain ⟨_, h⟩ := h))
  · obtain ⟨p, ws, ns, c, rfl, nl, bw, bn, bc, k⟩ := h
    show WSs X _ _ [some p, some (.tup (ws.map D.int)), some (.tup (ns.map D.int)), some (.int c), none, none, none, none, none] M
    refine wss_cons ?_
    repeat' (k_extra "y")
    intro pf hpf
    repeat' (k_extra "y")
    refine ws_for (t := .nm 5) C (by k_extra "tgt") (fun _ => rfl) ?_
    repeat' (k_extra "y")
    refine ⟨by rw [List.length_map]; omega, by rw [List.length_map]; omega, fun i ρ M' => ∃ c5 c6 c7 c8, ρ = [some p, some (.tup (ws.map D.int)), some (.tup (ns.map D.int)), some (.int c), some (.obj pf), c5, c6, c7, c8] ∧ M' = mup M pf (.lst (((List.range i).map fun s => od ws (dm ns c) (s : Nat)).map D.int)), ⟨_, _, _, _, rfl, rfl⟩, fun _ _ _ _ => trivial, ?_, ?_⟩
    · rintro i d ρ M' hd ⟨c5, c6, c7, c8, rfl, rfl⟩
      obtain ⟨hi, rfl⟩ := rng_get hd
      rw [List.length_map] at hi
      have hi : i < ns.length := by omega
      rw [show (0 : Int) + (i : Nat) = (i : Nat) by omega]
      refine ⟨[some p, some (.tup (ws.map D.int)), some (.tup (ns.map D.int)), some (.int c), some (.obj pf), some (.int (i : Nat)), c6, c7, c8], rfl, ?_⟩
      exact told_of_day C T mup_same (by simp; omega) hi bw bn bc fun M5 c6 c7 c8 e5 => ⟨_, _, _, _, rfl, by rw [e5, mup_mup, List.range_succ, List.map_append, List.map_append]; rfl⟩
    · rintro ρ M' ⟨c5, c6, c7, c8, rfl, rfl⟩
      rw [List.length_map, List.length_range, List.length_map]
      repeat' (k_extra "y")
      exact k pf _ hpf rfl
/-! ### need_demands -/
abbrev s_need_demands : Stmt := top 12
theorem sc_need_demands : FnScope ["demands", "number", "demand"] ["demands"] (defScope s_need_demands) := ⟨rfl, rfl, rfl, by decide +kernel, rfl, by decide +kernel, by decide +kernel⟩
abbrev nm_need_demands : Nms := ⟨["demands", "number", "demand"], ["demands", "number", "demand"], ["demands", "number", "demand"], ["isinstance", "list", "tuple", "len", "MOST_DAYS", "BadDemand", "enumerate", "is_whole", "MOST_DEMAND"], []⟩
theorem no_need_demands : nm_need_demands.ok (defScope s_need_demands) = true := by decide +kernel
def sp_need_demands : Sp2 := fun ds M Q _ => ∃ (d : D) (ns : List Int), ds = [d] ∧ ((∃ a, d = .obj a ∧ M a = some (.lst (ns.map D.int))) ∨ d = .tup (ns.map D.int)) ∧ ns.length ≤ 400 ∧ (∀ x ∈ ns, 0 ≤ x ∧ x ≤ 9) ∧ Q (.tup (ns.map D.int)) M
theorem ok_need_demands {f : Addr} {fd : FuncData} (F : Fun K "need_demands" "need_demands" s_need_demands f fd) (T : Txt mg) (G_is_whole : Def2 P w K mg base CX0 1 "is_whole" ["value", "least", "most"] sp_is_whole) : Fn2 P w K mg base CX0 2 f fd ["demands"] sp_need_demands := by
  refine fn2_of F sc_need_demands no_need_demands (fun ds M Q E h => ?_) (fun X ds M Q E C h => ?_)
  · repeat (first | (obtain ⟨rfl, _⟩ := h; rfl) | (obtain ⟨_, h⟩ := h))
  · obtain ⟨d, ns, rfl, e, hl, hn, k⟩ := h
    rcases e with ⟨a, rfl, e⟩ | rfl
    · show WSs X _ _ [some (.obj a), none, none] M
      refine wss_cons ?_
      repeat' (k_extra "y")
      refine ws_for (t := .tp [.nm 1, .nm 2]) C (by k_extra "tgt") (fun _ => rfl) ?_
      k_extra "enL"
      repeat' (k_extra "y")
      refine ⟨a, _, rfl, lst_lst e, fun i ρ M' => ∃ u v, ρ = [some (.obj a), u, v] ∧ M' = M, ⟨_, _, rfl, rfl⟩, fun _ _ _ ⟨_, _, _, z⟩ => by rw [z]; exact lst_lst e, ?_, ?_⟩
      · rintro i d ρ M' hd ⟨u, v, rfl, rfl⟩
        obtain ⟨f, hf, rfl⟩ := enumD_get hd
        obtain ⟨z, rfl, hz⟩ := get_map hf
        have ⟨z0, z1⟩ := hn z (List.mem_of_getElem? hz)
        refine ⟨[some (.obj a), some (.int (i : Nat)), some (.int z)], rfl, ?_⟩
        repeat' (k_extra "y")
        exact ⟨_, _, rfl, rfl⟩
      · rintro ρ M' ⟨u, v, rfl, rfl⟩
        repeat' (k_extra "y")
        exact k
    · show WSs X _ _ [some (.tup (ns.map D.int)), none, none] M
      refine wss_cons ?_
      repeat' (k_extra "y")
      refine ws_for (t := .tp [.nm 1, .nm 2]) C (by k_extra "tgt") (fun _ => rfl) ?_
      k_extra "enT"
      repeat' (k_extra "y")
      refine ⟨fun i ρ M' => ∃ u v, ρ = [some (.tup (ns.map D.int)), u, v] ∧ M' = M, ⟨_, _, rfl, rfl⟩, fun _ _ _ _ => trivial, ?_, ?_⟩
      · rintro i d ρ M' hd ⟨u, v, rfl, rfl⟩
        obtain ⟨f, hf, rfl⟩ := enumD_get hd
        obtain ⟨z, rfl, hz⟩ := get_map hf
        have ⟨z0, z1⟩ := hn z (List.mem_of_getElem? hz)
        refine ⟨[some (.tup (ns.map D.int)), some (.int (i : Nat)), some (.int z)], rfl, ?_⟩
        repeat' (k_extra "y")
        exact ⟨_, _, rfl, rfl⟩
      · rintro ρ M' ⟨u, v, rfl, rfl⟩
        repeat' (k_extra "y")
        exact k
/-! ### _law_gcd -/
abbrev s__law_gcd : Stmt := top 40
theorem sc__law_gcd : FnScope ["_law_one", "_law_other"] ["_law_one", "_law_other"] (defScope s__law_gcd) := ⟨rfl, rfl, rfl, by decide +kernel, rfl, by decide +kernel, by decide +kernel⟩
abbrev nm__law_gcd : Nms := ⟨["_law_one", "_law_other"], ["_law_one", "_law_other"], ["_law_one", "_law_other"], ["abs", "int"], []⟩
theorem no__law_gcd : nm__law_gcd.ok (defScope s__law_gcd) = true := by decide +kernel
def sp__law_gcd : Sp2 := fun ds M Q _ => ∃ a b : Int, ds = [.int a, .int b] ∧ b.natAbs < 1152921504606846976 ∧ a.natAbs < 1152921504606846976 ∧ Q (.int (Int.gcd a b : Nat)) M
theorem st__law_gcd {M : Mem} {Q : QE} {E : XQ} {a b : Int} (h : b.natAbs < 1152921504606846976) (h2 : a.natAbs < 1152921504606846976) (q : Q (.int (Int.gcd a b : Nat)) M) : sp__law_gcd [.int a, .int b] M Q E := ⟨a, b, rfl, h, h2, q⟩
theorem ok__law_gcd {f : Addr} {fd : FuncData} (F : Fun K "_law_gcd" "_law_gcd" s__law_gcd f fd) (T : Txt mg)  : Fn2 P w K mg base CX0 1 f fd ["_law_one", "_law_other"] sp__law_gcd := by
  refine fn2_of F sc__law_gcd no__law_gcd (fun ds M Q E h => ?_) (fun X ds M Q E C h => ?_)
  · repeat (first | (obtain ⟨rfl, _⟩ := h; rfl) | (obtain ⟨_, h⟩ := h))
  · obtain ⟨a, b, rfl, hb, ha, k⟩ := h
    show WSs X _ _ [some (.int a), some (.int b)] M
    refine wss_cons ?_
    repeat' (k_extra "y")
    rw [abs_nat, abs_nat]
    refine ws_while C (fun m ρ' M' => ∃ x y : Nat, ρ' = [some (.int (x : Nat)), some (.int (y : Nat))] ∧ M' = M ∧ Nat.gcd x y = Int.gcd a b ∧ x < 1152921504606846976 ∧ y < 1152921504606846976 ∧ m = y) b.natAbs ⟨a.natAbs, b.natAbs, rfl, rfl, rfl, ha, hb, rfl⟩ ?_
    rintro m ρ' M' ⟨x, y, rfl, rfl, hg, hx, hy, hm⟩
    repeat' (k_extra "y")
    refine Br.dec (fun c => ?_) fun c => ?_
    · have c : 0 < y := by omega
      repeat' (k_extra "y")
      · omega
      · rw [gcd_step x y c]
        have e : Nat.gcd y (x % y) = Nat.gcd x y := (Nat.gcd_comm y (x % y)).trans ((Nat.gcd_rec y x).symm.trans (Nat.gcd_comm y x))
        have l := Nat.mod_lt x c
        exact ⟨x % y, by omega, y, x % y, rfl, rfl, e.trans hg, hy, by omega, rfl⟩
    · have c : y = 0 := by omega
      subst c
      repeat' (k_extra "y")
      rw [Nat.gcd_zero_right] at hg
      rw [hg]
      exact k
example : True := by
  k_with "lq" => first | with_reducible apply st__law_gcd | fail
  trivial
/-! ### _law_lowest -/
abbrev s__law_lowest : Stmt := top 41
theorem sc__law_lowest : FnScope ["_law_parts", "_law_weights", "_law_whole", "_law_one", "_law_found"] ["_law_parts", "_law_weights"] (defScope s__law_lowest) := ⟨rfl, rfl, rfl, by decide +kernel, rfl, by decide +kernel, by decide +kernel⟩
abbrev nm__law_lowest : Nms := ⟨["_law_parts", "_law_weights", "_law_whole", "_law_one", "_law_found"], ["_law_parts", "_law_weights", "_law_whole", "_law_one", "_law_found"], ["_law_parts", "_law_weights", "_law_one", "_law_found"], ["_law_gcd", "len", "tuple"], ["_law_whole"]⟩
theorem no__law_lowest : nm__law_lowest.ok (defScope s__law_lowest) = true := by decide +kernel
abbrev nb__law_lowest_0 : Nms := ⟨["_law_one", "_law_whole"], ["_law_one"], ["_law_one"], [], ["_law_whole"]⟩
abbrev ow__law_lowest_0 : List (Str × Nat) := [("_law_one", 3)]
abbrev ll_rest : List Stmt := (defBody s__law_lowest).drop 3
theorem _law_lowest_rest {X : Cx} {E : Ends2} (C : Cxt X ["_law_parts", "_law_weights", "_law_whole", "_law_one", "_law_found"] nm__law_lowest P w K mg base 1) (T : Txt mg) (G__law_gcd : Def2 P w K mg base CX0 1 "_law_gcd" ["_law_one", "_law_other"] sp__law_gcd) : ∀ {M0 M : Mem} {p g : Int} {xs : List Int} {pf : Addr} {d1 d3 : Option D}, M pf = some (.lst (xs.map D.int)) → xs ≠ [] → 0 < g → g < 1152921504606846976 → M0 pf = none → Ext M0 M → (∀ M', Ext M0 M' → E.rt (.tup [.int (p / g), .tup ((trm xs.length xs).map D.int)]) M') → WSs X ll_rest E [some (.int p), d1, some (.int g), d3, some (.obj pf)] M := by
  intro M0 M p g xs pf d1 d3 e hx g0 g1 f0 x k
  refine wss_cons ?_
  refine ws_while C (fun m ρ' M' => ∃ (ys : List Int) (q : Addr), ρ' = [some (.int p), d1, some (.int g), d3, some (.obj q)] ∧ M' q = some (.lst (ys.map D.int)) ∧ Ext M0 M' ∧ ys ≠ [] ∧ trm ys.length ys = trm xs.length xs ∧ m = ys.length) xs.length ⟨xs, pf, rfl, e, x, hx, rfl, rfl⟩ ?_
  rintro m ρ' M' ⟨ys, q, rfl, e', x', hy, ht, hm⟩
  obtain ⟨zs, z, rfl⟩ : ∃ zs z, ys = zs ++ [z] := ⟨ys.dropLast, ys.getLast hy, (List.dropLast_concat_getLast hy).symm⟩
  repeat' (k_extra "y")
  have fin : ¬ (1 < (zs ++ [z]).length ∧ (zs ++ [z]).getLast? = some 0) → WSs X (ll_rest.drop 1) E [some (.int p), d1, some (.int g), d3, some (.obj q)] M' := by
    intro hn
    have ez := trm_stop hn ht
    rw [← ez] at k
    refine wss_cons ?_
    repeat' (k_extra "y")
    · exact divW' g0 g1
    · exact k _ x'
  refine Br.dec (fun c1 => ?_) fun c1 => ?_
  · repeat' (k_extra "y")
    refine q_ixL (items_lst e') (x := z) (by simp) ?_
    repeat' (k_extra "y")
    refine Br.dec (fun c2 => ?_) fun c2 => ?_
    · subst c2
      repeat' (k_extra "y")
      refine q_slL e' ?_
      rw [cut_init]
      intro q2 hq2
      repeat' (k_extra "y")
      have l2 : 1 < (zs ++ [(0 : Int)]).length := by rw [List.length_map] at c1; omega
      have ht' := ht
      rw [show (zs ++ [(0 : Int)]).length = zs.length + 1 by simp] at ht'
      have h5 := trm_last l2 (by simp) ht'
      rw [List.dropLast_concat] at h5
      refine ⟨zs.length, by rw [hm]; simp, zs, q2, rfl, by rw [mup_same, ← List.map_dropLast, List.dropLast_concat], x'.trans (Ext.new hq2), ?_, h5, rfl⟩
      intro z0
      subst z0
      simp at l2
    · exact fin fun ⟨_, h2⟩ => c2 (by simpa using h2)
  · have fin2 := fin fun ⟨h1, _⟩ => c1 (by rw [List.length_map]; omega)
    exact Br.f fin2
def sp__law_lowest : Sp2 := fun ds M Q _ => ∃ (p : Int) (ws : List Int) (d : D), ds = [.int p, d] ∧ ((∃ a, d = .obj a ∧ M a = some (.lst (ws.map D.int))) ∨ d = .tup (ws.map D.int)) ∧ 0 < p ∧ p < 1152921504606846976 ∧ ws ≠ [] ∧ ws.length ≤ 100 ∧ (∀ x ∈ ws, x.natAbs < 1152921504606846976) ∧ ∀ M', Ext M M' → Q (lnD (low p ws).1 (low p ws).2) M'
theorem ok__law_lowest {f : Addr} {fd : FuncData} (F : Fun K "_law_lowest" "_law_lowest" s__law_lowest f fd) (T : Txt mg) (G__law_gcd : Def2 P w K mg base CX0 1 "_law_gcd" ["_law_one", "_law_other"] sp__law_gcd) : Fn2 P w K mg base CX0 2 f fd ["_law_parts", "_law_weights"] sp__law_lowest := by
  refine fn2_of F sc__law_lowest no__law_lowest (fun ds M Q E h => ?_) (fun X ds M Q E C h => ?_)
  · repeat (first | (obtain ⟨rfl, _⟩ := h; rfl) | (obtain ⟨_, h⟩ := h))
  · obtain ⟨p, ws, d, rfl, hd, p0, p1, hn, hl, hw, k⟩ := h
    have l9 : 100 ≤ sizeLine := by decide
    rcases hd with ⟨a, rfl, e⟩ | rfl
    · show WSs X _ _ [some (.int p), some (.obj a), none, none, none] M
      refine wss_cons ?_
      repeat' (k_extra "y")
      refine ws_for (t := .nm 3) C (by k_extra "tgt") (fun _ => rfl) ?_
      refine wi_list ?_
      repeat' (k_extra "y")
      refine ⟨a, _, rfl, by rw [e]; rfl, fun i ρ M' => ∃ c3, ρ = [some (.int p), some (.obj a), some (.int (gl p (ws.take i))), c3, none] ∧ M' = M, ⟨_, rfl, rfl⟩, fun _ _ M' ⟨_, _, z⟩ => by show lstOf (M' a) = _; rw [z, e]; rfl, ?_, ?_⟩
      · rintro i d ρ M' hd ⟨c3, rfl, rfl⟩
        obtain ⟨y, rfl, hy⟩ := get_map hd
        have g0 := gl_pos (ws := ws.take i) p0
        have g1 := gl_le (ws := ws.take i) p0
        have wy := hw y (List.mem_of_getElem? hy)
        refine ⟨[some (.int p), some (.obj a), some (.int (gl p (ws.take i))), some (.int y), none], rfl, ?_⟩
        repeat' (k_extra "y")
        · exact wy
        · omega
        · exact ⟨_, by rw [take_succ' hy, gl_app]; rfl, rfl⟩
      · rintro ρ M' ⟨c3, rfl, rfl⟩
        rw [List.length_map, List.take_length]
        have g0 := gl_pos (ws := ws) p0
        have g1 := gl_le (ws := ws) p0
        refine wss_cons ?_
        refine ws_setLcG (own := ow__law_lowest_0) (t := .nm 3) C (by k_extra "nm") (by k_extra "gl") rfl rfl (by decide +kernel) (by decide) (fun X' B => by have C' := C.blk (sc2 := nb__law_lowest_0) B rfl (by decide +kernel); k_extra "tgt") (fun _ => rfl) ?_
        refine wi_list ?_
        repeat' (k_extra "y")
        refine ⟨a, _, rfl, by rw [e]; rfl, (ws.map (· / gl p ws)).map D.int, ⟨by rw [List.length_map]; omega, by simp, fun M5 x5 => (by show lstOf (M5 a) = _; rw [x5 _ _ e]; rfl), fun i d v M5 hd hv x5 => ?_⟩, fun pf M5 hpf e5 x5 => ⟨_, by k_extra "put", ?_⟩⟩
        · obtain ⟨y, rfl, hy⟩ := get_map hd
          have ez := get_map2 hv hy
          subst ez
          refine ⟨[some (.int p), some (.obj a), some (.int (gl p ws)), some (.int y), none], rfl, fun X' B => ?_⟩
          have C' := C.blk (sc2 := nb__law_lowest_0) B rfl (by decide +kernel)
          repeat' (k_extra "y")
          · exact divW' g0 (by omega)
          · exact ⟨Ext.refl _, rfl⟩
        · have lw : ws.length = (ws.map (· / gl p ws)).length := by simp
          exact _law_lowest_rest C T ‹_› e5 (by simpa using hn) g0 (by omega) hpf x5 fun M6 x6 => by
            have := k M6 x6
            rw [low_fst, low_snd, lw] at this
            exact this
    · show WSs X _ _ [some (.int p), some (.tup (ws.map D.int)), none, none, none] M
      refine wss_cons ?_
      repeat' (k_extra "y")
      refine ws_for (t := .nm 3) C (by k_extra "tgt") (fun _ => rfl) ?_
      refine wi_tup ?_
      repeat' (k_extra "y")
      refine ⟨fun i ρ M' => ∃ c3, ρ = [some (.int p), some (.tup (ws.map D.int)), some (.int (gl p (ws.take i))), c3, none] ∧ M' = M, ⟨_, rfl, rfl⟩, fun _ _ _ _ => trivial, ?_, ?_⟩
      · rintro i d ρ M' hd ⟨c3, rfl, rfl⟩
        obtain ⟨y, rfl, hy⟩ := get_map hd
        have g0 := gl_pos (ws := ws.take i) p0
        have g1 := gl_le (ws := ws.take i) p0
        have wy := hw y (List.mem_of_getElem? hy)
        refine ⟨[some (.int p), some (.tup (ws.map D.int)), some (.int (gl p (ws.take i))), some (.int y), none], rfl, ?_⟩
        repeat' (k_extra "y")
        · exact wy
        · omega
        · exact ⟨_, by rw [take_succ' hy, gl_app]; rfl, rfl⟩
      · rintro ρ M' ⟨c3, rfl, rfl⟩
        rw [List.length_map, List.take_length]
        have g0 := gl_pos (ws := ws) p0
        have g1 := gl_le (ws := ws) p0
        refine wss_cons ?_
        refine ws_setLcG (own := ow__law_lowest_0) (t := .nm 3) C (by k_extra "nm") (by k_extra "gl") rfl rfl (by decide +kernel) (by decide) (fun X' B => by have C' := C.blk (sc2 := nb__law_lowest_0) B rfl (by decide +kernel); k_extra "tgt") (fun _ => rfl) ?_
        refine wi_tup ?_
        repeat' (k_extra "y")
        refine ⟨(ws.map (· / gl p ws)).map D.int, ⟨by rw [List.length_map]; omega, by simp, fun _ _ => trivial, fun i d v M5 hd hv x5 => ?_⟩, fun pf M5 hpf e5 x5 => ⟨_, by k_extra "put", ?_⟩⟩
        · obtain ⟨y, rfl, hy⟩ := get_map hd
          have ez := get_map2 hv hy
          subst ez
          refine ⟨[some (.int p), some (.tup (ws.map D.int)), some (.int (gl p ws)), some (.int y), none], rfl, fun X' B => ?_⟩
          have C' := C.blk (sc2 := nb__law_lowest_0) B rfl (by decide +kernel)
          repeat' (k_extra "y")
          · exact divW' g0 (by omega)
          · exact ⟨Ext.refl _, rfl⟩
        · have lw : ws.length = (ws.map (· / gl p ws)).length := by simp
          exact _law_lowest_rest C T ‹_› e5 (by simpa using hn) g0 (by omega) hpf x5 fun M6 x6 => by
            have := k M6 x6
            rw [low_fst, low_snd, lw] at this
            exact this
/-! ### _law_times -/
abbrev s__law_times : Stmt := top 42
theorem sc__law_times : FnScope ["_law_one", "_law_other", "_law_found", "_law_place", "_law_k"] ["_law_one", "_law_other"] (defScope s__law_times) := ⟨rfl, rfl, rfl, by decide +kernel, rfl, by decide +kernel, by decide +kernel⟩
abbrev nm__law_times : Nms := ⟨["_law_one", "_law_other", "_law_found", "_law_place"], ["_law_one", "_law_other", "_law_found", "_law_place"], ["_law_found"], ["range", "len", "sum"], ["_law_one", "_law_other", "_law_place"]⟩
theorem no__law_times : nm__law_times.ok (defScope s__law_times) = true := by decide +kernel
abbrev nb__law_times_0 : Nms := ⟨["_law_k", "_law_one", "_law_other", "_law_place"], ["_law_k"], ["_law_k"], ["len"], ["_law_one", "_law_other", "_law_place"]⟩
abbrev ow__law_times_0 : List (Str × Nat) := [("_law_k", 4)]
abbrev tm_out : List Stmt := forB (stAt (defBody s__law_times) 1)
theorem sg_filter (p : Nat → Bool) (g : Nat → Int) : ∀ n, (((List.range n).filter p).map g).sum = sg (fun k => if p k = true then g k else 0) n
  | 0 => rfl
  | n + 1 => by
    rw [List.range_succ, List.filter_append, List.map_append, List.sum_append, sg_filter p g n]
    simp only [sg]
    congr 1
    by_cases c : p n = true
    · simp [c]
    · simp [c]
theorem cv_filter {a b : List Int} {t : Nat} : (((List.range a.length).filter fun k => decide (k ≤ t ∧ t - k < b.length)).map fun k => gt a k * gt b (t - k)).sum = cv a b t := by
  rw [sg_filter]
  unfold cv
  refine sg_congr fun k hk => ?_
  by_cases c : k ≤ t
  · rw [if_pos c]
    by_cases d : t - k < b.length
    · rw [if_pos (by simp [c, d])]
    · rw [if_neg (by simp [d]), gt_none (xs := b) (by omega), Int.mul_zero]
  · rw [if_neg c, if_neg (by simp [c])]
theorem _law_times_day {X : Cx} {E : Ends2} (C : Cxt X ["_law_one", "_law_other", "_law_found", "_law_place", "_law_k"] nm__law_times P w K mg base 0) (T : Txt mg)  : ∀ {M : Mem} {da db : D} {a b : List Int} {pf : Addr} {xs : List D} {t : Nat} {d4 : Option D}, (∀ M', Ext M M' → itemsOf M' da = some (a.map D.int)) → (∀ M', Ext M M' → itemsOf M' db = some (b.map D.int)) → a.length ≤ 100 → b.length ≤ 100 → (∀ x ∈ a, Bd 100 x) → (∀ x ∈ b, Bd 100 x) → M pf = some (.lst xs) → xs.length < 1000 → (∀ M1 M', Ext M M1 → M' = mup M1 pf (.lst (xs ++ [.int (cv a b t)])) → E.nx [some da, some db, some (.obj pf), some (.int (t : Nat)), d4] M') → WSs X tm_out E [some da, some db, some (.obj pf), some (.int (t : Nat)), d4] M := by
  intro M da db a b pf xs t d4 ia ib la lb ba bb e xl k
  have l9 : 1000 ≤ sizeLine := by decide
  refine wss_one ?_
  repeat' (k_extra "y")
  refine ⟨pf, _, rfl, e, ?_⟩
  repeat' (k_extra "y")
  refine we_lcH (α := Nat) (own := ow__law_times_0) (t := .nm 4) C (by decide +kernel) (by decide) (fun X' B => by have C' := C.blk (sc2 := nb__law_times_0) B rfl (by decide +kernel); k_extra "tgt") (fun _ => rfl) ?_
  have ia0 := ia _ (Ext.refl M)
  repeat' (k_extra "y")
  refine ⟨by rw [List.length_map]; omega, by rw [List.length_map]; omega, List.range a.length, fun i => .int (0 + (i : Nat)), fun i => decide (i ≤ t ∧ t - i < b.length), fun i => .int (gt a i * gt b (t - i)), ⟨by rw [List.length_map]; rfl, by simp; omega, fun _ _ => trivial, fun i y M5 hy x5 => ?_⟩, fun Dd M5 hD e5 x5 => ?_⟩
  · have hi : i < a.length := by have := (List.getElem?_eq_some_iff.mp hy).1; simpa using this
    rw [List.getElem?_range hi] at hy
    cases hy
    obtain ⟨u, hu⟩ : ∃ u, a[i]? = some u := ⟨_, List.getElem?_eq_getElem hi⟩
    refine ⟨[some da, some db, some (.obj pf), some (.int (t : Nat)), some (.int (0 + (i : Nat)))], rfl, fun X' B => ?_⟩
    have C' := C.blk (sc2 := nb__law_times_0) B rfl (by decide +kernel)
    have ib5 := ib _ x5
    repeat' (k_extra "y")
    refine Br.dec (fun c1 => ?_) fun c1 => ?_
    · repeat' (k_extra "y")
      refine ⟨Ext.refl _, ?_, fun hb X2 B2 => ?_⟩
      · rw [List.length_map]
        simp only [decide_eq_decide]
        omega
      · have hb' := of_decide_eq_true hb
        rw [List.length_map] at hb'
        obtain ⟨v, hv⟩ : ∃ v, b[t - i]? = some v := ⟨_, List.getElem?_eq_getElem (by omega)⟩
        have C2 := C.blk (sc2 := nb__law_times_0) B2 rfl (by decide +kernel)
        have ia5 := ia _ x5
        repeat' (k_extra "y")
        refine q_ixK ia5 (n := i) (ixN_nat (by omega) hi) hu ?_
        repeat' (k_extra "y")
        refine q_ixK ib5 (n := t - i) (ixN_nat (by omega) (by omega)) hv ?_
        repeat' (k_extra "y")
        · exact mulW (ba u (List.mem_of_getElem? hu)) (bb v (List.mem_of_getElem? hv))
        · exact ⟨Ext.refl _, by show D.int (u * v) = D.int (gt a i * gt b (t - i)); rw [gt_some hu, gt_some hv]⟩
    · refine q_isB ?_
      refine ⟨Ext.refl _, ?_, fun hb => absurd hb (by decide)⟩
      symm
      simp only [decide_eq_false_iff_not]
      omega
  · have e6 : M5 Dd = some (.lst ((((List.range a.length).filter fun k => decide (k ≤ t ∧ t - k < b.length)).map fun k => gt a k * gt b (t - k)).map D.int)) := by rw [e5, List.map_map]; rfl
    refine q_sum (items_lst e6) ?_
    rw [cv_filter]
    exact ⟨_, x5 _ _ e, by omega, k _ _ x5 rfl⟩
def sp__law_times : Sp2 := fun ds M Q _ => ∃ (da db : D) (a b : List Int), ds = [da, db] ∧ ((∃ q, da = .obj q ∧ M q = some (.lst (a.map D.int))) ∨ da = .tup (a.map D.int)) ∧ ((∃ q, db = .obj q ∧ M q = some (.lst (b.map D.int))) ∨ db = .tup (b.map D.int)) ∧ 1 ≤ a.length ∧ a.length ≤ 100 ∧ 1 ≤ b.length ∧ b.length ≤ 100 ∧ (∀ x ∈ a, Bd 100 x) ∧ (∀ x ∈ b, Bd 100 x) ∧ ∀ p M', M p = none → M' p = some (.lst ((cvL a b).map D.int)) → Ext M M' → Q (.obj p) M'
theorem ok__law_times {f : Addr} {fd : FuncData} (F : Fun K "_law_times" "_law_times" s__law_times f fd) (T : Txt mg)  : Fn2 P w K mg base CX0 1 f fd ["_law_one", "_law_other"] sp__law_times := by
  refine fn2_of F sc__law_times no__law_times (fun ds M Q E h => ?_) (fun X ds M Q E C h => ?_)
  · repeat (first | (obtain ⟨rfl, _⟩ := h; rfl) | (obtain ⟨_, h⟩ := h))
  · obtain ⟨da, db, a, b, rfl, ha, hb, la, la2, lb, lb2, ba, bb, k⟩ := h
    have ia : ∀ M', Ext M M' → itemsOf M' da = some (a.map D.int) := fun _ x => ha.elim (fun ⟨q, e, h⟩ => by subst e; exact items_lst (x _ _ h)) fun e => by subst e; rfl
    have ib : ∀ M', Ext M M' → itemsOf M' db = some (b.map D.int) := fun _ x => hb.elim (fun ⟨q, e, h⟩ => by subst e; exact items_lst (x _ _ h)) fun e => by subst e; rfl
    show WSs X _ _ [some da, some db, none, none, none] M
    refine wss_cons ?_
    repeat' (k_extra "y")
    intro pf hpf
    repeat' (k_extra "y")
    refine ws_for (t := .nm 3) C (by k_extra "tgt") (fun _ => rfl) ?_
    have ia0 := ia _ (Ext.new (o := .lst []) hpf)
    have ib0 := ib _ (Ext.new (o := .lst []) hpf)
    repeat' (k_extra "y")
    have ln : ((((a.map D.int).length : Nat) : Int) + (((b.map D.int).length : Nat) : Int) - 1).toNat = a.length + b.length - 1 := by rw [List.length_map, List.length_map]; omega
    refine ⟨by simp only [List.length_map]; omega, by simp only [List.length_map]; omega, fun i ρ M' => ∃ c3 c4, ρ = [some da, some db, some (.obj pf), c3, c4] ∧ M' pf = some (.lst (((List.range i).map (cv a b)).map D.int)) ∧ Ext M M', ⟨_, _, rfl, mup_same, Ext.new hpf⟩, fun _ _ _ _ => trivial, ?_, ?_⟩
    · rintro i d ρ M' hd ⟨c3, c4, rfl, e', x'⟩
      obtain ⟨hi, rfl⟩ := rng_get hd
      rw [ln] at hi
      rw [show (0 : Int) + (i : Nat) = (i : Nat) by omega]
      refine ⟨[some da, some db, some (.obj pf), some (.int (i : Nat)), c4], rfl, ?_⟩
      exact _law_times_day C T (fun M5 x5 => ia _ (x'.trans x5)) (fun M5 x5 => ib _ (x'.trans x5)) la2 lb2 ba bb e' (by simp; omega) fun M1 M5 x1 e5 => ⟨_, _, rfl, by rw [e5, mup_same, List.range_succ, List.map_append, List.map_append]; rfl, by rw [e5]; exact (x'.trans x1).put hpf⟩
    · rintro ρ M' ⟨c3, c4, rfl, e', x'⟩
      rw [List.length_map, List.length_range, ln] at e'
      repeat' (k_extra "y")
      exact k _ _ hpf e' x'
theorem zip_map {α β : Type} {f : α → D} {g : β → D} {xs : List α} {ys : List β} {i : Nat} {d : D} (h : (zipD (xs.map f) (ys.map g))[i]? = some d) : ∃ x y, xs[i]? = some x ∧ ys[i]? = some y ∧ (xs.zip ys)[i]? = some (x, y) ∧ d = .tup [f x, g y] := by
  obtain ⟨a, b, h1, h2, rfl⟩ := zipD_get h
  obtain ⟨x, rfl, hx⟩ := get_map h1
  obtain ⟨y, rfl, hy⟩ := get_map h2
  exact ⟨x, y, hx, hy, List.getElem?_zip_eq_some.mpr ⟨hx, hy⟩, rfl⟩

theorem Drw.put {M : Mem} {m g c p : Addr} {n : Int} {o : MO} (d : Drw M m g c n) (h1 : p ≠ m) (h2 : p ≠ g) (h3 : p ≠ c) : Drw (mup M p o) m g c n := by
  obtain ⟨cs, gs, e1, e2, e3, r⟩ := d
  exact ⟨cs, gs, (mup_ne (Ne.symm h1)).trans e1, (mup_ne (Ne.symm h3)).trans e2, (mup_ne (Ne.symm h2)).trans e3, r⟩
theorem Drw.ne {M : Mem} {m g c p : Addr} {n : Int} (d : Drw M m g c n) (h : M p = none) : p ≠ m ∧ p ≠ g ∧ p ≠ c := by
  obtain ⟨cs, gs, h1, h2, h3, r⟩ := d
  exact ⟨(mem_ne h1 h).symm, (mem_ne h3 h).symm, (mem_ne h2 h).symm⟩
theorem But.free {m g p : Addr} {M M' : Mem} (b : But m g M M') (h : M' p = none) (h1 : p ≠ m) (h2 : p ≠ g) : M p = none := by
  cases e : M p with
  | none => rfl
  | some o => have := b p o h1 h2 e; rw [h] at this; cases this
theorem But.put {m g p : Addr} {o : MO} {M M' : Mem} (b : But m g M M') (h : M p = none) : But m g M (mup M' p o) := fun a u h1 h2 e => by
  by_cases z : a = p
  · subst z; rw [h] at e; cases e
  · exact (mup_ne z).trans (b a u h1 h2 e)
theorem Drw.eq {M : Mem} {m g c : Addr} {n k : Int} (d : Drw M m g c n) (h : n = k) : Drw M m g c k := h ▸ d
theorem Drw.ext {M M' : Mem} {m g c : Addr} {n : Int} (d : Drw M m g c n) (x : Ext M M') : Drw M' m g c n := by
  obtain ⟨cs, gs, h1, h2, h3, r⟩ := d
  exact ⟨cs, gs, x _ _ h1, x _ _ h2, x _ _ h3, r⟩
/-! ### _law_worth -/
abbrev s__law_worth : Stmt := top 44
theorem sc__law_worth : FnScope ["_law_weights", "_law_row", "_law_one", "_law_demand"] ["_law_weights", "_law_row"] (defScope s__law_worth) := ⟨rfl, rfl, rfl, by decide +kernel, rfl, by decide +kernel, by decide +kernel⟩
abbrev nm__law_worth : Nms := ⟨["_law_weights", "_law_row"], ["_law_weights", "_law_row"], ["_law_weights", "_law_row"], ["sum", "zip"], []⟩
theorem no__law_worth : nm__law_worth.ok (defScope s__law_worth) = true := by decide +kernel
abbrev nb__law_worth_0 : Nms := ⟨["_law_one", "_law_demand"], ["_law_one", "_law_demand"], ["_law_one", "_law_demand"], [], []⟩
abbrev ow__law_worth_0 : List (Str × Nat) := [("_law_one", 2), ("_law_demand", 3)]
def wz (ws row : List Int) : Int := ((ws.zip row).map fun (p : Int × Int) => p.1 * p.2).sum
def sp__law_worth : Sp2 := fun ds M Q _ => ∃ (d : D) (b : Addr) (ws row : List Int), ds = [d, .obj b] ∧ ((∃ q, d = .obj q ∧ M q = some (.lst (ws.map D.int))) ∨ d = .tup (ws.map D.int)) ∧ M b = some (.lst (row.map D.int)) ∧ ws.length ≤ 1000 ∧ (∀ x ∈ ws, Bd 100 x) ∧ (∀ x ∈ row, Bd 200 x) ∧ ∀ M', Ext M M' → Q (.int (wz ws row)) M'
theorem ok__law_worth {f : Addr} {fd : FuncData} (F : Fun K "_law_worth" "_law_worth" s__law_worth f fd) (T : Txt mg)  : Fn2 P w K mg base CX0 1 f fd ["_law_weights", "_law_row"] sp__law_worth := by
  refine fn2_of F sc__law_worth no__law_worth (fun ds M Q E h => ?_) (fun X ds M Q E C h => ?_)
  · repeat (first | (obtain ⟨rfl, _⟩ := h; rfl) | (obtain ⟨_, h⟩ := h))
  · obtain ⟨d, b, ws, row, rfl, hd, hb, wl, bw, br, k⟩ := h
    have l9 : 1000 ≤ sizeLine := by decide
    have el : ∀ (ρw : St2) (M5 : Mem) (i : Nat) (dd z : D) (d0 : D), (zipD (ws.map D.int) (row.map D.int))[i]? = some dd → (((ws.zip row).map fun (p : Int × Int) => p.1 * p.2).map D.int)[i]? = some z → ∃ x y, x ∈ ws ∧ y ∈ row ∧ dd = .tup [.int x, .int y] ∧ z = .int (x * y) := by
      intro ρw M5 i dd z d0 hd hz
      obtain ⟨x, y, hx, hy, hxy, rfl⟩ := zip_map hd
      rw [List.getElem?_map, List.getElem?_map, hxy] at hz
      cases hz
      exact ⟨x, y, List.mem_of_getElem? hx, List.mem_of_getElem? hy, rfl, rfl⟩
    show WSs X _ _ [some d, some (.obj b), none, none] M
    refine wss_one ?_
    repeat' (k_extra "y")
    refine we_lcG (own := ow__law_worth_0) (t := .tp [.nm 2, .nm 3]) C (by decide +kernel) (by decide) (fun X' B => by have C' := C.blk (sc2 := nb__law_worth_0) B rfl (by decide +kernel); k_extra "tgt") (fun _ => rfl) ?_
    rcases hd with ⟨q, rfl, eq⟩ | rfl
    · repeat' (k_extra "y")
      refine .inl ⟨q, b, _, _, rfl, by rw [eq]; rfl, by rw [hb]; rfl, ((ws.zip row).map fun (p : Int × Int) => p.1 * p.2).map D.int, ⟨by rw [zipD_len]; simp only [List.length_map]; omega, by simp [zipD_len], fun M' x => ⟨by rw [x _ _ eq]; rfl, by rw [x _ _ hb]; rfl⟩, fun i dd z M' hd hz x => ?_⟩, fun Dd M' hD e x => ?_⟩
      · obtain ⟨u, v, hu, hv, rfl, rfl⟩ := el [] M' i dd z .non hd hz
        refine ⟨[some (.obj q), some (.obj b), some (.int u), some (.int v)], rfl, fun X' B => ?_⟩
        have C' := C.blk (sc2 := nb__law_worth_0) B rfl (by decide +kernel)
        repeat' (k_extra "y")
        · exact mulW (bw u hu) (br v hv)
        · exact ⟨Ext.refl _, rfl⟩
      · repeat' (k_extra "y")
        exact k _ x
    · refine wi_zipM C (by k_extra "gl") (by k_extra "mg0") rfl (fun _ => rfl) ?_
      repeat' (k_extra "y")
      refine ⟨b, _, _, rfl, by rw [hb]; rfl, ((ws.zip row).map fun (p : Int × Int) => p.1 * p.2).map D.int, ⟨by rw [zipD_len]; simp only [List.length_map]; omega, by simp [zipD_len], fun M' x => (by show lstOf (M' b) = _; rw [x _ _ hb]; rfl), fun i dd z M' hd hz x => ?_⟩, fun Dd M' hD e x => ?_⟩
      · obtain ⟨u, v, hu, hv, rfl, rfl⟩ := el [] M' i dd z .non hd hz
        refine ⟨[some (.tup (ws.map D.int)), some (.obj b), some (.int u), some (.int v)], rfl, fun X' B => ?_⟩
        have C' := C.blk (sc2 := nb__law_worth_0) B rfl (by decide +kernel)
        repeat' (k_extra "y")
        · exact mulW (bw u hu) (br v hv)
        · exact ⟨Ext.refl _, rfl⟩
      · repeat' (k_extra "y")
        exact k _ x
/-! ### _law_line -/
abbrev s__law_line : Stmt := top 43
theorem sc__law_line : FnScope ["_law_m", "_law_most", "_law_many", "_law_whole", "_law_some", "_law_k"] ["_law_m", "_law_most", "_law_many"] (defScope s__law_line) := ⟨rfl, rfl, rfl, by decide +kernel, rfl, by decide +kernel, by decide +kernel⟩
abbrev nm__law_line : Nms := ⟨["_law_m", "_law_most", "_law_many", "_law_whole", "_law_some", "_law_k"], ["_law_m", "_law_most", "_law_many", "_law_whole", "_law_some", "_law_k"], ["_law_m", "_law_most", "_law_many", "_law_whole", "_law_some", "_law_k"], ["_law_draw", "range", "tuple", "sum"], []⟩
theorem no__law_line : nm__law_line.ok (defScope s__law_line) = true := by decide +kernel
structure LnT (p : Int) (ws : List Int) : Prop where
  p0 : 1 ≤ p
  p1 : p ≤ 20
  l0 : 1 ≤ ws.length
  l1 : ws.length ≤ 8
  w : ∀ x ∈ ws, -200 ≤ x ∧ x ≤ 200
  s : ws.sum = p
theorem sum_r {A : Int} : ∀ {xs : List Int}, (∀ x ∈ xs, -A ≤ x ∧ x ≤ A) → -(xs.length * A) ≤ xs.sum ∧ xs.sum ≤ xs.length * A
  | [], _ => by simp
  | x :: xs, h => by
    have a := sum_r (xs := xs) fun y hy => h y (List.mem_cons_of_mem _ hy)
    have b := h x (List.mem_cons_self ..)
    rw [List.sum_cons, List.length_cons, Int.natCast_add, Int.add_mul]
    omega
def sp__law_line : Sp2 := fun ds M Q _ => ∃ (m g c : Addr) (n most many : Int), ds = [.obj m, .int most, .int many] ∧ Drw M m g c n ∧ 1 ≤ most ∧ most ≤ 20 ∧ 1 ≤ many ∧ many ≤ 8 ∧ n < 1000000 ∧ ∀ (p : Int) (ws : List Int) (k' : Int) (M' : Mem), LnT p ws → k' ≤ n + 10 → Drw M' m g c k' → But m g M M' → Q (lnD p ws) M'
theorem ok__law_line {f : Addr} {fd : FuncData} (F : Fun K "_law_line" "_law_line" s__law_line f fd) (T : Txt mg) (G__law_draw : Def2 P w K mg base CX0 2 "_law_draw" ["_law_m", "_law_limit"] sp__law_draw) : Fn2 P w K mg base CX0 3 f fd ["_law_m", "_law_most", "_law_many"] sp__law_line := by
  refine fn2_of F sc__law_line no__law_line (fun ds M Q E h => ?_) (fun X ds M Q E C h => ?_)
  · repeat (first | (obtain ⟨rfl, _⟩ := h; rfl) | (obtain ⟨_, h⟩ := h))
  · obtain ⟨m, g, c, n, most, many, rfl, dr, m1, m2, y1, y2, nb, k⟩ := h
    have l9 : 1000 ≤ sizeLine := by decide
    show WSs X _ _ [some (.obj m), some (.int most), some (.int many), none, none, none] M
    refine wss_cons ?_
    repeat' (k_extra "y")
    refine ⟨m, g, c, n, most, rfl, dr, by omega, by omega, by omega, fun u M1 u0 u1 dr1 b1 => ?_⟩
    repeat' (k_extra "y")
    intro pf hpf
    have ⟨fm, fg, fc⟩ := dr1.ne hpf
    repeat' (k_extra "y")
    refine ws_for (t := .nm 5) C (by k_extra "tgt") (fun _ => rfl) ?_
    repeat' (k_extra "y")
    refine ⟨m, g, c, _, many, rfl, dr1.put fm fg fc, by omega, by omega, by omega, fun v M2 v0 v1 dr2 b2 => ?_⟩
    have e2 : M2 pf = some (.lst (([] : List Int).map D.int)) := b2 _ _ fm fg mup_same
    have bt := (b1.trans (But.new (o := .lst []) hpf)).trans b2
    have f0 : M pf = none := b1.free hpf fm fg
    repeat' (k_extra "y")
    refine ⟨by omega, by omega, fun i ρ M' => ∃ (xs : List Int) (k2 : Int) (c5 : Option D), ρ = [some (.obj m), some (.int most), some (.int many), some (.int (1 + u)), some (.obj pf), c5] ∧ M' pf = some (.lst (xs.map D.int)) ∧ xs.length = i ∧ (∀ x ∈ xs, -22 ≤ x ∧ x ≤ 22) ∧ Drw M' m g c k2 ∧ k2 = n + 2 + (i : Int) ∧ But m g M M', ⟨[], _, _, rfl, e2, rfl, by simp, dr2, by omega, bt⟩, fun _ _ _ _ => trivial, ?_, ?_⟩
    · rintro i d ρ M' hd ⟨xs, k2, c5, rfl, e, hl, hx, d', hk, b⟩
      obtain ⟨hi, rfl⟩ := rng_get hd
      refine ⟨[some (.obj m), some (.int most), some (.int many), some (.int (1 + u)), some (.obj pf), some (.int (0 + (i : Nat)))], rfl, ?_⟩
      repeat' (k_extra "y")
      refine ⟨pf, _, rfl, e, ?_⟩
      repeat' (k_extra "y")
      · exact mulW (a := 2) (b := 6) (by decide) (by unfold Bd; omega)
      refine ⟨m, g, c, _, 2 * (1 + u) + 3, rfl, d', by omega, by omega, by omega, fun r M4 r0 r1 d4 b4 => ?_⟩
      have e4 := b4 _ _ fm fg e
      repeat' (k_extra "y")
      refine ⟨_, e4, by rw [List.length_map]; omega, xs ++ [r - (1 + u)], _, _, rfl, by rw [mup_same, List.map_append]; rfl, by simp [hl], ?_, d4.put fm fg fc, by omega, (b.trans b4).put f0⟩
      intro x hx'
      rcases List.mem_append.mp hx' with z | z
      · exact hx x z
      · rw [List.mem_singleton.mp z]; omega
    · rintro ρ M' ⟨xs, k2, c5, rfl, e, hl, hx, d', hk, b⟩
      rw [List.length_map, List.length_range] at hl hk
      repeat' (k_extra "y")
      intro p6 h6
      repeat' (k_extra "y")
      · simp only [List.length_map, List.length_cons, List.length_nil]; omega
      intro p7 h7
      have sr := sum_r hx
      have xl : (xs.length : Int) * 22 ≤ 7 * 22 := by omega
      have eL : xs.map D.int ++ [D.int (1 + u - xs.sum)] = (xs ++ [1 + u - xs.sum]).map D.int := by rw [List.map_append]; rfl
      rw [eL]
      repeat' (k_extra "y")
      have ⟨pm6, pg6, pc6⟩ := d'.ne h6
      have d6 := d'.put (o := .lst [.int (1 + u - xs.sum)]) pm6 pg6 pc6
      have ⟨pm7, pg7, pc7⟩ := d6.ne h7
      refine k (1 + u) (xs ++ [1 + u - xs.sum]) k2 _ ⟨by omega, by omega, by simp, by simp; omega, fun x hx' => ?_, by rw [List.sum_append]; simp; omega⟩ (by omega) (d6.put pm7 pg7 pc7) ((b.trans (But.new h6)).trans (But.new h7))
      rcases List.mem_append.mp hx' with z | z
      · have := hx x z; omega
      · rw [List.mem_singleton.mp z]; omega
structure Sh where
  p : Int
  ws : List Int
  d : Nat
/-- the weights of a chain's first houses together, and the parts -/
def pre (hs : List Sh) : Int × List Int := hs.foldl (fun a h => (a.1 * h.p, cvL a.2 h.ws)) (1, [1])
theorem pre_nil : pre [] = (1, [1]) := rfl
theorem pre_snoc {hs : List Sh} {h : Sh} : pre (hs ++ [h]) = ((pre hs).1 * h.p, cvL (pre hs).2 h.ws) := by unfold pre; rw [List.foldl_append]; rfl
theorem pre_take {hs : List Sh} {h : Sh} {i : Nat} (e : hs[i]? = some h) : pre (hs.take (i + 1)) = ((pre (hs.take i)).1 * h.p, cvL (pre (hs.take i)).2 h.ws) := by
  rw [List.take_add_one, e]; exact pre_snoc
def tl : Int → List Int → List Int
  | _, [] => []
  | _, [_] => []
  | l, x :: y :: r => (l - x) :: tl (l - x) (y :: r)
def own (p : Int) (d : Nat) (ws : List Int) : List Int := List.replicate d p ++ tl p ws
theorem tl_len : ∀ (l : Int) (ws : List Int), (tl l ws).length = ws.length - 1
  | _, [] => rfl
  | _, [_] => rfl
  | l, x :: y :: r => by
    have := tl_len (l - x) (y :: r)
    simp only [tl, List.length_cons] at this ⊢
    omega
theorem own_len {p : Int} {d : Nat} {ws : List Int} : (own p d ws).length = d + (ws.length - 1) := by unfold own; rw [List.length_append, List.length_replicate, tl_len]
theorem tl_bd {A : Int} (A0 : 0 ≤ A) : ∀ (l : Int) (ws : List Int), (∀ x ∈ ws, -A ≤ x ∧ x ≤ A) → ∀ z ∈ tl l ws, (-(l.natAbs : Int) - ws.length * A ≤ z ∧ z ≤ l.natAbs + ws.length * A)
  | _, [], _, z, h => by cases h
  | _, [_], _, z, h => by cases h
  | l, x :: y :: r, hw, z, h => by
    have bx := hw x (List.mem_cons_self ..)
    have e : (((x :: y :: r).length : Nat) : Int) * A = ((y :: r).length : Int) * A + A := by rw [List.length_cons, Int.natCast_succ, Int.add_mul, Int.one_mul]
    have e0 : 0 ≤ ((y :: r).length : Int) * A := Int.mul_nonneg (by omega) A0
    rw [e]
    rcases List.mem_cons.mp h with h | h
    · subst h; omega
    · have := tl_bd A0 (l - x) (y :: r) (fun u hu => hw u (List.mem_cons_of_mem _ hu)) z h
      omega
theorem od_nil {f : Int → Int} {K : Int} : od [] f K = 0 := rfl
theorem od_cons {x : Int} {xs : List Int} {f : Int → Int} {K : Int} : od (x :: xs) f K = x * f K + od xs f (K - 1) := by
  unfold od
  rw [List.length_cons]
  generalize xs.length = n
  induction n with
  | zero => simp [sg, gt]
  | succ n ih =>
    rw [show sg (fun t => gt (x :: xs) t * f (K - (t : Nat))) (n + 1 + 1) = sg (fun t => gt (x :: xs) t * f (K - (t : Nat))) (n + 1) + gt (x :: xs) (n + 1) * f (K - ((n + 1 : Nat) : Int)) from rfl, ih]
    rw [show sg (fun t => gt xs t * f (K - 1 - (t : Nat))) (n + 1) = sg (fun t => gt xs t * f (K - 1 - (t : Nat))) n + gt xs n * f (K - 1 - (n : Nat)) from rfl]
    rw [show gt (x :: xs) (n + 1) = gt xs n from rfl, show K - ((n + 1 : Nat) : Int) = K - 1 - (n : Nat) by omega]
    omega
/-- what the tail of the sums changes by -/
theorem tl_diff {f : Int → Int} : ∀ (l : Int) (ws : List Int) (K : Int), ws ≠ [] → ws.sum = l → od (tl l ws) f K - od (tl l ws) f (K - 1) = l * f K - od ws f K
  | l, [], _, h, _ => (h rfl).elim
  | l, [x], K, _, s => by
    have : x = l := by simpa using s
    subst this
    rw [show tl x [x] = [] from rfl, od_nil, od_nil, od_cons, od_nil]
    omega
  | l, x :: y :: r, K, _, s => by
    have ih := tl_diff (f := f) (l - x) (y :: r) (K - 1) (by simp) (by rw [List.sum_cons] at s; omega)
    rw [show tl l (x :: y :: r) = (l - x) :: tl (l - x) (y :: r) from rfl, od_cons, od_cons, od_cons]
    have e1 : (l - x) * f K = l * f K - x * f K := by rw [Int.sub_mul]
    omega
theorem own_diff {f : Int → Int} {p : Int} {ws : List Int} (hw : ws ≠ []) (s : ws.sum = p) : ∀ (d : Nat) (K : Int), od (own p d ws) f K - od (own p d ws) f (K - 1) = p * f K - od ws f (K - d)
  | 0, K => by
    rw [show own p 0 ws = tl p ws from rfl, tl_diff p ws K hw s]
    simp
  | d + 1, K => by
    have ih := own_diff (f := f) hw s d (K - 1)
    rw [show own p (d + 1) ws = p :: own p d ws from rfl, od_cons, od_cons]
    rw [show K - ((d + 1 : Nat) : Int) = K - 1 - (d : Nat) by omega]
    omega
/-- how a house's own has grown -/
def gr (o : List Int) (f : Int → Int) (b : Int) (K : Int) : Int := b * o.sum - od o f K
theorem od_cst {ws : List Int} {f : Int → Int} {c K : Int} (h : ∀ t : Nat, f (K - t) = c) : od ws f K = c * ws.sum := by
  induction ws generalizing K with
  | nil => simp [od_nil]
  | cons x xs ih =>
    rw [od_cons, ih (K := K - 1) (fun t => by have := h (t + 1); rw [show K - 1 - (t : Int) = K - ((t + 1 : Nat) : Int) by omega]; exact this), List.sum_cons, Int.mul_add]
    have := h 0
    rw [show K - ((0 : Nat) : Int) = K by omega] at this
    rw [this, Int.mul_comm x c]
theorem gr_neg {o : List Int} {f : Int → Int} {b : Int} (h : ∀ i : Int, i < 0 → f i = b) : gr o f b (-1) = 0 := by
  unfold gr
  rw [od_cst (c := b) (fun t => h _ (by omega))]
  omega
theorem gr_step {f : Int → Int} {p b : Int} {ws : List Int} {d : Nat} (hw : ws ≠ []) (s : ws.sum = p) (K : Int) : gr (own p d ws) f b K = gr (own p d ws) f b (K - 1) + od ws f (K - d) - p * f K := by
  have := own_diff (f := f) hw s d K
  unfold gr
  omega
/-! least terms: the factor -/
theorem gl_dvd : ∀ {ws : List Int} {p : Int}, gl p ws ∣ p ∧ ∀ w ∈ ws, gl p ws ∣ w
  | [], p => ⟨⟨1, by show p = p * 1; omega⟩, fun w h => by cases h⟩
  | w :: ws, p => by
    have ih := gl_dvd (ws := ws) (p := ((Int.gcd p w : Nat) : Int))
    show gl ((Int.gcd p w : Nat) : Int) ws ∣ p ∧ ∀ x ∈ w :: ws, gl ((Int.gcd p w : Nat) : Int) ws ∣ x
    refine ⟨Int.dvd_trans ih.1 (Int.gcd_dvd_left ..), fun x hx => ?_⟩
    rcases List.mem_cons.mp hx with h | h
    · subst h; exact Int.dvd_trans ih.1 (Int.gcd_dvd_right ..)
    · exact ih.2 x h
theorem trm_fac : ∀ (n : Nat) (xs : List Int), ∃ k, xs = trm n xs ++ List.replicate k 0
  | 0, xs => ⟨0, by simp [trm]⟩
  | n + 1, xs => by
    unfold trm
    by_cases c : 1 < xs.length ∧ xs.getLast? = some 0
    · rw [if_pos c]
      obtain ⟨k, e⟩ := trm_fac n xs.dropLast
      refine ⟨k + 1, ?_⟩
      have hx : xs ≠ [] := by intro z; rw [z] at c; simp at c
      have := List.dropLast_concat_getLast hx
      rw [List.getLast?_eq_some_getLast hx] at c
      rw [Option.some.inj c.2] at this
      rw [List.replicate_succ', ← List.append_assoc, ← e, this]
    · rw [if_neg c]
      exact ⟨0, by simp⟩
theorem trm_ne : ∀ (n : Nat) (xs : List Int), xs ≠ [] → trm n xs ≠ []
  | 0, xs, h => h
  | n + 1, xs, h => by
    unfold trm
    by_cases c : 1 < xs.length ∧ xs.getLast? = some 0
    · rw [if_pos c]
      refine trm_ne n _ fun z => ?_
      have : xs.dropLast.length = 0 := by rw [z]; rfl
      rw [List.length_dropLast] at this
      omega
    · rw [if_neg c]; exact h
theorem low_fac {p : Int} {ws : List Int} (hp : 0 < p) (hw : ws ≠ []) : ∃ (g : Int) (z : Nat), 0 < g ∧ p = g * (low p ws).1 ∧ ws = (low p ws).2.map (g * ·) ++ List.replicate z 0 ∧ 0 < (low p ws).1 ∧ (low p ws).2 ≠ [] := by
  have g0 := gl_pos (ws := ws) hp
  have d := gl_dvd (ws := ws) (p := p)
  obtain ⟨k, e⟩ := trm_fac ws.length (ws.map (· / gl p ws))
  refine ⟨gl p ws, k, g0, (Int.mul_ediv_cancel' d.1).symm, ?_, ?_, trm_ne _ _ (by simpa using hw)⟩
  · have e2 : (ws.map (· / gl p ws)).map (gl p ws * ·) = ws := by
      rw [List.map_map]
      conv => rhs; rw [← List.map_id ws]
      exact List.map_congr_left fun x hx => Int.mul_ediv_cancel' (d.2 x hx)
    conv => lhs; rw [← e2, e]
    rw [List.map_append, List.map_replicate, Int.mul_zero]
    rfl
  · have := gl_le (ws := ws) hp
    show 0 < p / gl p ws
    exact Int.ediv_pos_of_pos_of_dvd hp (by omega) d.1
theorem gt_fac {g : Int} {v : List Int} {z k : Nat} : gt (v.map (g * ·) ++ List.replicate z 0) k = g * gt v k := by
  unfold gt
  rw [List.getD_eq_getElem?_getD, List.getD_eq_getElem?_getD]
  by_cases h : k < v.length
  · rw [List.getElem?_append_left (by simpa using h), List.getElem?_map, List.getElem?_eq_getElem h]; rfl
  · rw [List.getElem?_append_right (by simp; omega), List.getElem?_eq_none (l := v) (by omega), List.getElem?_replicate]
    split <;> simp
theorem cv_ful {a b : List Int} {t : Nat} : cv a b t = sg (fun k => gt a k * gt b (t - k)) (t + 1) := by
  have e1 : cv a b t = sg (fun k => if k ≤ t then gt a k * gt b (t - k) else 0) (a.length + (t + 1)) := by
    unfold cv
    exact (sg_more (by omega) fun k h1 h2 => by rw [gt_none (xs := a) h1]; simp).symm
  rw [e1, sg_more (n := t + 1) (by omega) fun k h1 h2 => by rw [if_neg (by omega)]]
  exact sg_congr fun k hk => by rw [if_pos (by omega)]
theorem cv_fac {g : Int} {v o : List Int} {z t : Nat} : cv (v.map (g * ·) ++ List.replicate z 0) o t = g * cv v o t := by
  rw [cv_ful, cv_ful, ← sg_mul]
  exact sg_congr fun k hk => by rw [gt_fac, Int.mul_assoc]
theorem cv_out {v o : List Int} {t : Nat} (h : v.length + o.length - 1 ≤ t) (ho : o ≠ []) : cv v o t = 0 := by
  have lo : 0 < o.length := List.length_pos_iff.mpr ho
  unfold cv
  refine sg_zero fun k hk => ?_
  split
  · rw [gt_none (xs := o) (by omega)]; simp
  · rfl
theorem cvL_fac {g : Int} {v o : List Int} {z : Nat} (hv : v ≠ []) (ho : o ≠ []) : cvL (v.map (g * ·) ++ List.replicate z 0) o = (cvL v o).map (g * ·) ++ List.replicate z 0 := by
  have lv : 0 < v.length := List.length_pos_iff.mpr hv
  have lo : 0 < o.length := List.length_pos_iff.mpr ho
  refine List.ext_getElem? fun t => ?_
  have l1 : (cvL (v.map (g * ·) ++ List.replicate z 0) o).length = v.length + z + o.length - 1 := by simp [cvL]
  have l2 : (cvL v o).length = v.length + o.length - 1 := by simp [cvL]
  by_cases c : t < v.length + z + o.length - 1
  · have e1 : (cvL (v.map (g * ·) ++ List.replicate z 0) o)[t]? = some (g * cv v o t) := by
      unfold cvL
      rw [List.getElem?_map, List.getElem?_range (by simp; omega), ← cv_fac (z := z)]; rfl
    rw [e1]
    by_cases c2 : t < v.length + o.length - 1
    · rw [List.getElem?_append_left (by rw [List.length_map, l2]; exact c2), List.getElem?_map]
      unfold cvL
      rw [List.getElem?_map, List.getElem?_range c2]; rfl
    · rw [List.getElem?_append_right (by rw [List.length_map, l2]; omega), List.length_map, l2, List.getElem?_replicate, if_pos (by omega), cv_out (by omega) ho, Int.mul_zero]
  · rw [List.getElem?_eq_none (by omega), List.getElem?_eq_none (by rw [List.length_append, List.length_map, l2, List.length_replicate]; omega)]
theorem low_cv {P q : Int} {W o : List Int} (hP : 0 < P) (hq : 0 < q) (hW : W ≠ []) (ho : o ≠ []) : low ((low P W).1 * q) (cvL (low P W).2 o) = low (P * q) (cvL W o) := by
  obtain ⟨g, z, g0, e1, e2, h1, h2⟩ := low_fac hP hW
  have hc : cvL (low P W).2 o ≠ [] := by
    have lv : 0 < (low P W).2.length := List.length_pos_iff.mpr h2
    have lo : 0 < o.length := List.length_pos_iff.mpr ho
    intro e
    have : (cvL (low P W).2 o).length = 0 := by rw [e]; rfl
    simp [cvL] at this
    omega
  have s := low_scale (p := (low P W).1 * q) (t := g) (ws := cvL (low P W).2 o) (k := z) (Int.mul_pos h1 hq) g0 hc
  rw [← cvL_fac h2 ho, ← e2, ← Int.mul_assoc, ← e1] at s
  exact s.symm
theorem od_fac {g : Int} {v : List Int} {z : Nat} {f : Int → Int} {K : Int} : od (v.map (g * ·) ++ List.replicate z 0) f K = g * od v f K := by
  unfold od
  rw [← sg_mul, List.length_append, List.length_map]
  rw [sg_more (n := v.length) (by omega) fun k h1 h2 => by rw [gt_fac, gt_none (xs := v) h1]; simp]
  exact sg_congr fun k hk => by rw [gt_fac, Int.mul_assoc]
theorem sum_fac {g : Int} {v : List Int} {z : Nat} : (v.map (g * ·) ++ List.replicate z 0).sum = g * v.sum := by
  rw [List.sum_append]
  have e1 : (v.map (g * ·)).sum = g * v.sum := by
    induction v with
    | nil => simp
    | cons x xs ih => rw [List.map_cons, List.sum_cons, List.sum_cons, ih, Int.mul_add]
  have e2 : (List.replicate z (0 : Int)).sum = 0 := by
    induction z with
    | zero => rfl
    | succ z ih => rw [List.replicate_succ, List.sum_cons, ih]; rfl
  rw [e1, e2, Int.add_zero]
theorem sum_cvL {a b : List Int} (ha : a ≠ []) (hb : b ≠ []) : (cvL a b).sum = a.sum * b.sum := by
  have h := od_cv ha hb (fun _ => 1) 0
  rw [od_cst (c := 1) (fun _ => rfl), od_cst (c := a.sum) (fun t => by rw [od_cst (c := 1) (fun _ => rfl), Int.one_mul]), Int.one_mul] at h
  exact h
/-- what is ordered, told by least terms -/
theorem low_od {P : Int} {W : List Int} {f : Int → Int} {K : Int} (hP : 0 < P) (hW : W ≠ []) : od (low P W).2 f K * P = od W f K * (low P W).1 := by
  obtain ⟨g, z, g0, e1, e2, h1, h2⟩ := low_fac hP hW
  have e3 : od W f K = g * od (low P W).2 f K := by
    conv => lhs; rw [e2]
    exact od_fac
  rw [e3]
  clear e2 e3 h2
  generalize (low P W).2 = v at *
  generalize (low P W).1 = H at *
  rw [e1, ← Int.mul_assoc, Int.mul_comm g]
/-- what a house has, told by least terms -/
theorem low_gr {P c : Int} {W o : List Int} {f : Int → Int} {K : Int} (hP : 0 < P) (hW : W ≠ []) (ho : o ≠ []) :
    (c * (low P (cvL W o)).2.sum - od (low P (cvL W o)).2 f K) * P = gr o (fun i => od W f i) (c * W.sum) K * (low P (cvL W o)).1 := by
  have lv : 0 < W.length := List.length_pos_iff.mpr hW
  have lo : 0 < o.length := List.length_pos_iff.mpr ho
  have hc : cvL W o ≠ [] := by
    intro e
    have : (cvL W o).length = 0 := by rw [e]; rfl
    simp [cvL] at this
    omega
  obtain ⟨g, z, g0, e1, e2, h1, h2⟩ := low_fac hP hc
  have e3 : od (cvL W o) f K = g * od (low P (cvL W o)).2 f K := by
    conv => lhs; rw [e2]
    exact od_fac
  have e4 : (cvL W o).sum = g * (low P (cvL W o)).2.sum := by
    conv => lhs; rw [e2]
    exact sum_fac
  rw [od_cv hW ho] at e3
  rw [sum_cvL hW ho] at e4
  unfold gr
  rw [Int.mul_assoc c, e3, e4]
  clear e2 e3 e4 h2
  generalize (low P (cvL W o)).2 = v at *
  generalize (low P (cvL W o)).1 = H at *
  rw [e1, Int.sub_mul, Int.sub_mul]
  congr 1
  · ac_rfl
  · ac_rfl
theorem tl_get : ∀ (l : Int) (ws : List Int) (j : Nat), j + 1 < ws.length → (tl l ws)[j]? = some (l - (ws.take (j + 1)).sum)
  | _, [], _, h => by simp at h
  | _, [_], _, h => by simp at h
  | l, x :: y :: r, 0, _ => by simp [tl]
  | l, x :: y :: r, j + 1, h => by
    have ih := tl_get (l - x) (y :: r) j (by simpa using h)
    rw [show tl l (x :: y :: r) = (l - x) :: tl (l - x) (y :: r) from rfl, List.getElem?_cons_succ, ih, List.take_succ_cons (i := j + 1), List.sum_cons]
    congr 1
    omega
theorem rep_flat {n : Nat} {x : Int} : (List.replicate n [D.int x]).flatten = (List.replicate n x).map D.int := by
  induction n with
  | zero => rfl
  | succ n ih => rw [List.replicate_succ, List.replicate_succ, List.flatten_cons, ih]; rfl

def shD (h : Sh) : D := .tup [.tup [.int h.p, .tup (h.ws.map D.int)], .int (h.d : Nat)]
def stD (hs : List Sh) : D := .tup (hs.map shD)
structure ShOk (h : Sh) : Prop where
  ln : LnT h.p h.ws
  d0 : 1 ≤ h.d
  d1 : h.d ≤ 4
structure StOk (hs : List Sh) : Prop where
  n0 : 1 ≤ hs.length
  n1 : hs.length ≤ 3
  h : ∀ h ∈ hs, ShOk h
theorem lnT_ok' {p : Int} {ws : List Int} (h : LnT p ws) : LnOk p ws := ⟨h.p0, by have := h.p1; omega, h.l0, h.l1, fun x hx => by have := h.w x hx; omega, h.s⟩
def bnd : Nat → Int
  | 0 => 1
  | n + 1 => (1 + 7 * (n : Int)) * (bnd n * 200)
theorem bnd_nn : ∀ n, 0 ≤ bnd n
  | 0 => by decide
  | n + 1 => Int.mul_nonneg (by omega) (Int.mul_nonneg (bnd_nn n) (by decide))
structure PreOk (n : Nat) (a : Int × List Int) : Prop where
  l0 : 1 ≤ a.2.length
  l1 : a.2.length ≤ 1 + 7 * n
  s : a.2.sum = a.1
  p0 : 1 ≤ a.1
  p1 : a.1 ≤ 20 ^ n
  w : ∀ x ∈ a.2, -bnd n ≤ x ∧ x ≤ bnd n
theorem cvb {a b : List Int} {A B : Int} (hA : ∀ x ∈ a, -A ≤ x ∧ x ≤ A) (hB : ∀ x ∈ b, -B ≤ x ∧ x ≤ B) (A0 : 0 ≤ A) (B0 : 0 ≤ B) (t n : Nat) : -(n * (A * B)) ≤ sg (fun k => if k ≤ t then gt a k * gt b (t - k) else 0) n ∧ sg (fun k => if k ≤ t then gt a k * gt b (t - k) else 0) n ≤ n * (A * B) := by
  have ab : 0 ≤ A * B := Int.mul_nonneg A0 B0
  have ga : ∀ k, -A ≤ gt a k ∧ gt a k ≤ A := by
    intro k
    cases e : a[k]? with
    | none => rw [gt_none (by have := List.getElem?_eq_none_iff.mp e; omega)]; omega
    | some x => rw [gt_some e]; exact hA x (List.mem_of_getElem? e)
  have gb : ∀ k, -B ≤ gt b k ∧ gt b k ≤ B := by
    intro k
    cases e : b[k]? with
    | none => rw [gt_none (by have := List.getElem?_eq_none_iff.mp e; omega)]; omega
    | some x => rw [gt_some e]; exact hB x (List.mem_of_getElem? e)
  have pr : ∀ x y : Int, -A ≤ x → x ≤ A → -B ≤ y → y ≤ B → -(A * B) ≤ x * y ∧ x * y ≤ A * B := by
    intro x y h1 h2 h3 h4
    have h : (x * y).natAbs ≤ (A * B).natAbs := by
      rw [Int.natAbs_mul, Int.natAbs_mul]
      exact Nat.mul_le_mul (by omega) (by omega)
    omega
  induction n with
  | zero => simp [sg]
  | succ n ih =>
    simp only [sg]
    have e : ((n + 1 : Nat) : Int) * (A * B) = n * (A * B) + A * B := by rw [Int.natCast_succ, Int.add_mul, Int.one_mul]
    rw [e]
    split
    · have := pr (gt a n) (gt b (t - n)) (ga n).1 (ga n).2 (gb _).1 (gb _).2
      omega
    · omega
theorem cvL_b {a b : List Int} {A B : Int} (hA : ∀ x ∈ a, -A ≤ x ∧ x ≤ A) (hB : ∀ x ∈ b, -B ≤ x ∧ x ≤ B) (A0 : 0 ≤ A) (B0 : 0 ≤ B) : ∀ x ∈ cvL a b, -(a.length * (A * B)) ≤ x ∧ x ≤ a.length * (A * B) := by
  intro x hx
  obtain ⟨t, _, rfl⟩ := List.mem_map.mp hx
  exact cvb hA hB A0 B0 t a.length
theorem ne_len {xs : List Int} (h : 1 ≤ xs.length) : xs ≠ [] := by intro z; rw [z] at h; simp at h
theorem cvL_len {a b : List Int} : (cvL a b).length = a.length + b.length - 1 := by simp [cvL]
theorem pre_ok {hs : List Sh} (ok : ∀ h ∈ hs, ShOk h) : ∀ n, n ≤ hs.length → PreOk n (pre (hs.take n))
  | 0, _ => ⟨by simp [pre], by simp [pre], by simp [pre], by simp [pre], by simp [pre], by simp [pre, bnd]⟩
  | n + 1, h => by
    have ih := pre_ok ok n (by omega)
    have e : hs[n]? = some (hs[n]'(by omega)) := List.getElem?_eq_getElem (by omega)
    have oh := (ok _ (List.getElem_mem (show n < hs.length by omega))).ln
    generalize hs[n]'(by omega) = u at e oh
    rw [pre_take e]
    have a0 := ih.l0
    have a1 := ih.l1
    have b0 := oh.l0
    have b1 := oh.l1
    have p0 := ih.p0
    have p1 := ih.p1
    have q0 := oh.p0
    have q1 := oh.p1
    refine ⟨?_, ?_, ?_, ?_, ?_, fun x hx => ?_⟩
    · show 1 ≤ (cvL _ _).length
      rw [cvL_len]; omega
    · show (cvL _ _).length ≤ _
      rw [cvL_len]; omega
    · show (cvL _ _).sum = _ * _
      rw [sum_cvL (ne_len a0) (ne_len b0), ih.s, oh.s]
    · exact Int.mul_pos (by omega) (by omega)
    · rw [Int.pow_succ]
      exact Int.mul_le_mul p1 q1 (by omega) (Int.le_trans (by omega) p1)
    · have b := cvL_b ih.w oh.w (bnd_nn n) (by decide) x hx
      have m : ((pre (hs.take n)).2.length : Int) * (bnd n * 200) ≤ (1 + 7 * (n : Int)) * (bnd n * 200) := Int.mul_le_mul_of_nonneg_right (by omega) (Int.mul_nonneg (bnd_nn n) (by decide))
      show -((1 + 7 * (n : Int)) * (bnd n * 200)) ≤ x ∧ x ≤ (1 + 7 * (n : Int)) * (bnd n * 200)
      omega
/-- what is needed of a prefix of up to three houses -/
structure PreN (a : Int × List Int) : Prop where
  l0 : 1 ≤ a.2.length
  l1 : a.2.length ≤ 22
  s : a.2.sum = a.1
  p0 : 1 ≤ a.1
  p1 : a.1 ≤ 8000
  w : ∀ x ∈ a.2, -960000000 ≤ x ∧ x ≤ 960000000
theorem pre_n {hs : List Sh} (ok : StOk hs) {n : Nat} (h : n ≤ hs.length) : PreN (pre (hs.take n)) := by
  have n1 := ok.n1
  have z := pre_ok ok.h n h
  have l0 := z.l0
  have l1 := z.l1
  have s := z.s
  have p0 := z.p0
  have p1 := z.p1
  have w := z.w
  have hn : n = 0 ∨ n = 1 ∨ n = 2 ∨ n = 3 := by omega
  generalize pre (hs.take n) = a at *
  have b0 : bnd 0 = 1 := rfl
  have b1 : bnd 1 = 200 := by decide
  have b2 : bnd 2 = 320000 := by decide
  have b3 : bnd 3 = 960000000 := by decide
  rcases hn with e | e | e | e <;> subst e <;> simp only [b0, b1, b2, b3] at w
  · exact ⟨l0, by omega, s, p0, by omega, fun x hx => by have := w x hx; omega⟩
  · exact ⟨l0, by omega, s, p0, by omega, fun x hx => by have := w x hx; omega⟩
  · exact ⟨l0, by omega, s, p0, by omega, fun x hx => by have := w x hx; omega⟩
  · exact ⟨l0, by omega, s, p0, by omega, fun x hx => by have := w x hx; omega⟩
/-! ### own_hand -/
abbrev s_own_hand : Stmt := top 31
theorem sc_own_hand : FnScope ["line", "delay", "found", "left", "one"] ["line", "delay"] (defScope s_own_hand) := ⟨rfl, rfl, rfl, by decide +kernel, rfl, by decide +kernel, by decide +kernel⟩
abbrev nm_own_hand : Nms := ⟨["line", "delay", "found", "left", "one"], ["line", "delay", "found", "left", "one"], ["line", "delay", "found", "left", "one"], [], []⟩
theorem no_own_hand : nm_own_hand.ok (defScope s_own_hand) = true := by decide +kernel
def sp_own_hand : Sp2 := fun ds M Q _ => ∃ (p : Int) (ws : List Int) (d : Nat), ds = [lnD p ws, .int (d : Nat)] ∧ ws.length ≤ 8 ∧ 1 ≤ ws.length ∧ 1 ≤ d ∧ d ≤ 4 ∧ ∀ pf M', M pf = none → M' pf = some (.lst ((own p d ws).map D.int)) → Ext M M' → Q (.obj pf) M'
theorem ok_own_hand {f : Addr} {fd : FuncData} (F : Fun K "own_hand" "own_hand" s_own_hand f fd) (T : Txt mg)  : Fn2 P w K mg base CX0 1 f fd ["line", "delay"] sp_own_hand := by
  refine fn2_of F sc_own_hand no_own_hand (fun ds M Q E h => ?_) (fun X ds M Q E C h => ?_)
  · repeat (first | (obtain ⟨rfl, _⟩ := h; rfl) | (obtain ⟨_, h⟩ := h))
  · obtain ⟨p, ws, d, rfl, l1, l0, d0, d1, k⟩ := h
    have l9 : 1000 ≤ sizeLine := by decide
    show WSs X _ _ [some (.tup [.int p, .tup (ws.map D.int)]), some (.int (d : Nat)), none, none, none] M
    refine wss_cons ?_
    repeat' (k_extra "y")
    intro pa ha
    repeat' (k_extra "y")
    refine ⟨_, mup_same, by omega, by omega, by simp only [List.length_cons, List.length_nil]; omega, fun pf hpf => ?_⟩
    rw [Int.toNat_natCast, rep_flat]
    have x1 := (Ext.new (M := M) (o := .lst [.int p]) ha).trans (Ext.new (o := .lst ((List.replicate d p).map D.int)) hpf)
    have f0 : M pf = none := (Ext.new (M := M) ha).free hpf
    have e1 : mup (mup M pa (.lst [.int p])) pf (.lst ((List.replicate d p).map D.int)) pf = some (.lst ((List.replicate d p ++ (tl p ws).take 0).map D.int)) := by rw [mup_same]; simp
    generalize mup (mup M pa (.lst [.int p])) pf (.lst ((List.replicate d p).map D.int)) = M1 at x1 e1 ⊢
    clear hpf
    repeat' (k_extra "y")
    refine ws_for (t := .nm 4) C (by k_extra "tgt") (fun _ => rfl) ?_
    refine wi_tup ?_
    repeat' (k_extra "y")
    rw [cut_init, ← List.map_dropLast]
    refine ⟨fun j ρ M' => ∃ c4, ρ = [some (.tup [.int p, .tup (ws.map D.int)]), some (.int (d : Nat)), some (.obj pf), some (.int (p - (ws.take j).sum)), c4] ∧ M' pf = some (.lst ((List.replicate d p ++ (tl p ws).take j).map D.int)) ∧ Ext M M', ⟨none, by simp, e1, x1⟩, fun _ _ _ _ => trivial, ?_, ?_⟩
    · rintro j dd ρ M' hd ⟨c4, rfl, e, x⟩
      obtain ⟨u, rfl, hu⟩ := get_map hd
      have hj : j < ws.dropLast.length := (List.getElem?_eq_some_iff.mp hu).1
      rw [List.length_dropLast] at hj
      have hu' : ws[j]? = some u := by
        rw [List.dropLast_eq_take, List.getElem?_take, if_pos (by omega)] at hu
        exact hu
      have st : (ws.take (j + 1)).sum = (ws.take j).sum + u := by rw [take_succ' hu', List.sum_append]; simp
      have tg := tl_get p ws j (by omega)
      refine ⟨[some (.tup [.int p, .tup (ws.map D.int)]), some (.int (d : Nat)), some (.obj pf), some (.int (p - (ws.take j).sum)), some (.int u)], rfl, ?_⟩
      refine wss_cons ?_
      refine ws_subI C (by k_extra "slot") (by k_extra "gl") ?_
      repeat' (k_extra "y")
      refine ⟨_, _, rfl, by k_extra "put", ?_⟩
      repeat' (k_extra "y")
      refine ⟨pf, _, rfl, e, ?_⟩
      repeat' (k_extra "y")
      refine ⟨_, e, by simp only [List.length_map, List.length_append, List.length_replicate, List.length_take]; omega, _, by rw [st, Int.sub_sub], by rw [mup_same, take_succ' tg, ← List.append_assoc, st, Int.sub_sub]; simp, x.put f0⟩
    · rintro ρ M' ⟨c4, rfl, e, x⟩
      rw [List.length_map, List.length_dropLast, ← tl_len p ws, List.take_length] at e
      repeat' (k_extra "y")
      exact k _ _ f0 e x
/-! ### asked_sum -/
abbrev s_asked_sum : Stmt := top 29
theorem sc_asked_sum : FnScope ["straight", "number", "parts", "weights", "line", "delay"] ["straight", "number"] (defScope s_asked_sum) := ⟨rfl, rfl, rfl, by decide +kernel, rfl, by decide +kernel, by decide +kernel⟩
abbrev nm_asked_sum : Nms := ⟨["straight", "number", "parts", "weights", "line", "delay"], ["straight", "number", "parts", "weights", "line", "delay"], ["straight", "number", "parts", "weights", "line", "delay"], ["multiplied", "least_terms"], []⟩
theorem no_asked_sum : nm_asked_sum.ok (defScope s_asked_sum) = true := by decide +kernel
def sp_asked_sum : Sp2 := fun ds M Q _ => ∃ (hs : List Sh) (i : Nat), ds = [stD hs, .int (i : Nat)] ∧ StOk hs ∧ i ≤ hs.length ∧ ∀ M', Ext M M' → Q (lnD (low (pre (hs.take i)).1 (pre (hs.take i)).2).1 (low (pre (hs.take i)).1 (pre (hs.take i)).2).2) M'
theorem ok_asked_sum {f : Addr} {fd : FuncData} (F : Fun K "asked_sum" "asked_sum" s_asked_sum f fd) (T : Txt mg) (G_least_terms : Def2 P w K mg base CX0 2 "least_terms" ["parts", "weights"] sp_least_terms) (G_multiplied : Def2 P w K mg base CX0 1 "multiplied" ["one", "other"] sp_multiplied) : Fn2 P w K mg base CX0 3 f fd ["straight", "number"] sp_asked_sum := by
  refine fn2_of F sc_asked_sum no_asked_sum (fun ds M Q E h => ?_) (fun X ds M Q E C h => ?_)
  · repeat (first | (obtain ⟨rfl, _⟩ := h; rfl) | (obtain ⟨_, h⟩ := h))
  · obtain ⟨hs, i, rfl, ok, hi, k⟩ := h
    show WSs X _ _ [some (.tup (hs.map shD)), some (.int (i : Nat)), none, none, none, none] M
    refine wss_cons ?_
    repeat' (k_extra "y")
    intro p1 h1
    have x1 := Ext.new (o := .lst [.int 1]) h1
    have e1 : mup M p1 (.lst [.int 1]) p1 = some (.lst (([1] : List Int).map D.int)) := mup_same
    repeat' (k_extra "y")
    refine ws_for (t := .tp [.nm 4, .nm 5]) C (by k_extra "tgt") (fun _ => rfl) ?_
    refine wi_tup ?_
    repeat' (k_extra "y")
    rw [cut_take (by rw [List.length_map]; exact hi), ← List.map_take]
    generalize mup M p1 (.lst [.int 1]) = M1 at x1 e1 ⊢
    refine ⟨fun j ρ M' => ∃ pw c4 c5, ρ = [some (.tup (hs.map shD)), some (.int (i : Nat)), some (.int (pre (hs.take j)).1), some (.obj pw), c4, c5] ∧ M' pw = some (.lst ((pre (hs.take j)).2.map D.int)) ∧ Ext M M', ⟨p1, _, _, rfl, e1, x1⟩, fun _ _ _ _ => trivial, ?_, ?_⟩
    · rintro j d ρ M' hd ⟨pw, c4, c5, rfl, e, x⟩
      obtain ⟨u, rfl, hu⟩ := get_map hd
      rw [List.getElem?_take] at hu
      split at hu
      · rename_i hj
        have oku := (ok.h u (List.mem_of_getElem? hu)).ln
        have pn := pre_n ok (n := j) (by omega)
        have a0 := pn.l0
        have a1 := pn.l1
        have p0 := pn.p0
        have p1 := pn.p1
        have q0 := oku.p0
        have q1 := oku.p1
        have u0 := oku.l0
        have u1 := oku.l1
        refine ⟨[some (.tup (hs.map shD)), some (.int (i : Nat)), some (.int (pre (hs.take j)).1), some (.obj pw), some (.tup [.int u.p, .tup (u.ws.map D.int)]), some (.int (u.d : Nat))], rfl, ?_⟩
        repeat' (k_extra "y")
        · exact mulW (a := 14) (b := 6) (by unfold Bd; omega) (by unfold Bd; omega)
        refine ⟨_, _, _, u.ws, rfl, .inl ⟨pw, rfl, e⟩, .inr rfl, a0, by omega, u0, by omega, fun y hy => (by unfold Bd; have := pn.w y hy; omega : Bd 40 y).le (by decide), fun y hy => (by unfold Bd; have := oku.w y hy; omega : Bd 40 y).le (by decide), fun pf M3 hpf e3 x3 => ?_⟩
        repeat' (k_extra "y")
        exact ⟨pf, _, _, by rw [pre_take hu], by rw [pre_take hu]; exact e3, x.trans x3⟩
      · cases hu
    · rintro ρ M' ⟨pw, c4, c5, rfl, e, x⟩
      simp only [List.length_map, List.length_take, Nat.min_eq_left hi] at e ⊢
      have pn := pre_n ok (n := i) (by omega)
      have a0 := pn.l0
      have a1 := pn.l1
      have p0 := pn.p0
      have p1 := pn.p1
      repeat' (k_extra "y")
      exact ⟨_, _, _, rfl, .inl ⟨pw, rfl, e⟩, by omega, by omega, ne_len a0, by omega, fun y hy => by have := pn.w y hy; omega, fun M4 x4 => k _ (x.trans x4)⟩
/-! ### is_line -/
abbrev s_is_line : Stmt := top 26
theorem sc_is_line : FnScope ["value"] ["value"] (defScope s_is_line) := ⟨rfl, rfl, rfl, by decide +kernel, rfl, by decide +kernel, by decide +kernel⟩
abbrev nm_is_line : Nms := ⟨["value"], ["value"], ["value"], ["need_line", "BadLine"], []⟩
theorem no_is_line : nm_is_line.ok (defScope s_is_line) = true := by decide +kernel
def sp_is_line : Sp2 := fun ds M Q _ => ∃ (p : Int) (ws : List Int), ds = [lnD p ws] ∧ LnOk p ws ∧ ∀ M', Ext M M' → Q (.bl true) M'
theorem ok_is_line {f : Addr} {fd : FuncData} (F : Fun K "is_line" "is_line" s_is_line f fd) (T : Txt mg) (G_need_line : Def2 P w K mg base CX0 4 "need_line" ["thing"] sp_need_line) : Fn2 P w K mg base CX0 5 f fd ["value"] sp_is_line := by
  refine fn2_of F sc_is_line no_is_line (fun ds M Q E h => ?_) (fun X ds M Q E C h => ?_)
  · repeat (first | (obtain ⟨rfl, _⟩ := h; rfl) | (obtain ⟨_, h⟩ := h))
  · obtain ⟨p, ws, rfl, ok, k⟩ := h
    show WSs X _ _ [some (lnD p ws)] M
    refine wss_cons ?_
    refine ws_try0 ?_
    have C' := C.nox
    refine wss_one ?_
    repeat' (k_extra "y")
    refine ⟨p, ws, rfl, ok, fun M1 x1 => ?_⟩
    repeat' (k_extra "y")
    exact k _ x1
/-! ### need_straight -/
abbrev s_need_straight : Stmt := top 27
theorem sc_need_straight : FnScope ["thing", "number", "house"] ["thing"] (defScope s_need_straight) := ⟨rfl, rfl, rfl, by decide +kernel, rfl, by decide +kernel, by decide +kernel⟩
abbrev nm_need_straight : Nms := ⟨["thing", "number", "house"], ["thing", "number", "house"], ["thing", "number", "house"], ["isinstance", "tuple", "len", "MOST_STRAIGHT", "BadStraight", "enumerate", "is_line", "is_whole", "MOST_DELAY"], []⟩
theorem no_need_straight : nm_need_straight.ok (defScope s_need_straight) = true := by decide +kernel
def sp_need_straight : Sp2 := fun ds M Q _ => ∃ (hs : List Sh), ds = [stD hs] ∧ StOk hs ∧ ∀ M', Ext M M' → Q (stD hs) M'
theorem ok_need_straight {f : Addr} {fd : FuncData} (F : Fun K "need_straight" "need_straight" s_need_straight f fd) (T : Txt mg) (G_is_whole : Def2 P w K mg base CX0 1 "is_whole" ["value", "least", "most"] sp_is_whole) (G_is_line : Def2 P w K mg base CX0 5 "is_line" ["value"] sp_is_line) : Fn2 P w K mg base CX0 6 f fd ["thing"] sp_need_straight := by
  refine fn2_of F sc_need_straight no_need_straight (fun ds M Q E h => ?_) (fun X ds M Q E C h => ?_)
  · repeat (first | (obtain ⟨rfl, _⟩ := h; rfl) | (obtain ⟨_, h⟩ := h))
  · obtain ⟨hs, rfl, ok, k⟩ := h
    have n0 := ok.n0
    have n1 := ok.n1
    show WSs X _ _ [some (.tup (hs.map shD)), none, none] M
    refine wss_cons ?_
    repeat' (k_extra "y")
    refine ws_for (t := .tp [.nm 1, .nm 2]) C (by k_extra "tgt") (fun _ => rfl) ?_
    k_extra "enT"
    repeat' (k_extra "y")
    refine ⟨fun i ρ M' => ∃ c1 c2, ρ = [some (.tup (hs.map shD)), c1, c2] ∧ Ext M M', ⟨_, _, rfl, Ext.refl _⟩, fun _ _ _ _ => trivial, ?_, ?_⟩
    · rintro i d ρ M' hd ⟨c1, c2, rfl, x'⟩
      obtain ⟨f, hf, rfl⟩ := enumD_get hd
      obtain ⟨u, rfl, hu⟩ := get_map hf
      have oku := ok.h u (List.mem_of_getElem? hu)
      have d0 := oku.d0
      have d1 := oku.d1
      refine ⟨[some (.tup (hs.map shD)), some (.int (i : Nat)), some (.tup [.tup [.int u.p, .tup (u.ws.map D.int)], .int (u.d : Nat)])], rfl, ?_⟩
      refine wss_cons ?_
      repeat' (k_extra "y")
      refine ⟨u.p, u.ws, rfl, lnT_ok' oku.ln, fun M1 x1 => ?_⟩
      repeat' (k_extra "y")
      exact ⟨_, _, rfl, x'.trans x1⟩
    · rintro ρ M' ⟨c1, c2, rfl, x'⟩
      repeat' (k_extra "y")
      exact k _ x'
/-! ### need_house -/
abbrev s_need_house : Stmt := top 28
theorem sc_need_house : FnScope ["straight", "number"] ["straight", "number"] (defScope s_need_house) := ⟨rfl, rfl, rfl, by decide +kernel, rfl, by decide +kernel, by decide +kernel⟩
abbrev nm_need_house : Nms := ⟨["straight", "number"], ["straight", "number"], ["straight", "number"], ["need_straight", "is_whole", "len", "BadNumber"], []⟩
theorem no_need_house : nm_need_house.ok (defScope s_need_house) = true := by decide +kernel
def sp_need_house : Sp2 := fun ds M Q _ => ∃ (hs : List Sh) (i : Nat), ds = [stD hs, .int (i : Nat)] ∧ StOk hs ∧ i < hs.length ∧ ∀ M', Ext M M' → Q .non M'
theorem ok_need_house {f : Addr} {fd : FuncData} (F : Fun K "need_house" "need_house" s_need_house f fd) (T : Txt mg) (G_is_whole : Def2 P w K mg base CX0 1 "is_whole" ["value", "least", "most"] sp_is_whole) (G_need_straight : Def2 P w K mg base CX0 6 "need_straight" ["thing"] sp_need_straight) : Fn2 P w K mg base CX0 7 f fd ["straight", "number"] sp_need_house := by
  refine fn2_of F sc_need_house no_need_house (fun ds M Q E h => ?_) (fun X ds M Q E C h => ?_)
  · repeat (first | (obtain ⟨rfl, _⟩ := h; rfl) | (obtain ⟨_, h⟩ := h))
  · obtain ⟨hs, i, rfl, ok, hi, k⟩ := h
    show WSs X _ _ [some (.tup (hs.map shD)), some (.int (i : Nat))] M
    refine wss_cons ?_
    repeat' (k_extra "y")
    refine ⟨hs, rfl, ok, fun M1 x1 => ?_⟩
    repeat' (k_extra "y")
    exact k _ x1
/-! ### order_sum -/
abbrev s_order_sum : Stmt := top 30
theorem sc_order_sum : FnScope ["straight", "number"] ["straight", "number"] (defScope s_order_sum) := ⟨rfl, rfl, rfl, by decide +kernel, rfl, by decide +kernel, by decide +kernel⟩
abbrev nm_order_sum : Nms := ⟨["straight", "number"], ["straight", "number"], ["straight", "number"], ["need_house", "asked_sum"], []⟩
theorem no_order_sum : nm_order_sum.ok (defScope s_order_sum) = true := by decide +kernel
def sp_order_sum : Sp2 := fun ds M Q _ => ∃ (hs : List Sh) (i : Nat), ds = [stD hs, .int (i : Nat)] ∧ StOk hs ∧ i < hs.length ∧ ∀ M', Ext M M' → Q (lnD (low (pre (hs.take (i + 1))).1 (pre (hs.take (i + 1))).2).1 (low (pre (hs.take (i + 1))).1 (pre (hs.take (i + 1))).2).2) M'
theorem ok_order_sum {f : Addr} {fd : FuncData} (F : Fun K "order_sum" "order_sum" s_order_sum f fd) (T : Txt mg) (G_need_house : Def2 P w K mg base CX0 7 "need_house" ["straight", "number"] sp_need_house) (G_asked_sum : Def2 P w K mg base CX0 3 "asked_sum" ["straight", "number"] sp_asked_sum) : Fn2 P w K mg base CX0 8 f fd ["straight", "number"] sp_order_sum := by
  refine fn2_of F sc_order_sum no_order_sum (fun ds M Q E h => ?_) (fun X ds M Q E C h => ?_)
  · repeat (first | (obtain ⟨rfl, _⟩ := h; rfl) | (obtain ⟨_, h⟩ := h))
  · obtain ⟨hs, i, rfl, ok, hi, k⟩ := h
    show WSs X _ _ [some (.tup (hs.map shD)), some (.int (i : Nat))] M
    refine wss_cons ?_
    repeat' (k_extra "y")
    refine ⟨hs, i, rfl, ok, hi, fun M1 x1 => ?_⟩
    repeat' (k_extra "y")
    refine ⟨hs, i + 1, by rw [Int.natCast_succ]; rfl, ok, hi, fun M2 x2 => k _ (x1.trans x2)⟩
/-! ### hand_sum -/
abbrev s_hand_sum : Stmt := top 32
theorem sc_hand_sum : FnScope ["straight", "number", "line", "delay", "parts", "weights"] ["straight", "number"] (defScope s_hand_sum) := ⟨rfl, rfl, rfl, by decide +kernel, rfl, by decide +kernel, by decide +kernel⟩
abbrev nm_hand_sum : Nms := ⟨["straight", "number", "line", "delay", "parts", "weights"], ["straight", "number", "line", "delay", "parts", "weights"], ["straight", "number", "line", "delay", "parts", "weights"], ["need_house", "asked_sum", "least_terms", "multiplied", "list", "own_hand"], []⟩
theorem no_hand_sum : nm_hand_sum.ok (defScope s_hand_sum) = true := by decide +kernel
/-- the hand sum of a house -/
def hsm (hs : List Sh) (i : Nat) (u : Sh) : Int × List Int := low ((pre (hs.take i)).1 * u.p) (cvL (pre (hs.take i)).2 (own u.p u.d u.ws))
theorem own_ok {u : Sh} (ok : ShOk u) : (own u.p u.d u.ws).length ≤ 11 ∧ 1 ≤ (own u.p u.d u.ws).length ∧ ∀ x ∈ own u.p u.d u.ws, -1620 ≤ x ∧ x ≤ 1620 := by
  have d0 := ok.d0
  have d1 := ok.d1
  have l0 := ok.ln.l0
  have l1 := ok.ln.l1
  have p0 := ok.ln.p0
  have p1 := ok.ln.p1
  refine ⟨by rw [own_len]; omega, by rw [own_len]; omega, fun x hx => ?_⟩
  rcases List.mem_append.mp hx with h | h
  · rw [(List.mem_replicate.mp h).2]; omega
  · have := tl_bd (A := 200) (by decide) u.p u.ws ok.ln.w x h
    omega
theorem low_w {p : Int} {ws : List Int} {B : Int} (hp : 0 < p) (h : ∀ x ∈ ws, -B ≤ x ∧ x ≤ B) (hw : ws ≠ []) : 0 < (low p ws).1 ∧ (low p ws).1 ≤ p ∧ (low p ws).2 ≠ [] ∧ (low p ws).2.length ≤ ws.length ∧ ∀ x ∈ (low p ws).2, -B ≤ x ∧ x ≤ B := by
  obtain ⟨g, z, g0, e1, e2, h1, h2⟩ := low_fac hp hw
  have B0 : 0 ≤ B := by
    obtain ⟨x, hx⟩ := List.exists_mem_of_ne_nil ws hw
    have := h x hx
    omega
  generalize (low p ws).2 = v at *
  generalize (low p ws).1 = H at *
  subst e1
  subst e2
  have gH : 0 ≤ (g - 1) * H := Int.mul_nonneg (by omega) (by omega)
  have e : (g - 1) * H = g * H - H := by rw [Int.sub_mul, Int.one_mul]
  refine ⟨h1, by omega, h2, by simp, fun x hx => ?_⟩
  have := h (g * x) (List.mem_append_left _ (List.mem_map_of_mem hx))
  have hn : x.natAbs ≤ (g * x).natAbs := by
    rw [Int.natAbs_mul]
    exact Nat.le_mul_of_pos_left _ (by omega)
  omega
def sp_hand_sum : Sp2 := fun ds M Q _ => ∃ (hs : List Sh) (i : Nat) (u : Sh), ds = [stD hs, .int (i : Nat)] ∧ StOk hs ∧ hs[i]? = some u ∧ ∀ M', Ext M M' → Q (lnD (hsm hs i u).1 (hsm hs i u).2) M'
theorem ok_hand_sum {f : Addr} {fd : FuncData} (F : Fun K "hand_sum" "hand_sum" s_hand_sum f fd) (T : Txt mg) (G_least_terms : Def2 P w K mg base CX0 2 "least_terms" ["parts", "weights"] sp_least_terms) (G_multiplied : Def2 P w K mg base CX0 1 "multiplied" ["one", "other"] sp_multiplied) (G_need_house : Def2 P w K mg base CX0 7 "need_house" ["straight", "number"] sp_need_house) (G_asked_sum : Def2 P w K mg base CX0 3 "asked_sum" ["straight", "number"] sp_asked_sum) (G_own_hand : Def2 P w K mg base CX0 1 "own_hand" ["line", "delay"] sp_own_hand) : Fn2 P w K mg base CX0 8 f fd ["straight", "number"] sp_hand_sum := by
  refine fn2_of F sc_hand_sum no_hand_sum (fun ds M Q E h => ?_) (fun X ds M Q E C h => ?_)
  · repeat (first | (obtain ⟨rfl, _⟩ := h; rfl) | (obtain ⟨_, h⟩ := h))
  · obtain ⟨hs, i, u, rfl, ok, hu, k⟩ := h
    have hi : i < hs.length := (List.getElem?_eq_some_iff.mp hu).1
    have oku := ok.h u (List.mem_of_getElem? hu)
    have pn := pre_n ok (n := i) (by omega)
    have ow := own_ok oku
    have p0 := pn.p0
    have p1 := pn.p1
    have q0 := oku.ln.p0
    have q1 := oku.ln.p1
    have lw := low_w (p := (pre (hs.take i)).1) p0 pn.w (ne_len pn.l0)
    have lv : 0 < (low (pre (hs.take i)).1 (pre (hs.take i)).2).2.length := List.length_pos_iff.mpr lw.2.2.1
    have l22 := pn.l1
    show WSs X _ _ [some (.tup (hs.map shD)), some (.int (i : Nat)), none, none, none, none] M
    refine wss_cons ?_
    repeat' (k_extra "y")
    refine ⟨hs, i, rfl, ok, hi, fun M1 x1 => ?_⟩
    repeat' (k_extra "y")
    dsimp only [shD]
    repeat' (k_extra "y")
    refine ⟨hs, i, rfl, ok, by omega, fun M2 x2 => ?_⟩
    dsimp only [lnD]
    repeat' (k_extra "y")
    · exact mulW (a := 14) (b := 6) (by unfold Bd; omega) (by unfold Bd; omega)
    intro pa ha
    repeat' (k_extra "y")
    refine ⟨u.p, u.ws, u.d, rfl, oku.ln.l1, oku.ln.l0, oku.d0, oku.d1, fun po M3 hpo e3 x3 => ?_⟩
    have xa := Ext.new (o := .lst ((low (pre (hs.take i)).1 (pre (hs.take i)).2).2.map D.int)) ha
    repeat' (k_extra "y")
    refine ⟨_, _, _, _, rfl, .inl ⟨pa, rfl, x3 _ _ mup_same⟩, .inl ⟨po, rfl, e3⟩, by omega, by omega, ow.2.1, by omega, fun y hy => (by unfold Bd; have := lw.2.2.2.2 y hy; omega : Bd 40 y).le (by decide), fun y hy => (by unfold Bd; have := ow.2.2 y hy; omega : Bd 40 y).le (by decide), fun pf M4 hpf e4 x4 => ?_⟩
    repeat' (k_extra "y")
    have cb := cvL_b (B := 1620) lw.2.2.2.2 ow.2.2 (by decide) (by decide)
    have cl : (cvL (low (pre (hs.take i)).1 (pre (hs.take i)).2).2 (own u.p u.d u.ws)).length = _ := cvL_len
    have lc := low_cv (P := (pre (hs.take i)).1) (q := u.p) (o := own u.p u.d u.ws) (by omega) (by omega) (ne_len pn.l0) (ne_len ow.2.1)
    have pm : (low (pre (hs.take i)).1 (pre (hs.take i)).2).1 * u.p ≤ 8000 * 20 := Int.mul_le_mul (by omega) q1 (by omega) (by omega)
    refine ⟨_, _, _, rfl, .inl ⟨pf, rfl, e4⟩, Int.mul_pos lw.1 (by omega), by omega, ne_len (by omega), by omega, fun y hy => ?_, fun M5 x5 => ?_⟩
    · have := cb y hy
      have m : ((low (pre (hs.take i)).1 (pre (hs.take i)).2).2.length : Int) * (960000000 * 1620) ≤ 22 * (960000000 * 1620) := Int.mul_le_mul_of_nonneg_right (by omega) (by decide)
      omega
    · rw [lc]
      exact k _ ((((x1.trans x2).trans xa).trans x3).trans (x4.trans x5))
/-! ### hands -/
abbrev s_hands : Stmt := top 33
theorem sc_hands : FnScope ["straight", "number", "demands", "calm", "parts", "weights", "rows", "one"] ["straight", "number", "demands", "calm"] (defScope s_hands) := ⟨rfl, rfl, rfl, by decide +kernel, rfl, by decide +kernel, by decide +kernel⟩
abbrev nm_hands : Nms := ⟨["straight", "number", "demands", "calm", "parts", "weights", "rows"], ["straight", "number", "demands", "calm", "parts", "weights", "rows"], ["straight", "number", "demands", "parts", "rows"], ["hand_sum", "need_demands", "is_whole", "MOST_DEMAND", "BadNumber", "tuple", "told_of"], ["calm", "weights"]⟩
theorem no_hands : nm_hands.ok (defScope s_hands) = true := by decide +kernel
abbrev nb_hands_0 : Nms := ⟨["one", "calm", "weights"], ["one"], ["one"], ["sum"], ["calm", "weights"]⟩
abbrev ow_hands_0 : List (Str × Nat) := [("one", 7)]
def hnL (hs : List Sh) (i : Nat) (u : Sh) (ns : List Int) (c : Int) : List Int := (odL (hsm hs i u).2 ns c).map fun z => c * (hsm hs i u).2.sum - z
def sp_hands : Sp2 := fun ds M Q _ => ∃ (hs : List Sh) (i : Nat) (u : Sh) (d : D) (ns : List Int) (c : Int), ds = [stD hs, .int (i : Nat), d, .int c] ∧ StOk hs ∧ hs[i]? = some u ∧ ((∃ a, d = .obj a ∧ M a = some (.lst (ns.map D.int))) ∨ d = .tup (ns.map D.int)) ∧ ns.length ≤ 400 ∧ (∀ x ∈ ns, 0 ≤ x ∧ x ≤ 9) ∧ 0 ≤ c ∧ c ≤ 9 ∧ ∀ M', Ext M M' → Q (.tup ((hnL hs i u ns c).map D.int)) M'
theorem hsm_ok {hs : List Sh} {i : Nat} {u : Sh} (ok : StOk hs) (hu : hs[i]? = some u) : 0 < (hsm hs i u).1 ∧ (hsm hs i u).1 ≤ 160000 ∧ 1 ≤ (hsm hs i u).2.length ∧ (hsm hs i u).2.length ≤ 32 ∧ ∀ x ∈ (hsm hs i u).2, -40000000000000 ≤ x ∧ x ≤ 40000000000000 := by
  have hi : i < hs.length := (List.getElem?_eq_some_iff.mp hu).1
  have oku := ok.h u (List.mem_of_getElem? hu)
  have pn := pre_n ok (n := i) (by omega)
  have ow := own_ok oku
  have p0 := pn.p0
  have p1 := pn.p1
  have q0 := oku.ln.p0
  have q1 := oku.ln.p1
  have a0 := pn.l0
  have a1 := pn.l1
  have cl : (cvL (pre (hs.take i)).2 (own u.p u.d u.ws)).length = _ := cvL_len
  have pm : (pre (hs.take i)).1 * u.p ≤ 8000 * 20 := Int.mul_le_mul (by omega) q1 (by omega) (by omega)
  have lw := low_w (p := (pre (hs.take i)).1 * u.p) (ws := cvL (pre (hs.take i)).2 (own u.p u.d u.ws)) (B := 40000000000000) (Int.mul_pos (by omega) (by omega)) (fun x hx => by
    have := cvL_b (B := 1620) pn.w ow.2.2 (by decide) (by decide) x hx
    have m : ((pre (hs.take i)).2.length : Int) * (960000000 * 1620) ≤ 22 * (960000000 * 1620) := Int.mul_le_mul_of_nonneg_right (by omega) (by decide)
    omega) (ne_len (by omega))
  have lv : 0 < (hsm hs i u).2.length := List.length_pos_iff.mpr lw.2.2.1
  exact ⟨lw.1, Int.le_trans lw.2.1 pm, lv, Nat.le_trans lw.2.2.2.1 (by omega), lw.2.2.2.2⟩
theorem ok_hands {f : Addr} {fd : FuncData} (F : Fun K "hands" "hands" s_hands f fd) (T : Txt mg) (G_is_whole : Def2 P w K mg base CX0 1 "is_whole" ["value", "least", "most"] sp_is_whole) (G_need_demands : Def2 P w K mg base CX0 2 "need_demands" ["demands"] sp_need_demands) (G_told_of : Def2 P w K mg base CX0 1 "told_of" ["parts", "weights", "demands", "calm"] sp_told_of) (G_hand_sum : Def2 P w K mg base CX0 8 "hand_sum" ["straight", "number"] sp_hand_sum) : Fn2 P w K mg base CX0 9 f fd ["straight", "number", "demands", "calm"] sp_hands := by
  refine fn2_of F sc_hands no_hands (fun ds M Q E h => ?_) (fun X ds M Q E C h => ?_)
  · repeat (first | (obtain ⟨rfl, _⟩ := h; rfl) | (obtain ⟨_, h⟩ := h))
  · obtain ⟨hs, i, u, d, ns, c, rfl, ok, hu, hd, nl, hn, c0, c1, k⟩ := h
    have l9 : 1000 ≤ sizeLine := by decide
    have hi : i < hs.length := (List.getElem?_eq_some_iff.mp hu).1
    have hk := hsm_ok ok hu
    show WSs X _ _ [some (.tup (hs.map shD)), some (.int (i : Nat)), some d, some (.int c), none, none, none, none] M
    refine wss_cons ?_
    repeat' (k_extra "y")
    refine ⟨hs, i, u, rfl, ok, hu, fun M1 x1 => ?_⟩
    dsimp only [lnD]
    repeat' (k_extra "y")
    refine ⟨d, ns, rfl, hd.elim (fun ⟨a, e, h⟩ => .inl ⟨a, e, x1 _ _ h⟩) .inr, nl, hn, ?_⟩
    repeat' (k_extra "y")
    refine we_lcG (own := ow_hands_0) (t := .nm 7) C (by decide +kernel) (by decide) (fun X' B => by have C' := C.blk (sc2 := nb_hands_0) B rfl (by decide +kernel); k_extra "tgt") (fun _ => rfl) ?_
    refine wi_list ?_
    repeat' (k_extra "y")
    refine ⟨_, (hsm hs i u).2, ns, c, rfl, nl, fun x hx => (by unfold Bd; have := hk.2.2.2.2 x hx; omega : Bd 50 x).le (by decide), fun x hx => (by unfold Bd; have := hn x hx; omega : Bd 10 x).le (by decide), (by unfold Bd; omega : Bd 10 c).le (by decide), fun pf M2 hpf e2 => ?_⟩
    have e3 : M2 pf = some (.lst ((odL (hsm hs i u).2 ns c).map D.int)) := by rw [e2]; exact mup_same
    have x2 : Ext M M2 := by rw [e2]; exact x1.trans (Ext.new hpf)
    have sm := sum_r hk.2.2.2.2
    have sm2 : ((hsm hs i u).2.length : Int) * 40000000000000 ≤ 32 * 40000000000000 := Int.mul_le_mul_of_nonneg_right (by omega) (by decide)
    refine ⟨pf, _, rfl, by rw [e3]; rfl, (hnL hs i u ns c).map D.int, ⟨by simp only [odL, List.length_map, List.length_range]; omega, by simp [hnL], fun M5 x5 => (by show lstOf (M5 pf) = _; rw [x5 _ _ e3]; rfl), fun j d v M5 hd hv x5 => ?_⟩, fun pg M5 hpg e5 x5 => ?_⟩
    · obtain ⟨y, rfl, hy⟩ := get_map hd
      unfold hnL at hv
      have ez := get_map2 hv hy
      subst ez
      refine ⟨[some (.tup (hs.map shD)), some (.int (i : Nat)), some d, some (.int c), some (.int (hsm hs i u).1), some (.tup ((hsm hs i u).2.map D.int)), some (.tup (ns.map D.int)), some (.int y)], rfl, fun X' B => ?_⟩
      have C' := C.blk (sc2 := nb_hands_0) B rfl (by decide +kernel)
      repeat' (k_extra "y")
      · exact mulW (a := 6) (b := 60) (by unfold Bd; omega) (by unfold Bd; omega)
      · exact ⟨Ext.refl _, rfl⟩
    · repeat' (k_extra "y")
      exact k _ (x2.trans x5)
/-! ### _law_like -/
abbrev s__law_like : Stmt := top 39
theorem sc__law_like : FnScope ["_law_heard", "_law_due"] ["_law_heard", "_law_due"] (defScope s__law_like) := ⟨rfl, rfl, rfl, by decide +kernel, rfl, by decide +kernel, by decide +kernel⟩
abbrev nm__law_like : Nms := ⟨["_law_heard", "_law_due"], ["_law_heard", "_law_due"], ["_law_heard", "_law_due"], ["repr"], []⟩
theorem no__law_like : nm__law_like.ok (defScope s__law_like) = true := by decide +kernel
def sp__law_like : Sp2 := fun ds M Q _ => ∃ (d1 d2 : D) (p : PyData) (l1 k1 l2 k2 : Nat), ds = [d1, d2] ∧ PyS M l1 k1 d1 p ∧ PyS M l2 k2 d2 p ∧ l1 ≤ sizeLine ∧ k1 ≤ 60 ∧ l2 ≤ sizeLine ∧ k2 ≤ 60 ∧ Q (.bl true) M
theorem ok__law_like {f : Addr} {fd : FuncData} (F : Fun K "_law_like" "_law_like" s__law_like f fd) (T : Txt mg)  : Fn2 P w K mg base CX0 1 f fd ["_law_heard", "_law_due"] sp__law_like := by
  refine fn2_of F sc__law_like no__law_like (fun ds M Q E h => ?_) (fun X ds M Q E C h => ?_)
  · repeat (first | (obtain ⟨rfl, _⟩ := h; rfl) | (obtain ⟨_, h⟩ := h))
  · obtain ⟨d1, d2, p, l1, k1, l2, k2, rfl, h1, h2, b1, b2, b3, b4, k⟩ := h
    show WSs X _ _ [some d1, some d2] M
    refine wss_one ?_
    repeat' (k_extra "y")
    refine q_repr h1 b1 b2 ?_
    repeat' (k_extra "y")
    refine q_repr h2 b3 b4 ?_
    repeat' (k_extra "y")
    simpa using k
def pyLn (r : Int × List Int) : PyData := .tuple [.int r.1, .tuple (r.2.map .int)]
theorem trm_len : ∀ (n : Nat) (xs : List Int), (trm n xs).length ≤ xs.length
  | 0, _ => Nat.le_refl _
  | n + 1, xs => by
    rw [trm]
    split
    · exact Nat.le_trans (trm_len n _) (by simp)
    · exact Nat.le_refl _
theorem isDatL_ints : ∀ (xs : List Int), isDatL (xs.map D.int) = true
  | [] => rfl
  | x :: xs => by simp [isDatL, isDat, isDatL_ints xs]
theorem pyL_ints : ∀ (xs : List Int), pyL (xs.map D.int) = xs.map PyData.int
  | [] => rfl
  | x :: xs => by simp [pyL, D.py, pyL_ints xs]
theorem dat_ln {M : Mem} {r : Int × List Int} : datOf M (lnD r.1 r.2) = some (pyLn r) := by
  simp [datOf, lnD, isDat, isDatL, isDatL_ints, D.py, pyL, pyL_ints, pyLn]
theorem sh_ln {r : Int × List Int} : SeqAt.shaped (pyLn r) = true := by
  unfold SeqAt.shaped pyLn
  simp only [PyData.canLay0, PyData.canLayAll0, canLay_ints, PyData.depth, PyData.depthAll, depth_ints]
  rfl
theorem pys_ints {M : Mem} {xs : List Int} (h : ∀ x ∈ xs, -1000000000000000000 < x ∧ x < 1000000000000000000) : PySs M 20 0 (xs.map D.int) (xs.map .int) := pys_map fun x hx => pys_i (h x hx).1 (h x hx).2
theorem pys_ln {M : Mem} {r : Int × List Int} (h1 : -1000000000000000000 < r.1 ∧ r.1 < 1000000000000000000) (h : ∀ x ∈ r.2, -1000000000000000000 < x ∧ x < 1000000000000000000) (l : r.2.length ≤ 100) : PyS M 4413 2 (lnD r.1 r.2) (pyLn r) :=
  pys_tup (m := 2) (L := 2203) (K := 1) (pys_cons (pys_i h1.1 h1.2) (by decide) (by decide) (pys_cons (pys_tup (m := 100) (pys_ints h) (by rw [List.length_map]; exact l)) (by decide) (by decide) pys_nil)) (Nat.le_refl _)
/-! ### _law_is_int -/
abbrev s__law_is_int : Stmt := top 45
theorem sc__law_is_int : FnScope ["_law_thing"] ["_law_thing"] (defScope s__law_is_int) := ⟨rfl, rfl, rfl, by decide +kernel, rfl, by decide +kernel, by decide +kernel⟩
abbrev nm__law_is_int : Nms := ⟨["_law_thing"], ["_law_thing"], ["_law_thing"], ["isinstance", "int", "bool"], []⟩
theorem no__law_is_int : nm__law_is_int.ok (defScope s__law_is_int) = true := by decide +kernel
def sp__law_is_int : Sp2 := fun ds M Q _ => ∃ v : Int, ds = [.int v] ∧ Q (.bl true) M
theorem st__law_is_int {M : Mem} {Q : QE} {E : XQ} {v : Int} (q : Q (.bl true) M) : sp__law_is_int [.int v] M Q E := ⟨v, rfl, q⟩
theorem ok__law_is_int {f : Addr} {fd : FuncData} (F : Fun K "_law_is_int" "_law_is_int" s__law_is_int f fd) (T : Txt mg)  : Fn2 P w K mg base CX0 1 f fd ["_law_thing"] sp__law_is_int := by
  refine fn2_of F sc__law_is_int no__law_is_int (fun ds M Q E h => ?_) (fun X ds M Q E C h => ?_)
  · repeat (first | (obtain ⟨rfl, _⟩ := h; rfl) | (obtain ⟨_, h⟩ := h))
  · obtain ⟨v, rfl, k⟩ := h
    show WSs X _ _ [some (.int v)] M
    refine wss_one ?_
    repeat' (k_extra "y")
    exact k
example : True := by
  k_with "lq" => first | with_reducible apply st__law_is_int | fail
  trivial
/-! ### _law_sums -/
abbrev s__law_sums : Stmt := top 48
theorem sc__law_sums : FnScope ["_law_chain", "_law_number", "_law_parts", "_law_weights", "_law_line_here", "_law_late", "_law_own", "_law_k", "_law_whole"] ["_law_chain", "_law_number"] (defScope s__law_sums) := ⟨rfl, rfl, rfl, by decide +kernel, rfl, by decide +kernel, by decide +kernel⟩
abbrev nm__law_sums : Nms := ⟨["_law_chain", "_law_number", "_law_parts", "_law_weights", "_law_line_here", "_law_late", "_law_own", "_law_whole"], ["_law_chain", "_law_number", "_law_parts", "_law_weights", "_law_line_here", "_law_late", "_law_own", "_law_whole"], ["_law_chain", "_law_number", "_law_parts", "_law_weights", "_law_late", "_law_own", "_law_whole"], ["_law_times", "range", "len", "_law_lowest"], ["_law_line_here"]⟩
theorem no__law_sums : nm__law_sums.ok (defScope s__law_sums) = true := by decide +kernel
abbrev nb__law_sums_0 : Nms := ⟨["_law_k", "_law_line_here"], ["_law_k"], ["_law_k"], ["sum"], ["_law_line_here"]⟩
abbrev ow__law_sums_0 : List (Str × Nat) := [("_law_k", 7)]
def sp__law_sums : Sp2 := fun ds M Q _ => ∃ (hs : List Sh) (i : Nat) (u : Sh), ds = [stD hs, .int (i : Nat)] ∧ StOk hs ∧ hs[i]? = some u ∧ ∀ M', Ext M M' → Q (.tup [lnD (low (pre (hs.take (i + 1))).1 (pre (hs.take (i + 1))).2).1 (low (pre (hs.take (i + 1))).1 (pre (hs.take (i + 1))).2).2, lnD (hsm hs i u).1 (hsm hs i u).2]) M'
theorem tl_map {p : Int} {ws : List Int} : (List.range (ws.length - 1)).map (fun j => p - (ws.take (j + 1)).sum) = tl p ws := by
  refine List.ext_getElem? fun t => ?_
  rw [List.getElem?_map]
  by_cases c : t < ws.length - 1
  · rw [List.getElem?_range c, tl_get p ws t (by omega)]; rfl
  · rw [List.getElem?_eq_none (l := List.range (ws.length - 1)) (by simp; omega), List.getElem?_eq_none (l := tl p ws) (by rw [tl_len]; omega)]; rfl
theorem ok__law_sums {f : Addr} {fd : FuncData} (F : Fun K "_law_sums" "_law_sums" s__law_sums f fd) (T : Txt mg) (G__law_lowest : Def2 P w K mg base CX0 2 "_law_lowest" ["_law_parts", "_law_weights"] sp__law_lowest) (G__law_times : Def2 P w K mg base CX0 1 "_law_times" ["_law_one", "_law_other"] sp__law_times) : Fn2 P w K mg base CX0 3 f fd ["_law_chain", "_law_number"] sp__law_sums := by
  refine fn2_of F sc__law_sums no__law_sums (fun ds M Q E h => ?_) (fun X ds M Q E C h => ?_)
  · repeat (first | (obtain ⟨rfl, _⟩ := h; rfl) | (obtain ⟨_, h⟩ := h))
  · obtain ⟨hs, i, u, rfl, ok, hu, k⟩ := h
    have l9 : 1000 ≤ sizeLine := by decide
    have hi : i < hs.length := (List.getElem?_eq_some_iff.mp hu).1
    have oku := ok.h u (List.mem_of_getElem? hu)
    have ow := own_ok oku
    show WSs X _ _ [some (.tup (hs.map shD)), some (.int (i : Nat)), none, none, none, none, none, none, none] M
    refine wss_cons ?_
    repeat' (k_extra "y")
    intro p1 h1
    have x1 := Ext.new (o := .lst [.int 1]) h1
    have e1 : mup M p1 (.lst [.int 1]) p1 = some (.lst (([1] : List Int).map D.int)) := mup_same
    repeat' (k_extra "y")
    refine ws_for (t := .tp [.nm 4, .nm 5]) C (by k_extra "tgt") (fun _ => rfl) ?_
    refine wi_tup ?_
    repeat' (k_extra "y")
    rw [cut_take (by rw [List.length_map]; omega), ← List.map_take]
    generalize mup M p1 (.lst [.int 1]) = M1 at x1 e1 ⊢
    refine ⟨fun j ρ M' => ∃ pw c4 c5, ρ = [some (.tup (hs.map shD)), some (.int (i : Nat)), some (.int (pre (hs.take j)).1), some (.obj pw), c4, c5, none, none, none] ∧ M' pw = some (.lst ((pre (hs.take j)).2.map D.int)) ∧ Ext M M', ⟨p1, _, _, rfl, e1, x1⟩, fun _ _ _ _ => trivial, ?_, ?_⟩
    · rintro j d ρ M' hd ⟨pw, c4, c5, rfl, e, x⟩
      obtain ⟨v, rfl, hv⟩ := get_map hd
      rw [List.getElem?_take] at hv
      split at hv
      · rename_i hj
        have okv := (ok.h v (List.mem_of_getElem? hv)).ln
        have pn := pre_n ok (n := j) (by omega)
        have a0 := pn.l0
        have a1 := pn.l1
        have p0 := pn.p0
        have p1 := pn.p1
        have q0 := okv.p0
        have q1 := okv.p1
        have u0 := okv.l0
        have u1 := okv.l1
        refine ⟨[some (.tup (hs.map shD)), some (.int (i : Nat)), some (.int (pre (hs.take j)).1), some (.obj pw), some (.tup [.int v.p, .tup (v.ws.map D.int)]), some (.int (v.d : Nat)), none, none, none], rfl, ?_⟩
        repeat' (k_extra "y")
        · exact mulW (a := 14) (b := 6) (by unfold Bd; omega) (by unfold Bd; omega)
        refine ⟨_, _, _, v.ws, rfl, .inl ⟨pw, rfl, e⟩, .inr rfl, a0, by omega, u0, by omega, fun y hy => (by unfold Bd; have := pn.w y hy; omega : Bd 40 y).le (by decide), fun y hy => (by unfold Bd; have := okv.w y hy; omega : Bd 40 y).le (by decide), fun pf M3 hpf e3 x3 => ?_⟩
        repeat' (k_extra "y")
        exact ⟨pf, _, _, by rw [pre_take hv], by rw [pre_take hv]; exact e3, x.trans x3⟩
      · cases hv
    · rintro ρ M' ⟨pw, c4, c5, rfl, e, x⟩
      simp only [List.length_map, List.length_take, Nat.min_eq_left (Nat.le_of_lt hi)] at e ⊢
      have pn := pre_n ok (n := i) (by omega)
      have a0 := pn.l0
      have a1 := pn.l1
      have p0 := pn.p0
      have p1 := pn.p1
      have q0 := oku.ln.p0
      have q1 := oku.ln.p1
      have u0 := oku.ln.l0
      have u1 := oku.ln.l1
      have d0 := oku.d0
      have d1 := oku.d1
      repeat' (k_extra "y")
      dsimp only [shD]
      repeat' (k_extra "y")
      intro pa ha
      repeat' (k_extra "y")
      refine ⟨_, mup_same, by omega, by omega, by simp only [List.length_cons, List.length_nil]; omega, fun pb hpb => ?_⟩
      rw [Int.toNat_natCast, rep_flat]
      have x2 := (x.trans (Ext.new (o := .lst [.int u.p]) ha)).trans (Ext.new (o := .lst ((List.replicate u.d u.p).map D.int)) hpb)
      have e2 := mup_old (o' := .lst ((List.replicate u.d u.p).map D.int)) (mup_old (o' := .lst [.int u.p]) e ha) hpb
      have eb : mup (mup M' pa (.lst [.int u.p])) pb (.lst ((List.replicate u.d u.p).map D.int)) pb = some (.lst ((List.replicate u.d u.p).map D.int)) := mup_same
      generalize mup (mup M' pa (.lst [.int u.p])) pb (.lst ((List.replicate u.d u.p).map D.int)) = M2 at x2 e2 eb ⊢
      clear hpb ha
      show WE X _ _ M2 _
      refine we_lcG (own := ow__law_sums_0) (t := .nm 7) C (by decide +kernel) (by decide) (fun X' B => by have C' := C.blk (sc2 := nb__law_sums_0) B rfl (by decide +kernel); k_extra "tgt") (fun _ => rfl) ?_
      repeat' (k_extra "y")
      refine ⟨by rw [List.length_map]; omega, by rw [List.length_map]; omega, ((List.range (u.ws.length - 1)).map fun j => u.p - (u.ws.take (j + 1)).sum).map D.int, ⟨by simp only [List.length_map, List.length_range]; omega, by simp, fun _ _ => trivial, fun j d z M5 hd hz x5 => ?_⟩, fun pt M5 hpt e5 x5 => ?_⟩
      · obtain ⟨hj, rfl⟩ := rng_get hd
        rw [List.length_map] at hj
        have hj : j < u.ws.length - 1 := by omega
        obtain ⟨z', rfl, hz'⟩ := get_map hz
        rw [List.getElem?_map, List.getElem?_range hj] at hz'
        cases hz'
        rw [show (0 : Int) + (j : Nat) = (j : Nat) by omega]
        refine ⟨[some (.tup (hs.map shD)), some (.int (i : Nat)), some (.int (pre (hs.take i)).1), some (.obj pw), some (.tup [.int u.p, .tup (u.ws.map D.int)]), some (.int (u.d : Nat)), none, some (.int (j : Nat)), none], rfl, fun X' B => ?_⟩
        have C' := C.blk (sc2 := nb__law_sums_0) B rfl (by decide +kernel)
        repeat' (k_extra "y")
        rw [show (j : Int) + 1 = ((j + 1 : Nat) : Int) by omega, cut_take (by rw [List.length_map]; omega), ← List.map_take]
        repeat' (k_extra "y")
        exact ⟨Ext.refl _, rfl⟩
      · rw [tl_map] at e5
        have e6 := x5 _ _ eb
        repeat' (k_extra "y")
        · simp only [List.length_map, List.length_replicate, tl_len]; omega
        intro po hpo
        rw [← List.map_append]
        have x6 := (x2.trans x5).trans (Ext.new (o := .lst ((List.replicate u.d u.p ++ tl u.p u.ws).map D.int)) hpo)
        have e7 := mup_old (o' := .lst ((List.replicate u.d u.p ++ tl u.p u.ws).map D.int)) (x5 _ _ e2) hpo
        have e8 : mup M5 po (.lst ((List.replicate u.d u.p ++ tl u.p u.ws).map D.int)) po = some (.lst ((own u.p u.d u.ws).map D.int)) := mup_same
        generalize mup M5 po (.lst ((List.replicate u.d u.p ++ tl u.p u.ws).map D.int)) = M6 at x6 e7 e8 ⊢
        clear hpo e5 e6 hpt
        repeat' (k_extra "y")
        · exact mulW (a := 14) (b := 6) (by unfold Bd; omega) (by unfold Bd; omega)
        have cb1 := cvL_b pn.w oku.ln.w (by decide) (by decide)
        have cb2 := cvL_b (B := 1620) pn.w ow.2.2 (by decide) (by decide)
        have cl1 : (cvL (pre (hs.take i)).2 u.ws).length = _ := cvL_len
        have cl2 : (cvL (pre (hs.take i)).2 (own u.p u.d u.ws)).length = _ := cvL_len
        have m1 : ((pre (hs.take i)).2.length : Int) * (960000000 * 200) ≤ 22 * (960000000 * 200) := Int.mul_le_mul_of_nonneg_right (by omega) (by decide)
        have m2 : ((pre (hs.take i)).2.length : Int) * (960000000 * 1620) ≤ 22 * (960000000 * 1620) := Int.mul_le_mul_of_nonneg_right (by omega) (by decide)
        have pm : (pre (hs.take i)).1 * u.p ≤ 8000 * 20 := Int.mul_le_mul (by omega) q1 (by omega) (by omega)
        have pp : 0 < (pre (hs.take i)).1 * u.p := Int.mul_pos (by omega) (by omega)
        have bw : ∀ y ∈ (pre (hs.take i)).2, Bd 100 y := fun y hy => (by unfold Bd; have := pn.w y hy; omega : Bd 40 y).le (by decide)
        refine ⟨_, _, _, u.ws, rfl, .inl ⟨pw, rfl, e7⟩, .inr rfl, a0, by omega, u0, by omega, bw, fun y hy => (by unfold Bd; have := oku.ln.w y hy; omega : Bd 40 y).le (by decide), fun pf M7 hpf e9 x7 => ?_⟩
        repeat' (k_extra "y")
        refine ⟨_, _, _, rfl, .inl ⟨pf, rfl, e9⟩, pp, by omega, ne_len (by omega), by omega, fun y hy => by have := cb1 y hy; omega, fun M8 x8 => ?_⟩
        repeat' (k_extra "y")
        refine ⟨_, _, _, own u.p u.d u.ws, rfl, .inl ⟨pw, rfl, x8 _ _ (x7 _ _ e7)⟩, .inl ⟨po, rfl, x8 _ _ (x7 _ _ e8)⟩, a0, by omega, ow.2.1, by omega, bw, fun y hy => (by unfold Bd; have := ow.2.2 y hy; omega : Bd 40 y).le (by decide), fun pg M9 hpg e10 x9 => ?_⟩
        repeat' (k_extra "y")
        refine ⟨_, _, _, rfl, .inl ⟨pg, rfl, e10⟩, pp, by omega, ne_len (by omega), by omega, fun y hy => by have := cb2 y hy; omega, fun M10 x10 => ?_⟩
        repeat' (k_extra "y")
        have := k M10 (((x6.trans x7).trans x8).trans (x9.trans x10))
        rw [pre_take hu] at this
        exact this
/-! ### _law_straight -/
abbrev s__law_straight : Stmt := top 46
theorem sc__law_straight : FnScope ["_law_m", "_law_k"] ["_law_m"] (defScope s__law_straight) := ⟨rfl, rfl, rfl, by decide +kernel, rfl, by decide +kernel, by decide +kernel⟩
abbrev nm__law_straight : Nms := ⟨["_law_m"], ["_law_m"], [], ["tuple", "range", "_law_draw"], ["_law_m"]⟩
theorem no__law_straight : nm__law_straight.ok (defScope s__law_straight) = true := by decide +kernel
abbrev nb__law_straight_0 : Nms := ⟨["_law_k", "_law_m"], ["_law_k"], ["_law_k"], ["_law_line", "_law_draw"], ["_law_m"]⟩
abbrev ow__law_straight_0 : List (Str × Nat) := [("_law_k", 1)]
def sp__law_straight : Sp2 := fun ds M Q _ => ∃ (m g c : Addr) (n : Int), ds = [.obj m] ∧ Drw M m g c n ∧ n < 900000 ∧ ∀ (hs : List Sh) (k' : Int) (M' : Mem), StOk hs → k' ≤ n + 40 → Drw M' m g c k' → But m g M M' → Q (stD hs) M'
theorem ok__law_straight {f : Addr} {fd : FuncData} (F : Fun K "_law_straight" "_law_straight" s__law_straight f fd) (T : Txt mg) (G__law_draw : Def2 P w K mg base CX0 2 "_law_draw" ["_law_m", "_law_limit"] sp__law_draw) (G__law_line : Def2 P w K mg base CX0 3 "_law_line" ["_law_m", "_law_most", "_law_many"] sp__law_line) : Fn2 P w K mg base CX0 4 f fd ["_law_m"] sp__law_straight := by
  refine fn2_of F sc__law_straight no__law_straight (fun ds M Q E h => ?_) (fun X ds M Q E C h => ?_)
  · repeat (first | (obtain ⟨rfl, _⟩ := h; rfl) | (obtain ⟨_, h⟩ := h))
  · obtain ⟨m, g, c, n, rfl, dr, nb, k⟩ := h
    have l9 : 1000 ≤ sizeLine := by decide
    show WSs X _ _ [some (.obj m), none] M
    refine wss_one ?_
    repeat' (k_extra "y")
    refine we_lc (own := ow__law_straight_0) (t := .nm 1) C (by decide +kernel) (by decide) (fun X' B => by have C' := C.blk (sc2 := nb__law_straight_0) B rfl (by decide +kernel); k_extra "tgt") (fun _ => rfl) ?_
    repeat' (k_extra "y")
    refine ⟨m, g, c, n, 3, rfl, dr, by omega, by omega, by omega, fun v M1 v0 v1 dr1 b1 => ?_⟩
    repeat' (k_extra "y")
    refine ⟨by omega, by omega, fun pd hpd => ?_⟩
    have ⟨dm, dg, dc⟩ := dr1.ne hpd
    have f0 : M pd = none := b1.free hpd dm dg
    refine ⟨fun i M' => ∃ (hs : List Sh) (k5 : Int), M' pd = some (.lst (hs.map shD)) ∧ hs.length = i ∧ (∀ h ∈ hs, ShOk h) ∧ Drw M' m g c k5 ∧ k5 ≤ n + 1 + 11 * (i : Int) ∧ But m g M M', ⟨[], _, mup_same, rfl, by simp, dr1.put dm dg dc, by omega, b1.put f0⟩, fun _ _ _ => trivial, ?_, ?_⟩
    · rintro i d M' hd ⟨hs, k5, e, hl, hx, d', ek, b⟩
      obtain ⟨hi, rfl⟩ := rng_get hd
      have hi3 : (i : Int) < 1 + v := by omega
      refine ⟨[some (.obj m), some (.int (0 + (i : Nat)))], rfl, fun X' B => ?_⟩
      refine Br.t fun X2 B2 => ?_
      have C' := C.blk (sc2 := nb__law_straight_0) B2 rfl (by decide +kernel)
      repeat' (k_extra "y")
      refine ⟨m, g, c, _, 6, 4, rfl, d', by omega, by omega, by omega, by omega, by omega, fun p ws k6 M6 t6 hk6 d6 b6 => ?_⟩
      repeat' (k_extra "y")
      refine ⟨m, g, c, _, 4, rfl, d6, by omega, by omega, by omega, fun u M7 u0 u1 d7 b7 => ?_⟩
      repeat' (k_extra "y")
      refine ⟨_, b7 _ _ dm dg (b6 _ _ dm dg e), by rw [List.length_map, hl]; omega, hs ++ [⟨p, ws, (1 + u).toNat⟩], _, by rw [mup_same, List.map_append, show (1 + u : Int) = ((1 + u).toNat : Nat) by omega]; rfl, by simp [hl], ?_, d7.put dm dg dc, by omega, ((b.trans b6).trans b7).put f0⟩
      intro x hx'
      rcases List.mem_append.mp hx' with q | q
      · exact hx x q
      · rw [List.mem_singleton.mp q]; exact ⟨t6, by show 1 ≤ (1 + u).toNat; omega, by show (1 + u).toNat ≤ 4; omega⟩
    · rintro M' ⟨hs, k5, e, hl, hx, d', ek, b⟩
      rw [List.length_map, List.length_range] at hl ek
      repeat' (k_extra "y")
      exact k hs k5 _ ⟨by omega, by omega, hx⟩ (by omega) d' b
theorem gt_odL {ws ns : List Int} {c : Int} {t : Nat} (h : t < ns.length) : gt (odL ws ns c) t = od ws (dm ns c) t := by
  refine gt_some ?_
  unfold odL
  rw [List.getElem?_map, List.getElem?_range h]
  rfl
theorem dm_od {p c : Int} {ws ns : List Int} (s : ws.sum = p) {i : Int} (h : i < ns.length) : dm (odL ws ns c) (c * p) i = od ws (dm ns c) i := by
  by_cases z : i < 0
  · rw [od_cst (c := c) (fun t => by unfold dm; rw [if_pos (by omega)]), s]
    unfold dm
    rw [if_pos z]
  · unfold dm
    rw [if_neg z, gt_odL (by omega), show ((i.toNat : Nat) : Int) = i by omega]
    rfl
theorem later_eq {p c : Int} {ws us ns : List Int} (s : ws.sum = p) (hw : ws ≠ []) (hu : us ≠ []) {K : Nat} (hK : K < ns.length) : od us (dm (odL ws ns c) (c * p)) K = od (cvL ws us) (dm ns c) K := by
  rw [od_cv hw hu]
  unfold od
  refine sg_congr fun t _ => ?_
  rw [dm_od s (by omega)]
  rfl
theorem od_bnd {A D : Nat} {ws : List Int} {f : Int → Int} {K : Int} (h1 : ∀ x ∈ ws, x.natAbs ≤ A) (h2 : ∀ i, (f i).natAbs ≤ D) : (od ws f K).natAbs ≤ ws.length * (A * D) := by
  have gw : ∀ t, (gt ws t).natAbs ≤ A := by
    intro t
    cases e : ws[t]? with
    | none => rw [gt_none (by have := List.getElem?_eq_none_iff.mp e; omega)]; exact Nat.zero_le _
    | some x => rw [gt_some e]; exact h1 x (List.mem_of_getElem? e)
  unfold od
  generalize ws.length = n
  induction n with
  | zero => simp [sg]
  | succ n ih =>
    simp only [sg]
    have e : (gt ws n * f (K - n)).natAbs ≤ A * D := by rw [Int.natAbs_mul]; exact Nat.mul_le_mul (gw n) (h2 _)
    rw [Nat.add_mul, Nat.one_mul]
    omega
theorem dm_bd {ns : List Int} {c : Int} {D : Nat} (h : ∀ x ∈ ns, x.natAbs ≤ D) (hc : c.natAbs ≤ D) (i : Int) : (dm ns c i).natAbs ≤ D := by
  unfold dm
  split
  · exact hc
  · cases e : ns[i.toNat]? with
    | none => rw [gt_none (by have := List.getElem?_eq_none_iff.mp e; omega)]; exact Nat.zero_le _
    | some x => rw [gt_some e]; exact h x (List.mem_of_getElem? e)
theorem odL_bd {ws ns : List Int} {c : Int} {A D : Nat} (h1 : ∀ x ∈ ws, x.natAbs ≤ A) (h : ∀ x ∈ ns, x.natAbs ≤ D) (hc : c.natAbs ≤ D) : ∀ x ∈ odL ws ns c, x.natAbs ≤ ws.length * (A * D) := by
  intro x hx
  obtain ⟨t, _, rfl⟩ := List.mem_map.mp hx
  exact od_bnd h1 (dm_bd h hc)
theorem wz_sg : ∀ {ws row : List Int}, ws.length = row.length → wz ws row = sg (fun t => gt ws t * gt row t) ws.length
  | [], [], _ => rfl
  | w :: ws, r :: row, h => by
    have ih := wz_sg (ws := ws) (row := row) (by simpa using h)
    have e : sg (fun t => gt (w :: ws) t * gt (r :: row) t) (1 + ws.length) = w * r + sg (fun t => gt ws t * gt row t) ws.length := by
      generalize ws.length = n
      induction n with
      | zero => simp [sg, gt]
      | succ n ih => rw [← Nat.add_assoc]; simp only [sg]; rw [ih]; rw [show 1 + n = n + 1 by omega]; simp only [gt, List.getD_cons_succ]; omega
    rw [List.length_cons, Nat.add_comm, e, ← ih]
    rfl
/-- the days: those ahead, then the row -/
def dy (n : Nat) (c : Int) (ns : List Int) : List Int := List.replicate n c ++ ns
theorem dy_get {n : Nat} {c : Int} {ns : List Int} {t : Nat} (h : t < n + ns.length) : gt (dy n c ns) t = dm ns c ((t : Int) - n) := by
  unfold dm
  by_cases z : t < n
  · rw [if_pos (by omega)]
    refine gt_some ?_
    unfold dy
    rw [List.getElem?_append_left (by simpa using z), List.getElem?_replicate, if_pos z]
  · rw [if_neg (by omega), show ((t : Int) - n).toNat = t - n by omega]
    unfold gt dy
    rw [List.getD_eq_getElem?_getD, List.getD_eq_getElem?_getD, List.getElem?_append_right (by simpa using z), List.length_replicate]
theorem wz_od {ws ns : List Int} {c : Int} {k : Nat} (hw : 1 ≤ ws.length) (hk : k < ns.length) : wz ws (((dy (ws.length - 1) c ns).drop k).take ws.length).reverse = od ws (dm ns c) k := by
  have hl : (((dy (ws.length - 1) c ns).drop k).take ws.length).length = ws.length := by simp [dy]; omega
  rw [wz_sg (by rw [List.length_reverse, hl])]
  unfold od
  refine sg_congr fun t ht => ?_
  congr 1
  have e : gt (((dy (ws.length - 1) c ns).drop k).take ws.length).reverse t = gt (dy (ws.length - 1) c ns) (k + (ws.length - 1 - t)) := by
    unfold gt
    rw [List.getD_eq_getElem?_getD, List.getD_eq_getElem?_getD, List.getElem?_reverse (by rw [hl]; exact ht), hl, List.getElem?_take, if_pos (by omega), List.getElem?_drop]
  rw [e, dy_get (by omega)]
  congr 1
  omega
theorem cut_two {ds : List D} {k n : Nat} (h : k + n ≤ ds.length) : cutD ds (some (k : Int)) (some ((k : Int) + n)) = (ds.drop k).take n := by
  unfold Y.cutD
  rw [show (k : Int) + (n : Int) = ((k + n : Nat) : Int) by omega, HT.sIx_nat, HT.sIx_nat, Nat.min_eq_left h, Nat.min_eq_left (show k ≤ ds.length by omega), Nat.add_sub_cancel_left]
theorem odL_one {ns : List Int} {c : Int} : odL [1] ns c = ns := by
  refine List.ext_getElem? fun t => ?_
  unfold odL
  rw [List.getElem?_map]
  by_cases h : t < ns.length
  · rw [List.getElem?_range h, List.getElem?_eq_getElem h]
    show some (od [1] (dm ns c) t) = _
    rw [od_cons, od_nil]
    unfold dm
    rw [if_neg (by omega), Int.toNat_natCast, gt_some (List.getElem?_eq_getElem h)]
    simp
  · rw [List.getElem?_eq_none (l := List.range ns.length) (by simp; omega), List.getElem?_eq_none (l := ns) (by omega)]; rfl
/-- how what the house has grows, day by day -/
def grL (hs : List Sh) (t : Nat) (u : Sh) (ns : List Int) (c : Int) (n : Nat) : List Int := (List.range n).map fun s => gr (own u.p u.d u.ws) (od (pre (hs.take t)).2 (dm ns c)) (c * (pre (hs.take t)).1) (s : Nat)
/-- what is found of the first houses -/
def GR (M : Mem) (hs : List Sh) (ns : List Int) (c : Int) (pf : Addr) (ds : List D) : Prop :=
  ∀ t, t < ds.length → ∃ u a b, hs[t]? = some u ∧ ds[t]? = some (.tup [.obj a, .obj b, .int (pre (hs.take (t + 1))).1]) ∧ M a = some (.lst ((odL (pre (hs.take (t + 1))).2 ns c).map D.int)) ∧ M b = some (.lst ((grL hs t u ns c ns.length).map D.int)) ∧ a ≠ pf ∧ b ≠ pf
/-- what comes in, n days from the first one of the roads -/
def rd (f : Int → Int) (ws : List Int) (d : Nat) (n : Nat) : List Int := (List.range d).map fun t => od ws f ((n : Int) + (t : Nat) - (d : Nat))
theorem rd_cons {f : Int → Int} {ws : List Int} {d n : Nat} (h : 1 ≤ d) : ∃ rs, rd f ws d n = od ws f ((n : Int) - (d : Nat)) :: rs ∧ rs ++ [od ws f (n : Nat)] = rd f ws d (n + 1) ∧ rs.length + 1 = d := by
  obtain ⟨e, rfl⟩ : ∃ e, d = e + 1 := ⟨d - 1, by omega⟩
  refine ⟨(List.range e).map fun t => od ws f ((n : Int) + ((t + 1 : Nat) : Int) - ((e + 1 : Nat) : Int)), ?_, ?_, by simp⟩
  · unfold rd
    rw [List.range_succ_eq_map, List.map_cons, List.map_map]
    congr 2
  · unfold rd
    rw [List.range_succ, List.map_append]
    congr 1
    · refine List.map_congr_left fun t _ => ?_
      congr 1
      omega
    · rw [List.map_cons, List.map_nil]
      congr 2
      omega
theorem rd_zero {f : Int → Int} {ws : List Int} {d : Nat} {b p : Int} (h : ∀ i : Int, i < 0 → f i = b) (s : ws.sum = p) : rd f ws d 0 = List.replicate d (b * p) := by
  refine List.ext_getElem? fun t => ?_
  unfold rd
  rw [List.getElem?_map, List.getElem?_replicate]
  by_cases c : t < d
  · rw [List.getElem?_range c, if_pos c]
    show some (od ws f (((0 : Nat) : Int) + (t : Nat) - (d : Nat))) = _
    rw [od_cst (c := b) (fun j => h _ (by omega)), s]
  · rw [List.getElem?_eq_none (l := List.range d) (by simp; omega), if_neg c]; rfl
theorem grL_succ {hs : List Sh} {t : Nat} {u : Sh} {ns : List Int} {c : Int} {n : Nat} : grL hs t u ns c (n + 1) = grL hs t u ns c n ++ [gr (own u.p u.d u.ws) (od (pre (hs.take t)).2 (dm ns c)) (c * (pre (hs.take t)).1) (n : Nat)] := by
  unfold grL
  rw [List.range_succ, List.map_append]
  rfl
/-! ### _law_grown -/
abbrev s__law_grown : Stmt := top 47
theorem sc__law_grown : FnScope ["_law_chain", "_law_demands", "_law_calm", "_law_found", "_law_parts", "_law_asked", "_law_before", "_law_line_here", "_law_late", "_law_days", "_law_orders", "_law_k", "_law_roads", "_law_here", "_law_grown_here"] ["_law_chain", "_law_demands", "_law_calm"] (defScope s__law_grown) := ⟨rfl, rfl, rfl, by decide +kernel, rfl, by decide +kernel, by decide +kernel⟩
abbrev nm__law_grown : Nms := ⟨["_law_chain", "_law_demands", "_law_calm", "_law_found", "_law_parts", "_law_asked", "_law_before", "_law_line_here", "_law_late", "_law_days", "_law_k", "_law_orders", "_law_roads", "_law_here", "_law_grown_here"], ["_law_chain", "_law_demands", "_law_calm", "_law_found", "_law_parts", "_law_asked", "_law_before", "_law_line_here", "_law_late", "_law_days", "_law_k", "_law_orders", "_law_roads", "_law_here", "_law_grown_here"], ["_law_chain", "_law_demands", "_law_calm", "_law_found", "_law_parts", "_law_asked", "_law_before", "_law_late", "_law_k", "_law_orders", "_law_roads", "_law_here", "_law_grown_here"], ["list", "len", "range"], ["_law_line_here", "_law_days"]⟩
theorem no__law_grown : nm__law_grown.ok (defScope s__law_grown) = true := by decide +kernel
abbrev nb__law_grown_0 : Nms := ⟨["_law_k", "_law_days", "_law_line_here"], ["_law_k"], ["_law_k"], ["_law_worth", "len"], ["_law_days", "_law_line_here"]⟩
abbrev ow__law_grown_0 : List (Str × Nat) := [("_law_k", 11)]
abbrev gw_house : List Stmt := forB (stAt (defBody s__law_grown) 2)
abbrev gw_day : List Stmt := forB (stAt gw_house 4)
theorem _law_grown_day {X : Cx} {E : Ends2} (C : Cxt X ["_law_chain", "_law_demands", "_law_calm", "_law_found", "_law_parts", "_law_asked", "_law_before", "_law_line_here", "_law_late", "_law_days", "_law_orders", "_law_k", "_law_roads", "_law_here", "_law_grown_here"] nm__law_grown P w K mg base 1) (T : Txt mg) (G__law_worth : Def2 P w K mg base CX0 1 "_law_worth" ["_law_weights", "_law_row"] sp__law_worth) : ∀ {M : Mem} {p here r x y : Int} {ws as os rs gs : List Int} {pa po pr pg : Addr} {s : Nat} {d0 d1 d2 d3 d4 d6 d8 d9 : Option D}, M pa = some (.lst (as.map D.int)) → as[s]? = some x → M po = some (.lst (os.map D.int)) → os[s]? = some y → M pr = some (.lst ((r :: rs).map D.int)) → M pg = some (.lst (gs.map D.int)) → gs.length < 900 → rs.length < 900 → Bd 60 p → Bd 60 x → (∀ M1 pr', Ext M M1 → M1 pr' = some (.lst ((rs ++ [y]).map D.int)) → pr' ≠ pg → E.nx [d0, d1, d2, d3, d4, some (.obj pa), d6, some (lnD p ws), d8, d9, some (.obj po), some (.int (s : Nat)), some (.obj pr'), some (.int (here + r - p * x)), some (.obj pg)] (mup M1 pg (.lst ((gs ++ [here + r - p * x]).map D.int)))) → WSs X gw_day E [d0, d1, d2, d3, d4, some (.obj pa), d6, some (lnD p ws), d8, d9, some (.obj po), some (.int (s : Nat)), some (.obj pr), some (.int here), some (.obj pg)] M := by
  intro M p here r x y ws as os rs gs pa po pr pg s d0 d1 d2 d3 d4 d6 d8 d9 ea hx eo hy er eg lg lr bp bx k
  have l9 : 1000 ≤ sizeLine := by decide
  refine wss_cons ?_
  repeat' (first | k_extra "y" | dsimp only [lnD])
  · exact mulW bp bx
  refine q_slL er ?_
  rw [cut_tail]
  intro pt hpt
  have x1 := Ext.new (o := .lst ((r :: rs).map D.int).tail) hpt
  have eo1 := x1 _ _ eo
  have eg1 := x1 _ _ eg
  have et1 : mup M pt (.lst ((r :: rs).map D.int).tail) pt = some (.lst (rs.map D.int)) := mup_same
  generalize mup M pt (.lst ((r :: rs).map D.int).tail) = M1 at x1 eo1 eg1 et1 ⊢
  repeat' (k_extra "y")
  intro pu hpu
  refine q_addL (mup_old et1 hpu) mup_same (by simp only [List.length_map, List.length_cons, List.length_nil]; omega) ?_
  intro pv hpv
  have x2 := (x1.trans (Ext.new (o := .lst [.int y]) hpu)).trans (Ext.new (o := .lst (rs.map D.int ++ [.int y])) hpv)
  have eg2 := mup_old (o' := .lst (rs.map D.int ++ [.int y])) (mup_old (o' := .lst [.int y]) eg1 hpu) hpv
  have ev2 : mup (mup M1 pu (.lst [.int y])) pv (.lst (rs.map D.int ++ [.int y])) pv = some (.lst ((rs ++ [y]).map D.int)) := by rw [mup_same, List.map_append]; rfl
  have npg : pv ≠ pg := fun z => by
    rw [z, mup_old (o' := .lst [.int y]) eg1 hpu] at hpv
    cases hpv
  generalize mup (mup M1 pu (.lst [.int y])) pv (.lst (rs.map D.int ++ [.int y])) = M2 at x2 eg2 ev2 ⊢
  clear hpv hpu
  repeat' (k_extra "y")
  refine ⟨pg, _, rfl, eg2, ?_⟩
  repeat' (k_extra "y")
  refine ⟨_, eg2, by rw [List.length_map]; omega, ?_⟩
  have := k M2 pv x2 ev2 npg
  rw [List.map_append] at this
  exact this
theorem _law_grown_house {X : Cx} {E : Ends2} (C : Cxt X ["_law_chain", "_law_demands", "_law_calm", "_law_found", "_law_parts", "_law_asked", "_law_before", "_law_line_here", "_law_late", "_law_days", "_law_orders", "_law_k", "_law_roads", "_law_here", "_law_grown_here"] nm__law_grown P w K mg base 1) (T : Txt mg) (G__law_worth : Def2 P w K mg base CX0 1 "_law_worth" ["_law_weights", "_law_row"] sp__law_worth) : ∀ {M0 M : Mem} {hs : List Sh} {ns : List Int} {c : Int} {i : Nat} {u : Sh} {ds : List D} {pf pa a0 : Addr} {d7 d8 d9 d10 d11 d12 d13 d14 : Option D}, StOk hs → hs[i]? = some u → ns.length ≤ 20 → (∀ x ∈ ns, 0 ≤ x ∧ x ≤ 9) → 0 ≤ c → c ≤ 9 → M pf = some (.lst ds) → ds.length = i → GR M hs ns c pf ds → pa ≠ pf → M pa = some (.lst ((odL (pre (hs.take i)).2 ns c).map D.int)) → (∀ M' ds' pa' d8 d9 d11 d12 d13 d14, (∀ a o, a ≠ pf → M a = some o → M' a = some o) → M' pf = some (.lst ds') → ds'.length = i + 1 → GR M' hs ns c pf ds' → pa' ≠ pf → M' pa' = some (.lst ((odL (pre (hs.take (i + 1))).2 ns c).map D.int)) → E.nx [some (stD hs), some (.obj a0), some (.int c), some (.obj pf), some (.int (pre (hs.take (i + 1))).1), some (.obj pa'), some (.int (c * (pre (hs.take (i + 1))).1)), some (lnD u.p u.ws), d8, d9, some (.obj pa'), d11, d12, d13, d14] M') → WSs X gw_house E [some (stD hs), some (.obj a0), some (.int c), some (.obj pf), some (.int (pre (hs.take i)).1), some (.obj pa), some (.int (c * (pre (hs.take i)).1)), some (lnD u.p u.ws), some (.int (u.d : Nat)), d9, d10, d11, d12, d13, d14] M := by
  intro M0 M hs ns c i u ds pf pa a0 d7 d8 d9 d10 d11 d12 d13 d14 ok hu nl hn c0 c1 ef ld hg npf ea k
  have l9 : 1000 ≤ sizeLine := by decide
  have hi : i < hs.length := (List.getElem?_eq_some_iff.mp hu).1
  have oku := ok.h u (List.mem_of_getElem? hu)
  have pn := pre_n ok (n := i) (by omega)
  have l0 := pn.l0
  have l1 := pn.l1
  have p0 := pn.p0
  have p1 := pn.p1
  have q0 := oku.ln.p0
  have q1 := oku.ln.p1
  have u0 := oku.ln.l0
  have u1 := oku.ln.l1
  have e0 := oku.d0
  have e1 := oku.d1
  have lo : (odL (pre (hs.take i)).2 ns c).length = ns.length := by simp [odL]
  refine wss_cons ?_
  repeat' (first | k_extra "y" | dsimp only [lnD])
  intro p2 h2
  repeat' (k_extra "y")
  refine ⟨_, mup_same, by rw [List.length_map]; omega, by rw [List.length_map]; omega, by simp only [List.length_map, List.length_cons, List.length_nil]; omega, fun p3 h3 => ?_⟩
  rw [List.length_map, show ((u.ws.length : Int) - 1).toNat = u.ws.length - 1 by omega, rep_flat]
  have x3 := (Ext.new (o := .lst [.int (c * (pre (hs.take i)).1)]) h2).trans (Ext.new (o := .lst ((List.replicate (u.ws.length - 1) (c * (pre (hs.take i)).1)).map D.int)) h3)
  have e3 : mup (mup M p2 (.lst [.int (c * (pre (hs.take i)).1)])) p3 (.lst ((List.replicate (u.ws.length - 1) (c * (pre (hs.take i)).1)).map D.int)) p3 = some (.lst ((List.replicate (u.ws.length - 1) (c * (pre (hs.take i)).1)).map D.int)) := mup_same
  generalize mup (mup M p2 (.lst [.int (c * (pre (hs.take i)).1)])) p3 (.lst ((List.replicate (u.ws.length - 1) (c * (pre (hs.take i)).1)).map D.int)) = M3 at x3 e3 ⊢
  clear h3 h2
  have ea3 := x3 _ _ ea
  repeat' (k_extra "y")
  · simp only [List.length_map, List.length_replicate, lo]; omega
  intro p4 h4
  have x4 := x3.trans (Ext.new (o := .lst ((List.replicate (u.ws.length - 1) (c * (pre (hs.take i)).1)).map D.int ++ (odL (pre (hs.take i)).2 ns c).map D.int)) h4)
  have e4 : mup M3 p4 (.lst ((List.replicate (u.ws.length - 1) (c * (pre (hs.take i)).1)).map D.int ++ (odL (pre (hs.take i)).2 ns c).map D.int)) p4 = some (.lst ((dy (u.ws.length - 1) (c * (pre (hs.take i)).1) (odL (pre (hs.take i)).2 ns c)).map D.int)) := by rw [mup_same]; unfold dy; rw [List.map_append]
  generalize mup M3 p4 (.lst ((List.replicate (u.ws.length - 1) (c * (pre (hs.take i)).1)).map D.int ++ (odL (pre (hs.take i)).2 ns c).map D.int)) = M4 at x4 e4 ⊢
  clear h4
  repeat' (k_extra "y")
  have ea4 := x4 _ _ ea
  have dl : (dy (u.ws.length - 1) (c * (pre (hs.take i)).1) (odL (pre (hs.take i)).2 ns c)).length = u.ws.length - 1 + ns.length := by simp [dy, lo]
  refine ws_setLcG (own := ow__law_grown_0) (t := .nm 11) C (by k_extra "nm") (by k_extra "gl") rfl rfl (by decide +kernel) (by decide) (fun X' B => by have C' := C.blk (sc2 := nb__law_grown_0) B rfl (by decide +kernel); k_extra "tgt") (fun _ => rfl) ?_
  repeat' (k_extra "y")
  have W0 : (pre (hs.take i)).2 ≠ [] := ne_len l0
  have w0 : u.ws ≠ [] := ne_len u0
  have ob : ∀ x ∈ odL (pre (hs.take i)).2 ns c, x.natAbs ≤ 22 * (960000000 * 9) := fun x hx => Nat.le_trans (odL_bd (A := 960000000) (D := 9) (fun y hy => by have := pn.w y hy; omega) (fun y hy => by have := hn y hy; omega) (by omega) x hx) (Nat.mul_le_mul_right _ l1)
  have cP : c * (pre (hs.take i)).1 ≤ 9 * 8000 := Int.mul_le_mul c1 p1 (by omega) (by omega)
  have cP0 : 0 ≤ c * (pre (hs.take i)).1 := Int.mul_nonneg c0 (by omega)
  refine ⟨by rw [List.length_map, lo]; omega, by rw [List.length_map, lo]; omega, (odL (cvL (pre (hs.take i)).2 u.ws) ns c).map D.int, ⟨by simp only [List.length_map, odL, List.length_range]; omega, by simp [odL], fun _ _ => trivial, fun j d z M5 hd hz x5 => ?_⟩, fun po M5 hpo e5 x5 => ⟨_, by k_extra "put", ?_⟩⟩
  · obtain ⟨hj, rfl⟩ := rng_get hd
    rw [List.length_map, lo] at hj
    have hj : j < ns.length := by omega
    obtain ⟨z', rfl, hz'⟩ := get_map hz
    unfold odL at hz'
    rw [List.getElem?_map, List.getElem?_range hj] at hz'
    cases hz'
    rw [show (0 : Int) + (j : Nat) = (j : Nat) by omega]
    refine ⟨[some (stD hs), some (.obj a0), some (.int c), some (.obj pf), some (.int (pre (hs.take i)).1), some (.obj pa), some (.int (c * (pre (hs.take i)).1)), some (.tup [.int u.p, .tup (u.ws.map D.int)]), some (.int (u.d : Nat)), some (.obj p4), d10, some (.int (j : Nat)), d12, d13, d14], rfl, fun X' B => ?_⟩
    have C' := C.blk (sc2 := nb__law_grown_0) B rfl (by decide +kernel)
    have e4' := x5 _ _ e4
    repeat' (k_extra "y")
    refine q_slL e4' ?_
    rw [List.length_map, cut_two (by rw [List.length_map, dl]; omega)]
    intro p5 h5
    refine ⟨p5, _, rfl, mup_same, ?_⟩
    intro p6 h6
    have er : ((((dy (u.ws.length - 1) (c * (pre (hs.take i)).1) (odL (pre (hs.take i)).2 ns c)).map D.int).drop j).take u.ws.length).reverse = ((((dy (u.ws.length - 1) (c * (pre (hs.take i)).1) (odL (pre (hs.take i)).2 ns c)).drop j).take u.ws.length).reverse).map D.int := by rw [← List.map_drop, ← List.map_take, ← List.map_reverse]
    rw [er]
    have x6 := (Ext.new (o := .lst ((((dy (u.ws.length - 1) (c * (pre (hs.take i)).1) (odL (pre (hs.take i)).2 ns c)).map D.int).drop j).take u.ws.length)) h5).trans (Ext.new (o := .lst (((((dy (u.ws.length - 1) (c * (pre (hs.take i)).1) (odL (pre (hs.take i)).2 ns c)).drop j).take u.ws.length).reverse).map D.int)) h6)
    repeat' (k_extra "y")
    refine ⟨_, p6, u.ws, _, rfl, .inr rfl, mup_same, by omega, fun y hy => (by unfold Bd; have := oku.ln.w y hy; omega : Bd 40 y).le (by decide), fun y hy => ?_, fun M7 x7 => ⟨x6.trans x7, ?_⟩⟩
    · have hy := List.mem_of_mem_drop (List.mem_of_mem_take (List.mem_reverse.mp hy))
      rcases List.mem_append.mp hy with z | z
      · rw [(List.mem_replicate.mp z).2]; exact (by unfold Bd; omega : Bd 40 _).le (by decide)
      · exact (by unfold Bd; have := ob y z; omega : Bd 60 y).le (by decide)
    · rw [wz_od u0 (by rw [lo]; exact hj), later_eq pn.s W0 w0 hj]
  · have e6 := x5 _ _ ea4
    repeat' (k_extra "y")
    · exact mulW (a := 20) (b := 6) (by unfold Bd; omega) (by unfold Bd; omega)
    · exact mulW (a := 14) (b := 6) (by unfold Bd; omega) (by unfold Bd; omega)
    refine ws_par3 C (by k_extra "nm") (by k_extra "nm") (by k_extra "nm") (by decide) (by decide) (by decide) (by k_extra "gl") (by k_extra "gl") (by k_extra "gl") rfl rfl (by decide +kernel) rfl rfl rfl rfl ?_
    repeat' (k_extra "y")
    intro p5 h5
    repeat' (k_extra "y")
    refine ⟨_, mup_same, by omega, by omega, by simp only [List.length_cons, List.length_nil]; omega, fun pr h6 => ?_⟩
    rw [Int.toNat_natCast, rep_flat]
    repeat' (k_extra "y")
    intro pg hpg
    repeat' (k_extra "y")
    have fneg : ∀ i' : Int, i' < 0 → od (pre (hs.take i)).2 (dm ns c) i' = c * (pre (hs.take i)).1 := fun i' h => by
      rw [od_cst (c := c) (fun t => by unfold dm; rw [if_pos (by omega)]), pn.s]
    have x7 := (Ext.new (o := .lst [.int (c * (pre (hs.take i)).1 * u.p)]) h5).trans (Ext.new (o := .lst ((List.replicate u.d (c * (pre (hs.take i)).1 * u.p)).map D.int)) h6)
    have g5 : M5 pg = none := x7.free hpg
    have x8 := x7.trans (Ext.new (o := .lst []) hpg)
    have er := mup_old (o' := .lst []) (mup_same (M := mup M5 p5 (.lst [.int (c * (pre (hs.take i)).1 * u.p)])) (a := pr) (o := .lst ((List.replicate u.d (c * (pre (hs.take i)).1 * u.p)).map D.int))) hpg
    have er : mup (mup (mup M5 p5 (.lst [.int (c * (pre (hs.take i)).1 * u.p)])) pr (.lst ((List.replicate u.d (c * (pre (hs.take i)).1 * u.p)).map D.int))) pg (.lst []) pr = some (.lst ((rd (od (pre (hs.take i)).2 (dm ns c)) u.ws u.d 0).map D.int)) := by rw [rd_zero fneg oku.ln.s]; exact er
    have eg : mup (mup (mup M5 p5 (.lst [.int (c * (pre (hs.take i)).1 * u.p)])) pr (.lst ((List.replicate u.d (c * (pre (hs.take i)).1 * u.p)).map D.int))) pg (.lst []) pg = some (.lst ((grL hs i u ns c 0).map D.int)) := mup_same
    refine ⟨_, _, _, _, _, _, rfl, by k_extra "put", by k_extra "put", by k_extra "put", ?_⟩
    show WSs X _ E _ (mup (mup (mup M5 p5 (.lst [.int (c * (pre (hs.take i)).1 * u.p)])) pr (.lst ((List.replicate u.d (c * (pre (hs.take i)).1 * u.p)).map D.int))) pg (.lst []))
    generalize mup (mup (mup M5 p5 (.lst [.int (c * (pre (hs.take i)).1 * u.p)])) pr (.lst ((List.replicate u.d (c * (pre (hs.take i)).1 * u.p)).map D.int))) pg (.lst []) = M8 at x8 er eg ⊢
    clear hpg x7 h6 h5
    have e8 := x8 _ _ e6
    refine wss_cons ?_
    refine ws_for (t := .nm 11) C (by k_extra "tgt") (fun _ => rfl) ?_
    repeat' (k_extra "y")
    have W1 : (odL (pre (hs.take i)).2 ns c).length = ns.length := lo
    refine ⟨by rw [List.length_map, lo]; omega, by rw [List.length_map, lo]; omega, fun s ρ M' => ∃ pr c11, ρ = [some (stD hs), some (.obj a0), some (.int c), some (.obj pf), some (.int ((pre (hs.take i)).1 * u.p)), some (.obj pa), some (.int (c * (pre (hs.take i)).1 * u.p)), some (lnD u.p u.ws), some (.int (u.d : Nat)), some (.obj p4), some (.obj po), c11, some (.obj pr), some (.int (gr (own u.p u.d u.ws) (od (pre (hs.take i)).2 (dm ns c)) (c * (pre (hs.take i)).1) ((s : Int) - 1))), some (.obj pg)] ∧ M' pr = some (.lst ((rd (od (pre (hs.take i)).2 (dm ns c)) u.ws u.d s).map D.int)) ∧ M' pg = some (.lst ((grL hs i u ns c s).map D.int)) ∧ Ext M5 M', ⟨pr, _, by rw [show ((0 : Nat) : Int) - 1 = -1 by rfl, gr_neg fneg]; rfl, er, eg, x8⟩, fun _ _ _ _ => trivial, ?_, ?_⟩
    · rintro s d ρ M' hd ⟨pr, c11, rfl, er, eg, x⟩
      obtain ⟨hs', rfl⟩ := rng_get hd
      rw [List.length_map, lo] at hs'
      have hs' : s < ns.length := by omega
      rw [show (0 : Int) + (s : Nat) = (s : Nat) by omega]
      obtain ⟨rs, r1, r2, r3⟩ := rd_cons (f := od (pre (hs.take i)).2 (dm ns c)) (ws := u.ws) (n := s) e0
      rw [r1] at er
      have ga : (odL (pre (hs.take i)).2 ns c)[s]? = some (od (pre (hs.take i)).2 (dm ns c) (s : Nat)) := by unfold odL; rw [List.getElem?_map, List.getElem?_range hs']; rfl
      have go : (odL (cvL (pre (hs.take i)).2 u.ws) ns c)[s]? = some (od u.ws (od (pre (hs.take i)).2 (dm ns c)) (s : Nat)) := by unfold odL; rw [List.getElem?_map, List.getElem?_range hs', ← od_cv W0 w0]; rfl
      have st := gr_step (f := od (pre (hs.take i)).2 (dm ns c)) (b := c * (pre (hs.take i)).1) (d := u.d) w0 oku.ln.s (s : Nat)
      have bx := ob _ (List.mem_of_getElem? ga)
      refine ⟨[some (stD hs), some (.obj a0), some (.int c), some (.obj pf), some (.int ((pre (hs.take i)).1 * u.p)), some (.obj pa), some (.int (c * (pre (hs.take i)).1 * u.p)), some (lnD u.p u.ws), some (.int (u.d : Nat)), some (.obj p4), some (.obj po), some (.int (s : Nat)), some (.obj pr), some (.int (gr (own u.p u.d u.ws) (od (pre (hs.take i)).2 (dm ns c)) (c * (pre (hs.take i)).1) ((s : Int) - 1))), some (.obj pg)], rfl, ?_⟩
      refine _law_grown_day C T ‹_› (x _ _ e6) ga (x _ _ e5) go er eg (by unfold grL; simp; omega) (by omega) ((by unfold Bd; omega : Bd 10 u.p).le (by decide)) ((by unfold Bd; omega : Bd 60 _).le (by decide)) fun M1 pr' x1 er' npr => ?_
      rw [← st]
      refine ⟨pr', _, by rw [show ((s + 1 : Nat) : Int) - 1 = (s : Nat) by omega], by rw [mup_ne npr, er', r2], by rw [mup_same, grL_succ], (x.trans x1).put g5⟩
    · rintro ρ M' ⟨pr, c11, rfl, er, eg, x⟩
      rw [List.length_map, List.length_range, List.length_map, lo, show ((ns.length : Nat) : Int).toNat = ns.length by omega] at eg
      have xx := (x4.trans x5).trans x
      have ef' := xx _ _ ef
      have npo : po ≠ pf := fun z => by rw [z, x4 _ _ ef] at hpo; cases hpo
      have npg : pg ≠ pf := fun z => by rw [z, (x4.trans x5) _ _ ef] at g5; cases g5
      have eo' := x _ _ e5
      clear er e8 W1
      have n1 := ok.n1
      repeat' (k_extra "y")
      refine ⟨pf, _, rfl, ef', ?_⟩
      repeat' (k_extra "y")
      refine ⟨_, ef', by omega, ?_⟩
      repeat' (k_extra "y")
      have pt := pre_take hu
      have gr' : GR (mup M' pf (.lst (ds ++ [.tup [.obj po, .obj pg, .int ((pre (hs.take i)).1 * u.p)]]))) hs ns c pf (ds ++ [.tup [.obj po, .obj pg, .int ((pre (hs.take i)).1 * u.p)]]) := by
        intro t ht
        rw [List.length_append, List.length_cons, List.length_nil] at ht
        by_cases z : t < ds.length
        · obtain ⟨u', a, b, h1, h2, h3, h4, h5, h6⟩ := hg t z
          exact ⟨u', a, b, h1, by rw [List.getElem?_append_left z]; exact h2, (mup_ne h5).trans (xx _ _ h3), (mup_ne h6).trans (xx _ _ h4), h5, h6⟩
        · have zt : t = i := by omega
          subst zt
          exact ⟨u, po, pg, hu, by rw [List.getElem?_append_right (by omega), ld, Nat.sub_self, pt]; rfl, by rw [mup_ne npo, pt]; exact eo', by rw [mup_ne npg]; exact eg, npo, npg⟩
      have this := fun d13 => k (mup M' pf (.lst (ds ++ [.tup [.obj po, .obj pg, .int ((pre (hs.take i)).1 * u.p)]]))) (ds ++ [.tup [.obj po, .obj pg, .int ((pre (hs.take i)).1 * u.p)]]) po (some (.int (u.d : Nat))) (some (.obj p4)) c11 (some (.obj pr)) d13 (some (.obj pg)) (fun a o h e => (mup_ne h).trans (xx _ _ e)) mup_same (by simp [ld]) gr' npo (by rw [mup_ne npo, pt]; exact eo')
      rw [pt] at this
      simp only [← Int.mul_assoc] at this
      exact this _
def sp__law_grown : Sp2 := fun ds M Q _ => ∃ (hs : List Sh) (ns : List Int) (c : Int) (a0 : Addr), ds = [stD hs, .obj a0, .int c] ∧ StOk hs ∧ M a0 = some (.lst (ns.map D.int)) ∧ ns.length ≤ 20 ∧ (∀ x ∈ ns, 0 ≤ x ∧ x ≤ 9) ∧ 0 ≤ c ∧ c ≤ 9 ∧ ∀ pf ds' M', Ext M M' → M' pf = some (.lst ds') → ds'.length = hs.length → GR M' hs ns c pf ds' → Q (.obj pf) M'
theorem ok__law_grown {f : Addr} {fd : FuncData} (F : Fun K "_law_grown" "_law_grown" s__law_grown f fd) (T : Txt mg) (G__law_worth : Def2 P w K mg base CX0 1 "_law_worth" ["_law_weights", "_law_row"] sp__law_worth) : Fn2 P w K mg base CX0 2 f fd ["_law_chain", "_law_demands", "_law_calm"] sp__law_grown := by
  refine fn2_of F sc__law_grown no__law_grown (fun ds M Q E h => ?_) (fun X ds M Q E C h => ?_)
  · repeat (first | (obtain ⟨rfl, _⟩ := h; rfl) | (obtain ⟨_, h⟩ := h))
  · obtain ⟨hs, ns, c, a0, rfl, ok, ea, nl, hn, c0, c1, k⟩ := h
    have l9 : 1000 ≤ sizeLine := by decide
    show WSs X _ _ [some (.tup (hs.map shD)), some (.obj a0), some (.int c), none, none, none, none, none, none, none, none, none, none, none, none] M
    refine wss_cons ?_
    refine ws_par3 C (by k_extra "nm") (by k_extra "nm") (by k_extra "nm") (by decide) (by decide) (by decide) (by k_extra "gl") (by k_extra "gl") (by k_extra "gl") rfl rfl (by decide +kernel) rfl rfl rfl rfl ?_
    repeat' (k_extra "y")
    intro pf hpf
    have ea1 := mup_old (o' := .lst []) ea hpf
    repeat' (k_extra "y")
    intro pa hpa
    repeat' (k_extra "y")
    refine ⟨_, _, _, _, _, _, rfl, by k_extra "put", by k_extra "put", by k_extra "put", ?_⟩
    repeat' (k_extra "y")
    have x1 := (Ext.new (M := M) (o := .lst []) hpf).trans (Ext.new (o := .lst (ns.map D.int)) hpa)
    have ef1 := mup_old (o' := .lst (ns.map D.int)) (mup_same (M := M) (a := pf) (o := .lst [])) hpa
    have e2 : mup (mup M pf (.lst [])) pa (.lst (ns.map D.int)) pa = some (.lst ((odL (pre (hs.take 0)).2 ns c).map D.int)) := by rw [mup_same, show (pre (hs.take 0)).2 = [1] from rfl, odL_one]
    have npf : pa ≠ pf := fun z => by rw [z, mup_same] at hpa; cases hpa
    generalize mup (mup M pf (.lst [])) pa (.lst (ns.map D.int)) = M1 at x1 ef1 e2 ⊢
    clear hpa ea1
    refine ws_for (t := .tp [.nm 7, .nm 8]) C (by k_extra "tgt") (fun _ => rfl) ?_
    refine wi_tup ?_
    repeat' (k_extra "y")
    refine ⟨fun i ρ M' => ∃ pa ds' c7 c8 c9 c10 c11 c12 c13 c14, ρ = [some (stD hs), some (.obj a0), some (.int c), some (.obj pf), some (.int (pre (hs.take i)).1), some (.obj pa), some (.int (c * (pre (hs.take i)).1)), c7, c8, c9, c10, c11, c12, c13, c14] ∧ M' pf = some (.lst ds') ∧ ds'.length = i ∧ GR M' hs ns c pf ds' ∧ pa ≠ pf ∧ M' pa = some (.lst ((odL (pre (hs.take i)).2 ns c).map D.int)) ∧ (∀ a o, M a = some o → M' a = some o), ⟨pa, [], _, _, _, _, _, _, _, _, by rw [show (pre (hs.take 0)).1 = 1 from rfl, Int.mul_one]; rfl, ef1, rfl, fun t ht => by simp at ht, npf, e2, x1⟩, fun _ _ _ _ => trivial, ?_, ?_⟩
    · rintro i d ρ M' hd ⟨pa, ds', c7, c8, c9, c10, c11, c12, c13, c14, rfl, ef, ld, hg, np, ep, x⟩
      obtain ⟨u, rfl, hu⟩ := get_map hd
      refine ⟨[some (stD hs), some (.obj a0), some (.int c), some (.obj pf), some (.int (pre (hs.take i)).1), some (.obj pa), some (.int (c * (pre (hs.take i)).1)), some (lnD u.p u.ws), some (.int (u.d : Nat)), c9, c10, c11, c12, c13, c14], rfl, ?_⟩
      exact _law_grown_house (M0 := M) (d7 := none) (d8 := none) C T ‹_› ok hu nl hn c0 c1 ef ld hg np ep fun M5 ds5 pa5 c8 c9 c11 c12 c13 c14 x5 ef5 ld5 hg5 np5 ep5 => ⟨pa5, ds5, _, _, _, _, _, _, _, _, rfl, ef5, ld5, hg5, np5, ep5, fun a o e => x5 _ _ (fun z => by rw [z, hpf] at e; cases e) (x _ _ e)⟩
    · rintro ρ M' ⟨pa, ds', c7, c8, c9, c10, c11, c12, c13, c14, rfl, ef, ld, hg, np, ep, x⟩
      rw [List.length_map] at ld
      repeat' (k_extra "y")
      exact k pf ds' M' x ef ld hg
theorem own_sum {o : List Int} {B : Int} (h : ∀ x ∈ o, -B ≤ x ∧ x ≤ B) : -(o.length * B) ≤ o.sum ∧ o.sum ≤ o.length * B := sum_r h
theorem grL_bd {hs : List Sh} {i : Nat} {u : Sh} {ns : List Int} {c : Int} {n : Nat} (ok : StOk hs) (hu : hs[i]? = some u) (hn : ∀ x ∈ ns, 0 ≤ x ∧ x ≤ 9) (c0 : 0 ≤ c) (c1 : c ≤ 9) : ∀ x ∈ grL hs i u ns c n, Bd 60 x := by
  intro x hx
  obtain ⟨t, _, rfl⟩ := List.mem_map.mp hx
  have hi : i < hs.length := (List.getElem?_eq_some_iff.mp hu).1
  have pn := pre_n ok (n := i) (by omega)
  have ow := own_ok (ok.h u (List.mem_of_getElem? hu))
  have p0 := pn.p0
  have p1 := pn.p1
  have l1 := pn.l1
  have s := sum_r ow.2.2
  have cP : c * (pre (hs.take i)).1 ≤ 9 * 8000 := Int.mul_le_mul c1 p1 (by omega) (by omega)
  have cP0 : 0 ≤ c * (pre (hs.take i)).1 := Int.mul_nonneg c0 (by omega)
  have f : ∀ j, (od (pre (hs.take i)).2 (dm ns c) j).natAbs ≤ 22 * (960000000 * 9) := fun j => Nat.le_trans (od_bnd (A := 960000000) (D := 9) (fun y hy => by have := pn.w y hy; omega) (dm_bd (fun y hy => by have := hn y hy; omega) (by omega))) (Nat.mul_le_mul_right _ l1)
  have g := od_bnd (K := (t : Int)) (A := 1620) (D := 22 * (960000000 * 9)) (ws := own u.p u.d u.ws) (fun y hy => by have := ow.2.2 y hy; omega) f
  have g2 : (own u.p u.d u.ws).length * (1620 * (22 * (960000000 * 9))) ≤ 11 * (1620 * (22 * (960000000 * 9))) := Nat.mul_le_mul_right _ ow.1
  have sm : ((own u.p u.d u.ws).length : Int) * 1620 ≤ 11 * 1620 := Int.mul_le_mul_of_nonneg_right (by have := ow.1; omega) (by decide)
  have mm : (c * (pre (hs.take i)).1 * (own u.p u.d u.ws).sum).natAbs ≤ (9 * 8000) * (11 * 1620) := by
    rw [Int.natAbs_mul]
    exact Nat.mul_le_mul (by omega) (by omega)
  unfold gr Bd
  omega
/-- both tell the same, each times the other's parts -/
theorem hn_gr {hs : List Sh} {i : Nat} {u : Sh} {ns : List Int} {c : Int} (ok : StOk hs) (hu : hs[i]? = some u) : (hnL hs i u ns c).map (· * ((pre (hs.take i)).1 * u.p)) = (grL hs i u ns c ns.length).map (· * (hsm hs i u).1) := by
  have hi : i < hs.length := (List.getElem?_eq_some_iff.mp hu).1
  have oku := ok.h u (List.mem_of_getElem? hu)
  have pn := pre_n ok (n := i) (by omega)
  have ow := own_ok oku
  have p0 := pn.p0
  have q0 := oku.ln.p0
  unfold hnL grL odL
  rw [List.map_map, List.map_map, List.map_map]
  refine List.map_congr_left fun t _ => ?_
  have := low_gr (P := (pre (hs.take i)).1 * u.p) (c := c) (W := (pre (hs.take i)).2) (o := own u.p u.d u.ws) (f := dm ns c) (K := (t : Int)) (Int.mul_pos (by omega) (by omega)) (ne_len pn.l0) (ne_len ow.2.1)
  rw [pn.s] at this
  exact this
theorem datL {M : Mem} {a : Addr} {xs : List Int} (h : M a = some (.lst (xs.map D.int))) : datOf M (.obj a) = some (.list (xs.map PyData.int)) := by
  show (lstOf (M a)).bind _ = _
  rw [h]
  simp [lstOf, isDatL_ints, pyL_ints]
theorem datT {M : Mem} {xs : List Int} : datOf M (.tup (xs.map D.int)) = some (.tuple (xs.map PyData.int)) := by
  simp [datOf, isDat, isDatL_ints, D.py, pyL_ints]
theorem shaped_intsT (ns : List Int) : SeqAt.shaped (.tuple (ns.map PyData.int)) = true := by
  unfold SeqAt.shaped
  simp only [PyData.canLay0, canLay_ints, PyData.depth, depth_ints]
  rfl
theorem dat2 {M : Mem} {q : Addr} {r s : Int × List Int} (e : M q = some (.lst [lnD r.1 r.2, lnD s.1 s.2])) : datOf M (.obj q) = some (.list [pyLn r, pyLn s]) := by
  show (lstOf (M q)).bind _ = _
  rw [e]
  simp [lstOf, lnD, isDat, isDatL, isDatL_ints, D.py, pyL, pyL_ints, pyLn]
theorem sh2 {r s : Int × List Int} : SeqAt.shaped (.list [pyLn r, pyLn s]) = true := by
  unfold SeqAt.shaped pyLn
  simp only [PyData.canLay0, PyData.canLayAll0, canLay_ints, PyData.depth, PyData.depthAll, depth_ints]
  rfl
def pySh (h : Sh) : PyData := .tuple [pyLn (h.p, h.ws), .int (h.d : Nat)]
def pySt (hs : List Sh) : PyData := .tuple (hs.map pySh)
theorem dat_shs : ∀ (hs : List Sh), isDatL (hs.map shD) = true ∧ pyL (hs.map shD) = hs.map pySh
  | [] => ⟨rfl, rfl⟩
  | h :: hs => by
    have ih := dat_shs hs
    simp [isDatL, isDat, pyL, D.py, shD, isDatL_ints, pyL_ints, ih.1, ih.2, pySh, pyLn]
theorem dat_st {M : Mem} {hs : List Sh} : datOf M (stD hs) = some (pySt hs) := by
  have h := dat_shs hs
  simp [datOf, stD, isDat, D.py, h.1, h.2, pySt]
theorem sh_shs : ∀ (hs : List Sh), PyData.canLayAll0 (hs.map pySh) = true ∧ PyData.depthAll (hs.map pySh) ≤ 3
  | [] => ⟨rfl, by simp [PyData.depthAll]⟩
  | h :: hs => by
    have ih := sh_shs hs
    refine ⟨by simp [PyData.canLayAll0, PyData.canLay0, pySh, pyLn, canLay_ints, ih.1], ?_⟩
    simp only [List.map_cons, PyData.depthAll, PyData.depth, pySh, pyLn, depth_ints]
    omega
theorem sh_st {hs : List Sh} : SeqAt.shaped (pySt hs) = true := by
  have h := sh_shs hs
  unfold SeqAt.shaped pySt
  simp only [PyData.canLay0, h.1, PyData.depth]
  simp
  omega
/-! ### _law_right -/
abbrev s__law_right : Stmt := top 49
theorem sc__law_right : FnScope ["_law_chain", "_law_demands", "_law_calm", "_law_number", "_law_orders", "_law_grown_here", "_law_parts", "_law_due", "_law_told", "_law_some", "_law_heard", "_law_due_so", "_law_one", "_law_days", "_law_whole", "_law_k"] ["_law_chain", "_law_demands", "_law_calm"] (defScope s__law_right) := ⟨rfl, rfl, rfl, by decide +kernel, rfl, by decide +kernel, by decide +kernel⟩
abbrev nm__law_right : Nms := ⟨["_law_chain", "_law_demands", "_law_calm", "_law_number", "_law_orders", "_law_grown_here", "_law_parts", "_law_due", "_law_told", "_law_some", "_law_heard", "_law_due_so", "_law_days", "_law_whole"], ["_law_chain", "_law_demands", "_law_calm", "_law_number", "_law_orders", "_law_grown_here", "_law_parts", "_law_due", "_law_told", "_law_some", "_law_heard", "_law_due_so", "_law_days", "_law_whole"], ["_law_chain", "_law_demands", "_law_calm", "_law_number", "_law_orders", "_law_grown_here", "_law_told", "_law_some", "_law_heard", "_law_due_so", "_law_whole"], ["enumerate", "_law_grown", "_law_sums", "order_sum", "hand_sum", "_law_like", "list", "tuple", "hands", "isinstance", "len", "range", "need_straight"], ["_law_parts", "_law_due", "_law_days"]⟩
theorem no__law_right : nm__law_right.ok (defScope s__law_right) = true := by decide +kernel
abbrev nb__law_right_0 : Nms := ⟨["_law_one", "_law_due"], ["_law_one"], ["_law_one"], [], ["_law_due"]⟩
abbrev ow__law_right_0 : List (Str × Nat) := [("_law_one", 12)]
abbrev nb__law_right_1 : Nms := ⟨["_law_one", "_law_parts"], ["_law_one"], ["_law_one"], [], ["_law_parts"]⟩
abbrev ow__law_right_1 : List (Str × Nat) := [("_law_one", 12)]
abbrev nb__law_right_2 : Nms := ⟨["_law_one"], ["_law_one"], ["_law_one"], ["_law_is_int"], []⟩
abbrev ow__law_right_2 : List (Str × Nat) := [("_law_one", 12)]
abbrev nb__law_right_3 : Nms := ⟨["_law_k", "_law_days", "_law_due"], ["_law_k"], ["_law_k"], ["_law_worth", "len"], ["_law_days", "_law_due"]⟩
abbrev ow__law_right_3 : List (Str × Nat) := [("_law_k", 15)]
abbrev nb__law_right_4 : Nms := ⟨["_law_one", "_law_parts"], ["_law_one"], ["_law_one"], [], ["_law_parts"]⟩
abbrev ow__law_right_4 : List (Str × Nat) := [("_law_one", 12)]
abbrev nb__law_right_5 : Nms := ⟨["_law_one", "_law_due"], ["_law_one"], ["_law_one"], [], ["_law_due"]⟩
abbrev ow__law_right_5 : List (Str × Nat) := [("_law_one", 12)]
abbrev lr_house : List Stmt := forB (stAt (defBody s__law_right) 0)
abbrev lr_some : List Stmt := forB (stAt lr_house 3)
/-- what is due of a house -/
def dueD (hs : List Sh) (i : Nat) (u : Sh) : D := .tup [lnD (low (pre (hs.take (i + 1))).1 (pre (hs.take (i + 1))).2).1 (low (pre (hs.take (i + 1))).1 (pre (hs.take (i + 1))).2).2, lnD (hsm hs i u).1 (hsm hs i u).2]
theorem _law_right_some {X : Cx} {E : Ends2} (C : Cxt X ["_law_chain", "_law_demands", "_law_calm", "_law_number", "_law_orders", "_law_grown_here", "_law_parts", "_law_due", "_law_told", "_law_some", "_law_heard", "_law_due_so", "_law_one", "_law_days", "_law_whole", "_law_k"] nm__law_right P w K mg base 9) (T : Txt mg) (G_need_straight : Def2 P w K mg base CX0 6 "need_straight" ["thing"] sp_need_straight) (G_order_sum : Def2 P w K mg base CX0 8 "order_sum" ["straight", "number"] sp_order_sum) (G_hand_sum : Def2 P w K mg base CX0 8 "hand_sum" ["straight", "number"] sp_hand_sum) (G_hands : Def2 P w K mg base CX0 9 "hands" ["straight", "number", "demands", "calm"] sp_hands) (G__law_like : Def2 P w K mg base CX0 1 "_law_like" ["_law_heard", "_law_due"] sp__law_like) (G__law_worth : Def2 P w K mg base CX0 1 "_law_worth" ["_law_weights", "_law_row"] sp__law_worth) (G__law_is_int : Def2 P w K mg base CX0 1 "_law_is_int" ["_law_thing"] sp__law_is_int) (G__law_grown : Def2 P w K mg base CX0 2 "_law_grown" ["_law_chain", "_law_demands", "_law_calm"] sp__law_grown) (G__law_sums : Def2 P w K mg base CX0 3 "_law_sums" ["_law_chain", "_law_number"] sp__law_sums) : ∀ {M : Mem} {hs : List Sh} {ns : List Int} {c : Int} {i : Nat} {u : Sh} {a0 a b : Addr} {d : D} {d8 d10 d11 d12 d13 d14 d15 : Option D}, StOk hs → hs[i]? = some u → ns.length ≤ 20 → (∀ x ∈ ns, 0 ≤ x ∧ x ≤ 9) → 0 ≤ c → c ≤ 9 → M b = some (.lst ((grL hs i u ns c ns.length).map D.int)) → ((∃ a, d = .obj a ∧ M a = some (.lst (ns.map D.int))) ∨ d = .tup (ns.map D.int)) → (∀ d10 d11 M', Ext M M' → E.nx [some (stD hs), some (.obj a0), some (.int c), some (.int (i : Nat)), some (.obj a), some (.obj b), some (.int ((pre (hs.take i)).1 * u.p)), some (dueD hs i u), d8, some d, d10, d11, d12, d13, d14, d15] M') → WSs X lr_some E [some (stD hs), some (.obj a0), some (.int c), some (.int (i : Nat)), some (.obj a), some (.obj b), some (.int ((pre (hs.take i)).1 * u.p)), some (dueD hs i u), d8, some d, d10, d11, d12, d13, d14, d15] M := by
  intro M hs ns c i u a0 a b d d8 d10 d11 d12 d13 d14 d15 ok hu nl hn c0 c1 eb hd k
  have l9 : 1000 ≤ sizeLine := by decide
  have hk := hsm_ok ok hu
  have hi : i < hs.length := (List.getElem?_eq_some_iff.mp hu).1
  have pn := pre_n ok (n := i) (by omega)
  have oku := ok.h u (List.mem_of_getElem? hu)
  have p0 := pn.p0
  have p1 := pn.p1
  have q0 := oku.ln.p0
  have q1 := oku.ln.p1
  have pm : (pre (hs.take i)).1 * u.p ≤ 8000 * 20 := Int.mul_le_mul (by omega) q1 (by omega) (by omega)
  have pp : 0 < (pre (hs.take i)).1 * u.p := Int.mul_pos (by omega) (by omega)
  have gb := grL_bd (n := ns.length) ok hu hn c0 c1
  refine wss_cons ?_
  repeat' (k_extra "y")
  refine ⟨hs, i, u, d, ns, c, rfl, ok, hu, hd, by omega, hn, c0, c1, fun M1 x1 => ?_⟩
  repeat' (k_extra "y")
  refine ws_setLcG (own := ow__law_right_0) (t := .nm 12) C (by k_extra "nm") (by k_extra "gl") rfl rfl (by decide +kernel) (by decide) (fun X' B => by have C' := C.blk (sc2 := nb__law_right_0) B rfl (by decide +kernel); k_extra "tgt") (fun _ => rfl) ?_
  refine wi_list ?_
  repeat' (k_extra "y")
  have gl : (grL hs i u ns c ns.length).length = ns.length := by simp [grL]
  have hl : (hnL hs i u ns c).length = ns.length := by simp [hnL, odL]
  refine ⟨b, _, rfl, lst_lst (x1 _ _ eb), ((grL hs i u ns c ns.length).map (· * (hsm hs i u).1)).map D.int, ⟨by simp only [List.length_map]; omega, by simp, fun M5 x5 => lst_lst (x5 _ _ (x1 _ _ eb)), fun j d' z M5 hd' hz x5 => ?_⟩, fun pl M5 hpl e5 x5 => ⟨_, by k_extra "put", ?_⟩⟩
  · obtain ⟨y, rfl, hy⟩ := get_map hd'
    have ez := get_map2 hz hy
    subst ez
    refine ⟨[some (stD hs), some (.obj a0), some (.int c), some (.int (i : Nat)), some (.obj a), some (.obj b), some (.int ((pre (hs.take i)).1 * u.p)), some (.tup [lnD (low (pre (hs.take (i + 1))).1 (pre (hs.take (i + 1))).2).1 (low (pre (hs.take (i + 1))).1 (pre (hs.take (i + 1))).2).2, .tup [.int (hsm hs i u).1, .tup ((hsm hs i u).2.map D.int)]]), d8, some d, some (.tup ((hnL hs i u ns c).map D.int)), d11, some (.int y), d13, d14, d15], rfl, fun X' B => ?_⟩
    have C' := C.blk (sc2 := nb__law_right_0) B rfl (by decide +kernel)
    repeat' (k_extra "y")
    · exact mulW (a := 60) (b := 20) (gb y (List.mem_of_getElem? hy)) (by unfold Bd; omega)
    · exact ⟨Ext.refl _, rfl⟩
  have x15 := x1.trans x5
  refine wss_cons ?_
  repeat' (k_extra "y")
  refine we_lcG (own := ow__law_right_1) (t := .nm 12) C (by decide +kernel) (by decide) (fun X' B => by have C' := C.blk (sc2 := nb__law_right_1) B rfl (by decide +kernel); k_extra "tgt") (fun _ => rfl) ?_
  refine wi_tup ?_
  repeat' (k_extra "y")
  refine ⟨((hnL hs i u ns c).map (· * ((pre (hs.take i)).1 * u.p))).map D.int, ⟨by simp only [List.length_map]; omega, by simp, fun _ _ => trivial, fun j d' z M6 hd' hz x6 => ?_⟩, fun pq M6 hpq e6 x6 => ?_⟩
  · obtain ⟨y, rfl, hy⟩ := get_map hd'
    have ez := get_map2 hz hy
    subst ez
    refine ⟨[some (stD hs), some (.obj a0), some (.int c), some (.int (i : Nat)), some (.obj a), some (.obj b), some (.int ((pre (hs.take i)).1 * u.p)), some (dueD hs i u), d8, some d, some (.tup ((hnL hs i u ns c).map D.int)), some (.obj pl), some (.int y), d13, d14, d15], rfl, fun X' B => ?_⟩
    have C' := C.blk (sc2 := nb__law_right_1) B rfl (by decide +kernel)
    have hb : Bd 60 y := by
      have hy' := List.mem_of_getElem? hy
      unfold hnL at hy'
      obtain ⟨z, hz', rfl⟩ := List.mem_map.mp hy'
      have b1 := odL_bd (A := 40000000000000) (D := 9) (fun x hx => by have := hk.2.2.2.2 x hx; omega) (fun x hx => by have := hn x hx; omega) (show c.natAbs ≤ 9 by omega) z hz'
      have b2 : (hsm hs i u).2.length * (40000000000000 * 9) ≤ 32 * (40000000000000 * 9) := Nat.mul_le_mul_right _ hk.2.2.2.1
      have sm := sum_r hk.2.2.2.2
      have sm2 : ((hsm hs i u).2.length : Int) * 40000000000000 ≤ 32 * 40000000000000 := Int.mul_le_mul_of_nonneg_right (by have := hk.2.2.2.1; omega) (by decide)
      have mm : (c * (hsm hs i u).2.sum).natAbs ≤ 9 * (32 * 40000000000000) := by
        rw [Int.natAbs_mul]
        exact Nat.mul_le_mul (by omega) (by omega)
      unfold Bd
      omega
    repeat' (k_extra "y")
    · exact mulW (a := 60) (b := 20) hb (by unfold Bd; omega)
    · exact ⟨Ext.refl _, rfl⟩
  repeat' (k_extra "y")
  rw [hn_gr ok hu] at e6
  refine q_eqSame (datL e6) (datL (x6 _ _ e5)) (shaped_ints _) ?_
  repeat' (k_extra "y")
  have x16 := x15.trans x6
  refine ⟨hs, i, u, d, ns, c, rfl, ok, hu, hd.elim (fun ⟨q, e, h⟩ => .inl ⟨q, e, x16 _ _ h⟩) .inr, by omega, hn, c0, c1, fun M7 x7 => ?_⟩
  repeat' (k_extra "y")
  refine q_eqSame datT datT (shaped_intsT _) ?_
  repeat' (k_extra "y")
  refine we_lcH (α := Int) (own := ow__law_right_2) (t := .nm 12) C (by decide +kernel) (by decide) (fun X' B => by have C' := C.blk (sc2 := nb__law_right_2) B rfl (by decide +kernel); k_extra "tgt") (fun _ => rfl) ?_
  refine wi_tup ?_
  repeat' (k_extra "y")
  refine ⟨hnL hs i u ns c, D.int, fun _ => false, D.int, ⟨rfl, by simp only [List.length_map]; omega, fun _ _ => trivial, fun j y M8 hy x8 => ?_⟩, fun pr M8 hpr e8 x8 => ?_⟩
  · refine ⟨[some (stD hs), some (.obj a0), some (.int c), some (.int (i : Nat)), some (.obj a), some (.obj b), some (.int ((pre (hs.take i)).1 * u.p)), some (dueD hs i u), d8, some d, some (.tup ((hnL hs i u ns c).map D.int)), some (.obj pl), some (.int y), d13, d14, d15], rfl, fun X' B => ?_⟩
    have C' := C.blk (sc2 := nb__law_right_2) B rfl (by decide +kernel)
    repeat' (k_extra "y")
    exact ⟨Ext.refl _, rfl, fun z => nomatch z⟩
  repeat' (k_extra "y")
  intro pz hpz
  have ef : (hnL hs i u ns c).filter (fun _ => false) = [] := by simp
  rw [ef] at e8
  refine q_neNil (gs := []) (mup_old e8 hpz) mup_same ?_
  refine q_isB (Br.not (Br.decT rfl ?_))
  repeat' (k_extra "y")
  exact k _ _ _ (((x16.trans x7).trans x8).trans (Ext.new hpz))
theorem _law_right_house {X : Cx} {E : Ends2} (C : Cxt X ["_law_chain", "_law_demands", "_law_calm", "_law_number", "_law_orders", "_law_grown_here", "_law_parts", "_law_due", "_law_told", "_law_some", "_law_heard", "_law_due_so", "_law_one", "_law_days", "_law_whole", "_law_k"] nm__law_right P w K mg base 9) (T : Txt mg) (G_need_straight : Def2 P w K mg base CX0 6 "need_straight" ["thing"] sp_need_straight) (G_order_sum : Def2 P w K mg base CX0 8 "order_sum" ["straight", "number"] sp_order_sum) (G_hand_sum : Def2 P w K mg base CX0 8 "hand_sum" ["straight", "number"] sp_hand_sum) (G_hands : Def2 P w K mg base CX0 9 "hands" ["straight", "number", "demands", "calm"] sp_hands) (G__law_like : Def2 P w K mg base CX0 1 "_law_like" ["_law_heard", "_law_due"] sp__law_like) (G__law_worth : Def2 P w K mg base CX0 1 "_law_worth" ["_law_weights", "_law_row"] sp__law_worth) (G__law_is_int : Def2 P w K mg base CX0 1 "_law_is_int" ["_law_thing"] sp__law_is_int) (G__law_grown : Def2 P w K mg base CX0 2 "_law_grown" ["_law_chain", "_law_demands", "_law_calm"] sp__law_grown) (G__law_sums : Def2 P w K mg base CX0 3 "_law_sums" ["_law_chain", "_law_number"] sp__law_sums) : ∀ {M : Mem} {hs : List Sh} {ns : List Int} {c : Int} {i : Nat} {u : Sh} {a0 a b : Addr} {d7 d8 d9 d10 d11 d12 d13 d14 d15 : Option D}, StOk hs → hs[i]? = some u → ns.length ≤ 20 → (∀ x ∈ ns, 0 ≤ x ∧ x ≤ 9) → 0 ≤ c → c ≤ 9 → M a0 = some (.lst (ns.map D.int)) → M a = some (.lst ((odL (pre (hs.take (i + 1))).2 ns c).map D.int)) → M b = some (.lst ((grL hs i u ns c ns.length).map D.int)) → (∀ d7 d8 d9 d10 d11 d13 d14 M', Ext M M' → E.nx [some (stD hs), some (.obj a0), some (.int c), some (.int (i : Nat)), some (.obj a), some (.obj b), some (.int ((pre (hs.take i)).1 * u.p)), d7, d8, d9, d10, d11, d12, d13, d14, d15] M') → WSs X lr_house E [some (stD hs), some (.obj a0), some (.int c), some (.int (i : Nat)), some (.obj a), some (.obj b), some (.int ((pre (hs.take i)).1 * u.p)), d7, d8, d9, d10, d11, d12, d13, d14, d15] M := by
  intro M hs ns c i u a0 a b d7 d8 d9 d10 d11 d12 d13 d14 d15 ok hu nl hn c0 c1 e0 ea eb k
  have l9 : 1000 ≤ sizeLine := by decide
  have hk := hsm_ok ok hu
  have hi : i < hs.length := (List.getElem?_eq_some_iff.mp hu).1
  have pn := pre_n ok (n := i) (by omega)
  have pn1 := pre_n ok (n := i + 1) (by omega)
  have oku := ok.h u (List.mem_of_getElem? hu)
  have p0 := pn.p0
  have p1 := pn.p1
  have q0 := oku.ln.p0
  have q1 := oku.ln.p1
  have r0 := pn1.p0
  have r1 := pn1.p1
  have rl0 := pn1.l0
  have rl1 := pn1.l1
  have pm : (pre (hs.take i)).1 * u.p ≤ 8000 * 20 := Int.mul_le_mul (by omega) q1 (by omega) (by omega)
  have pp : 0 < (pre (hs.take i)).1 * u.p := Int.mul_pos (by omega) (by omega)
  have lw := low_w (p := (pre (hs.take (i + 1))).1) r0 pn1.w (ne_len rl0)
  have lv : 0 < (low (pre (hs.take (i + 1))).1 (pre (hs.take (i + 1))).2).2.length := List.length_pos_iff.mpr lw.2.2.1
  refine wss_cons ?_
  repeat' (k_extra "y")
  refine ⟨hs, i, u, rfl, ok, hu, fun M1 x1 => ?_⟩
  repeat' (k_extra "y")
  refine ⟨hs, i, rfl, ok, hi, fun M2 x2 => ?_⟩
  repeat' (k_extra "y")
  refine ⟨hs, i, u, rfl, ok, hu, fun M3 x3 => ?_⟩
  repeat' (k_extra "y")
  intro pt hpt
  have et : mup M3 pt (.lst [lnD (low (pre (hs.take (i + 1))).1 (pre (hs.take (i + 1))).2).1 (low (pre (hs.take (i + 1))).1 (pre (hs.take (i + 1))).2).2, lnD (hsm hs i u).1 (hsm hs i u).2]) pt = some (.lst [lnD (low (pre (hs.take (i + 1))).1 (pre (hs.take (i + 1))).2).1 (low (pre (hs.take (i + 1))).1 (pre (hs.take (i + 1))).2).2, lnD (hsm hs i u).1 (hsm hs i u).2]) := mup_same
  have x4 := ((x1.trans x2).trans x3).trans (Ext.new (o := .lst [lnD (low (pre (hs.take (i + 1))).1 (pre (hs.take (i + 1))).2).1 (low (pre (hs.take (i + 1))).1 (pre (hs.take (i + 1))).2).2, lnD (hsm hs i u).1 (hsm hs i u).2]) hpt)
  refine wg_name C (by k_extra "nm") (by k_extra "gl") (by k_extra "put") ?_
  show WSs X _ E _ (mup M3 pt (.lst [lnD (low (pre (hs.take (i + 1))).1 (pre (hs.take (i + 1))).2).1 (low (pre (hs.take (i + 1))).1 (pre (hs.take (i + 1))).2).2, lnD (hsm hs i u).1 (hsm hs i u).2]))
  generalize mup M3 pt (.lst [lnD (low (pre (hs.take (i + 1))).1 (pre (hs.take (i + 1))).2).1 (low (pre (hs.take (i + 1))).1 (pre (hs.take (i + 1))).2).2, lnD (hsm hs i u).1 (hsm hs i u).2]) = M4 at x4 et ⊢
  refine wss_cons ?_
  repeat' (k_extra "y")
  intro pv hpv
  repeat' (k_extra "y")
  have pL : ∀ {M' : Mem} {q : Addr}, M' q = some (.lst [lnD (low (pre (hs.take (i + 1))).1 (pre (hs.take (i + 1))).2).1 (low (pre (hs.take (i + 1))).1 (pre (hs.take (i + 1))).2).2, lnD (hsm hs i u).1 (hsm hs i u).2]) → PyS M' 8833 3 (.obj q) (.list [pyLn (low (pre (hs.take (i + 1))).1 (pre (hs.take (i + 1))).2), pyLn (hsm hs i u)]) := fun {M' q} e => pys_lst (m := 2) (L := 4413) (K := 2) e (pys_cons (pys_ln (by omega) (fun x hx => by have := lw.2.2.2.2 x hx; omega) (by omega)) (by decide) (by decide) (pys_cons (pys_ln (by omega) (fun x hx => by have := hk.2.2.2.2 x hx; omega) (by omega)) (by decide) (by decide) pys_nil)) (Nat.le_refl _)
  refine ⟨_, _, _, _, _, _, _, rfl, pL (mup_old et hpv), pL mup_same, by decide, by decide, by decide, by decide, ?_⟩
  refine ⟨true, rfl, Br.f ?_⟩
  repeat' (k_extra "y")
  have x5 := x4.trans (Ext.new (o := .lst [lnD (low (pre (hs.take (i + 1))).1 (pre (hs.take (i + 1))).2).1 (low (pre (hs.take (i + 1))).1 (pre (hs.take (i + 1))).2).2, lnD (hsm hs i u).1 (hsm hs i u).2]) hpv)
  have et5 := mup_old (o' := .lst [lnD (low (pre (hs.take (i + 1))).1 (pre (hs.take (i + 1))).2).1 (low (pre (hs.take (i + 1))).1 (pre (hs.take (i + 1))).2).2, lnD (hsm hs i u).1 (hsm hs i u).2]) et hpv
  generalize mup M4 pv (.lst [lnD (low (pre (hs.take (i + 1))).1 (pre (hs.take (i + 1))).2).1 (low (pre (hs.take (i + 1))).1 (pre (hs.take (i + 1))).2).2, lnD (hsm hs i u).1 (hsm hs i u).2]) = M5 at x5 et5 ⊢
  clear hpv
  refine ⟨hs, i, rfl, ok, hi, fun M6 x6 => ?_⟩
  repeat' (k_extra "y")
  refine ⟨hs, i, u, rfl, ok, hu, fun M7 x7 => ?_⟩
  repeat' (k_extra "y")
  intro pw hpw
  repeat' (k_extra "y")
  refine q_eqSame (dat2 mup_same) (dat2 (mup_old (x7 _ _ (x6 _ _ et5)) hpw)) sh2 ?_
  repeat' (k_extra "y")
  have x8 := ((x5.trans x6).trans x7).trans (Ext.new (o := .lst [lnD (low (pre (hs.take (i + 1))).1 (pre (hs.take (i + 1))).2).1 (low (pre (hs.take (i + 1))).1 (pre (hs.take (i + 1))).2).2, lnD (hsm hs i u).1 (hsm hs i u).2]) hpw)
  generalize mup M7 pw (.lst [lnD (low (pre (hs.take (i + 1))).1 (pre (hs.take (i + 1))).2).1 (low (pre (hs.take (i + 1))).1 (pre (hs.take (i + 1))).2).2, lnD (hsm hs i u).1 (hsm hs i u).2]) = M8 at x8 ⊢
  clear hpw x6 x7 et5 et x5 x4 hpt x1 x2 x3
  refine ws_for (t := .nm 9) C (by k_extra "tgt") (fun _ => rfl) ?_
  refine wi_tup ?_
  repeat' (k_extra "y")
  refine q_tuple (items_lst (x8 _ _ e0)) ?_
  repeat' (k_extra "y")
  refine ⟨fun j ρ M' => ∃ d9 d10 d11, ρ = [some (stD hs), some (.obj a0), some (.int c), some (.int (i : Nat)), some (.obj a), some (.obj b), some (.int ((pre (hs.take i)).1 * u.p)), some (dueD hs i u), some (.obj pt), d9, d10, d11, d12, d13, d14, d15] ∧ Ext M M', ⟨_, _, _, rfl, x8⟩, fun _ _ _ _ => trivial, ?_, ?_⟩
  · rintro j d ρ M' hd ⟨d9, d10, d11, rfl, x⟩
    have hd' : (∃ a, d = .obj a ∧ M' a = some (.lst (ns.map D.int))) ∨ d = .tup (ns.map D.int) := by
      have hm := List.mem_of_getElem? hd
      rcases List.mem_cons.mp hm with z | z
      · exact .inl ⟨a0, z, x _ _ e0⟩
      · exact .inr (List.mem_singleton.mp z)
    refine ⟨[some (stD hs), some (.obj a0), some (.int c), some (.int (i : Nat)), some (.obj a), some (.obj b), some (.int ((pre (hs.take i)).1 * u.p)), some (dueD hs i u), some (.obj pt), some d, d10, d11, d12, d13, d14, d15], rfl, ?_⟩
    exact _law_right_some C T G_need_straight G_order_sum G_hand_sum G_hands G__law_like G__law_worth G__law_is_int G__law_grown G__law_sums ok hu nl hn c0 c1 (x _ _ eb) hd' fun d10 d11 M2 x2 => ⟨_, _, _, rfl, x.trans x2⟩
  rintro ρ M9 ⟨d9', d10', d11', rfl, x9⟩
  have ol := fun t : Nat => low_od (P := (pre (hs.take (i + 1))).1) (W := (pre (hs.take (i + 1))).2) (f := dm ns c) (K := (t : Int)) (by omega) (ne_len rl0)
  have kk := fun d7 d8 d9 d10 d11 d13 d14 M' h => k d7 d8 d9 d10 d11 d13 d14 M' h
  clear k
  unfold dueD
  generalize low (pre (hs.take (i + 1))).1 (pre (hs.take (i + 1))).2 = r at lw lv ol ⊢
  have rl : r.2.length ≤ 22 := by omega
  clear pL
  refine wss_cons ?_
  repeat' (k_extra "y")
  intro p1' h1
  repeat' (k_extra "y")
  refine ⟨_, mup_same, by rw [List.length_map]; omega, by rw [List.length_map]; omega, by simp only [List.length_map, List.length_cons, List.length_nil]; omega, fun p2 h2 => ?_⟩
  rw [List.length_map, show ((r.2.length : Int) - 1).toNat = r.2.length - 1 by omega, rep_flat]
  have y2 := (x9.trans (Ext.new (o := .lst [.int c]) h1)).trans (Ext.new (o := .lst ((List.replicate (r.2.length - 1) c).map D.int)) h2)
  have e2 : mup (mup M9 p1' (.lst [.int c])) p2 (.lst ((List.replicate (r.2.length - 1) c).map D.int)) p2 = some (.lst ((List.replicate (r.2.length - 1) c).map D.int)) := mup_same
  generalize mup (mup M9 p1' (.lst [.int c])) p2 (.lst ((List.replicate (r.2.length - 1) c).map D.int)) = N2 at y2 e2 ⊢
  clear h1 h2
  show WE X _ _ N2 _
  repeat' (k_extra "y")
  refine q_list (items_lst (y2 _ _ e0)) ?_
  intro p3 h3
  refine q_addL (mup_old e2 h3) mup_same (by simp only [List.length_map, List.length_replicate]; omega) ?_
  intro p4 h4
  have y4 := (y2.trans (Ext.new (o := .lst (ns.map D.int)) h3)).trans (Ext.new (o := .lst ((List.replicate (r.2.length - 1) c).map D.int ++ ns.map D.int)) h4)
  have e4 : mup (mup N2 p3 (.lst (ns.map D.int))) p4 (.lst ((List.replicate (r.2.length - 1) c).map D.int ++ ns.map D.int)) p4 = some (.lst ((dy (r.2.length - 1) c ns).map D.int)) := by rw [mup_same]; unfold dy; rw [List.map_append]
  generalize mup (mup N2 p3 (.lst (ns.map D.int))) p4 (.lst ((List.replicate (r.2.length - 1) c).map D.int ++ ns.map D.int)) = N4 at y4 e4 ⊢
  clear h3 h4
  repeat' (k_extra "y")
  have f0 := y4 _ _ e0
  have fa := y4 _ _ ea
  have dl : (dy (r.2.length - 1) c ns).length = r.2.length - 1 + ns.length := by simp [dy]
  refine ws_setLcG (own := ow__law_right_3) (t := .nm 15) C (by k_extra "nm") (by k_extra "gl") rfl rfl (by decide +kernel) (by decide) (fun X' B => by have C' := C.blk (sc2 := nb__law_right_3) B rfl (by decide +kernel); k_extra "tgt") (fun _ => rfl) ?_
  repeat' (k_extra "y")
  have bw : ∀ x ∈ r.2, Bd 100 x := fun x hx => (by unfold Bd; have := lw.2.2.2.2 x hx; omega : Bd 40 x).le (by decide)
  refine ⟨by rw [List.length_map]; omega, by rw [List.length_map]; omega, (odL r.2 ns c).map D.int, ⟨by simp only [List.length_map, List.length_range]; omega, by simp [odL], fun _ _ => trivial, fun j d z N5 hd hz z5 => ?_⟩, fun po N5 hpo e5 z5 => ⟨_, by k_extra "put", ?_⟩⟩
  · obtain ⟨hj, rfl⟩ := rng_get hd
    rw [List.length_map] at hj
    have hj : j < ns.length := by omega
    obtain ⟨z', rfl, hz'⟩ := get_map hz
    unfold odL at hz'
    rw [List.getElem?_map, List.getElem?_range hj] at hz'
    cases hz'
    rw [show (0 : Int) + (j : Nat) = (j : Nat) by omega]
    refine ⟨[some (stD hs), some (.obj a0), some (.int c), some (.int (i : Nat)), some (.obj a), some (.obj b), some (.int ((pre (hs.take i)).1 * u.p)), some (.tup [.tup [.int r.1, .tup (r.2.map D.int)], lnD (hsm hs i u).1 (hsm hs i u).2]), some (.obj pt), d9', d10', d11', d12, some (.obj p4), d14, some (.int (j : Nat))], rfl, fun X' B => ?_⟩
    have C' := C.blk (sc2 := nb__law_right_3) B rfl (by decide +kernel)
    have e4' := z5 _ _ e4
    repeat' (k_extra "y")
    refine q_slL e4' ?_
    rw [List.length_map, cut_two (by rw [List.length_map, dl]; omega)]
    intro p5 h5
    refine ⟨p5, _, rfl, mup_same, ?_⟩
    intro p6 h6
    have er : ((((dy (r.2.length - 1) c ns).map D.int).drop j).take r.2.length).reverse = ((((dy (r.2.length - 1) c ns).drop j).take r.2.length).reverse).map D.int := by rw [← List.map_drop, ← List.map_take, ← List.map_reverse]
    rw [er]
    have z6 := (Ext.new (o := .lst ((((dy (r.2.length - 1) c ns).map D.int).drop j).take r.2.length)) h5).trans (Ext.new (o := .lst (((((dy (r.2.length - 1) c ns).drop j).take r.2.length).reverse).map D.int)) h6)
    repeat' (k_extra "y")
    refine ⟨_, p6, r.2, _, rfl, .inr rfl, mup_same, by omega, bw, fun y hy => ?_, fun N7 z7 => ⟨z6.trans z7, ?_⟩⟩
    · have hy := List.mem_of_mem_drop (List.mem_of_mem_take (List.mem_reverse.mp hy))
      rcases List.mem_append.mp hy with z | z
      · rw [(List.mem_replicate.mp z).2]; exact (by unfold Bd; omega : Bd 40 _).le (by decide)
      · exact (by unfold Bd; have := hn y z; omega : Bd 40 y).le (by decide)
    · rw [wz_od lv hj]
  · repeat' (k_extra "y")
    have pe := pre_take hu
    have ob : ∀ x ∈ odL r.2 ns c, Bd 60 x := fun x hx => by
      have b1 := odL_bd (A := 960000000) (D := 9) (fun y hy => by have := lw.2.2.2.2 y hy; omega) (fun y hy => by have := hn y hy; omega) (show c.natAbs ≤ 9 by omega) x hx
      have b2 : r.2.length * (960000000 * 9) ≤ 22 * (960000000 * 9) := Nat.mul_le_mul_right _ rl
      unfold Bd; omega
    have ob2 : ∀ x ∈ odL (pre (hs.take (i + 1))).2 ns c, Bd 60 x := fun x hx => by
      have b1 := odL_bd (A := 960000000) (D := 9) (fun y hy => by have := pn1.w y hy; omega) (fun y hy => by have := hn y hy; omega) (show c.natAbs ≤ 9 by omega) x hx
      have b2 : (pre (hs.take (i + 1))).2.length * (960000000 * 9) ≤ 22 * (960000000 * 9) := Nat.mul_le_mul_right _ rl1
      unfold Bd; omega
    refine we_lcG (own := ow__law_right_4) (t := .nm 12) C (by decide +kernel) (by decide) (fun X' B => by have C' := C.blk (sc2 := nb__law_right_4) B rfl (by decide +kernel); k_extra "tgt") (fun _ => rfl) ?_
    refine wi_list ?_
    repeat' (k_extra "y")
    refine ⟨po, _, rfl, lst_lst e5, ((odL r.2 ns c).map (· * ((pre (hs.take i)).1 * u.p))).map D.int, ⟨by simp only [List.length_map, odL, List.length_range]; omega, by simp, fun M' x => lst_lst (x _ _ e5), fun j d' z N6 hd' hz x6 => ?_⟩, fun pq N6 hpq e6 x6 => ?_⟩
    · obtain ⟨y, rfl, hy⟩ := get_map hd'
      have ez := get_map2 hz hy
      subst ez
      refine ⟨[some (stD hs), some (.obj a0), some (.int c), some (.int (i : Nat)), some (.obj a), some (.obj b), some (.int ((pre (hs.take i)).1 * u.p)), some (.tup [lnD r.1 r.2, lnD (hsm hs i u).1 (hsm hs i u).2]), some (.obj pt), d9', d10', d11', some (.int y), some (.obj p4), some (.obj po), d15], rfl, fun X' B => ?_⟩
      have C' := C.blk (sc2 := nb__law_right_4) B rfl (by decide +kernel)
      repeat' (k_extra "y")
      · exact mulW (a := 60) (b := 20) (ob y (List.mem_of_getElem? hy)) (by unfold Bd; omega)
      · exact ⟨Ext.refl _, rfl⟩
    have fa6 := x6 _ _ (z5 _ _ fa)
    refine we_lcG (own := ow__law_right_5) (t := .nm 12) C (by decide +kernel) (by decide) (fun X' B => by have C' := C.blk (sc2 := nb__law_right_5) B rfl (by decide +kernel); k_extra "tgt") (fun _ => rfl) ?_
    refine wi_list ?_
    repeat' (k_extra "y")
    refine ⟨a, _, rfl, lst_lst fa6, ((odL (pre (hs.take (i + 1))).2 ns c).map (· * r.1)).map D.int, ⟨by simp only [List.length_map, odL, List.length_range]; omega, by simp, fun M' x => lst_lst (x _ _ fa6), fun j d' z N7 hd' hz x7 => ?_⟩, fun pr N7 hpr e7 x7 => ?_⟩
    · obtain ⟨y, rfl, hy⟩ := get_map hd'
      have ez := get_map2 hz hy
      subst ez
      refine ⟨[some (stD hs), some (.obj a0), some (.int c), some (.int (i : Nat)), some (.obj a), some (.obj b), some (.int ((pre (hs.take i)).1 * u.p)), some (.tup [.tup [.int r.1, .tup (r.2.map D.int)], lnD (hsm hs i u).1 (hsm hs i u).2]), some (.obj pt), d9', d10', d11', some (.int y), some (.obj p4), some (.obj po), d15], rfl, fun X' B => ?_⟩
      have C' := C.blk (sc2 := nb__law_right_5) B rfl (by decide +kernel)
      repeat' (k_extra "y")
      · exact mulW (a := 60) (b := 20) (ob2 y (List.mem_of_getElem? hy)) (by unfold Bd; omega)
      · exact ⟨Ext.refl _, rfl⟩
    have ee : (odL r.2 ns c).map (· * ((pre (hs.take i)).1 * u.p)) = (odL (pre (hs.take (i + 1))).2 ns c).map (· * r.1) := by
      unfold odL
      rw [List.map_map, List.map_map]
      refine List.map_congr_left fun t _ => ?_
      have := ol t
      rw [pe] at this ⊢
      exact this
    rw [ee] at e6
    refine q_eqSame (datL (x7 _ _ e6)) (datL e7) (shaped_ints _) ?_
    repeat' (k_extra "y")
    exact kk _ _ _ _ _ _ _ _ (((y4.trans z5).trans x6).trans x7)
def sp__law_right : Sp2 := fun ds M Q _ => ∃ (hs : List Sh) (ns : List Int) (c : Int) (a0 : Addr), ds = [stD hs, .obj a0, .int c] ∧ StOk hs ∧ M a0 = some (.lst (ns.map D.int)) ∧ ns.length ≤ 20 ∧ (∀ x ∈ ns, 0 ≤ x ∧ x ≤ 9) ∧ 0 ≤ c ∧ c ≤ 9 ∧ ∀ M', Ext M M' → Q (.bl true) M'
theorem ok__law_right {f : Addr} {fd : FuncData} (F : Fun K "_law_right" "_law_right" s__law_right f fd) (T : Txt mg) (G_need_straight : Def2 P w K mg base CX0 6 "need_straight" ["thing"] sp_need_straight) (G_order_sum : Def2 P w K mg base CX0 8 "order_sum" ["straight", "number"] sp_order_sum) (G_hand_sum : Def2 P w K mg base CX0 8 "hand_sum" ["straight", "number"] sp_hand_sum) (G_hands : Def2 P w K mg base CX0 9 "hands" ["straight", "number", "demands", "calm"] sp_hands) (G__law_like : Def2 P w K mg base CX0 1 "_law_like" ["_law_heard", "_law_due"] sp__law_like) (G__law_worth : Def2 P w K mg base CX0 1 "_law_worth" ["_law_weights", "_law_row"] sp__law_worth) (G__law_is_int : Def2 P w K mg base CX0 1 "_law_is_int" ["_law_thing"] sp__law_is_int) (G__law_grown : Def2 P w K mg base CX0 2 "_law_grown" ["_law_chain", "_law_demands", "_law_calm"] sp__law_grown) (G__law_sums : Def2 P w K mg base CX0 3 "_law_sums" ["_law_chain", "_law_number"] sp__law_sums) : Fn2 P w K mg base CX0 10 f fd ["_law_chain", "_law_demands", "_law_calm"] sp__law_right := by
  refine fn2_of F sc__law_right no__law_right (fun ds M Q E h => ?_) (fun X ds M Q E C h => ?_)
  · repeat (first | (obtain ⟨rfl, _⟩ := h; rfl) | (obtain ⟨_, h⟩ := h))
  · obtain ⟨hs, ns, c, a0, rfl, ok, e0, nl, hn, c0, c1, k⟩ := h
    have l9 : 1000 ≤ sizeLine := by decide
    have n1 := ok.n1
    show WSs X _ _ [some (stD hs), some (.obj a0), some (.int c), none, none, none, none, none, none, none, none, none, none, none, none, none] M
    refine wss_cons ?_
    refine ws_for (t := .tp [.nm 3, .tp [.nm 4, .nm 5, .nm 6]]) C (by k_extra "tgt") (fun _ => rfl) ?_
    k_extra "enL"
    repeat' (k_extra "y")
    refine ⟨hs, ns, c, a0, rfl, ok, e0, nl, hn, c0, c1, fun pf ds' M1 x1 ef ld hg => ?_⟩
    refine ⟨pf, ds', rfl, lst_lst ef, fun i ρ M' => ∃ d3 d4 d5 d6 d7 d8 d9 d10 d11 d12 d13 d14 d15, ρ = [some (stD hs), some (.obj a0), some (.int c), d3, d4, d5, d6, d7, d8, d9, d10, d11, d12, d13, d14, d15] ∧ Ext M1 M', ⟨_, _, _, _, _, _, _, _, _, _, _, _, _, rfl, Ext.refl _⟩, fun i ρ M' ⟨_, _, _, _, _, _, _, _, _, _, _, _, _, _, x⟩ => lst_lst (x _ _ ef), ?_, ?_⟩
    · rintro i d ρ M' hd ⟨d3, d4, d5, d6, d7, d8, d9, d10, d11, d12, d13, d14, d15, rfl, x⟩
      obtain ⟨f, hf, rfl⟩ := enumD_get hd
      have hi : i < ds'.length := (List.getElem?_eq_some_iff.mp hf).1
      obtain ⟨u, a, b, hu, h2, ha, hb, _, _⟩ := hg i hi
      rw [hf] at h2
      obtain rfl := Option.some.inj h2
      refine ⟨[some (stD hs), some (.obj a0), some (.int c), some (.int (i : Nat)), some (.obj a), some (.obj b), some (.int (pre (hs.take (i + 1))).1), d7, d8, d9, d10, d11, d12, d13, d14, d15], rfl, ?_⟩
      rw [show (pre (hs.take (i + 1))).1 = (pre (hs.take i)).1 * u.p by rw [pre_take hu]]
      exact _law_right_house C T G_need_straight G_order_sum G_hand_sum G_hands G__law_like G__law_worth G__law_is_int G__law_grown G__law_sums ok hu nl hn c0 c1 (x _ _ (x1 _ _ e0)) (x _ _ ha) (x _ _ hb) fun _ _ _ _ _ _ _ M2 x2 => ⟨_, _, _, _, _, _, _, _, _, _, _, _, _, rfl, x.trans x2⟩
    · rintro ρ M' ⟨d3, d4, d5, d6, d7, d8, d9, d10, d11, d12, d13, d14, d15, rfl, x⟩
      repeat' (k_extra "y")
      refine ⟨hs, rfl, ok, fun M2 x2 => ?_⟩
      refine we_var C (by k_extra "slot") (by k_extra "gl") ?_
      refine q_eqSame dat_st dat_st sh_st ?_
      exact k _ ((x1.trans x).trans x2)
/-! ### law -/
abbrev s_law : Stmt := top 50
theorem sc_law : FnScope ["_law_script", "_law_m", "_law_turn", "_law_chain", "_law_calm", "_law_demands", "_law_k", "_law_kept_so", "_law_told"] ["_law_script"] (defScope s_law) := ⟨rfl, rfl, rfl, by decide +kernel, rfl, by decide +kernel, by decide +kernel⟩
abbrev nm_law : Nms := ⟨["_law_script", "_law_m", "_law_turn", "_law_chain", "_law_calm", "_law_demands", "_law_kept_so", "_law_told"], ["_law_script", "_law_m", "_law_turn", "_law_chain", "_law_calm", "_law_demands", "_law_kept_so", "_law_told"], ["_law_script", "_law_turn", "_law_chain", "_law_calm", "_law_demands", "_law_kept_so", "_law_told"], ["_law_begun", "range", "_law_straight", "_law_draw", "repr", "_law_right", "order_sum", "hand_sum", "_law_like", "hands"], ["_law_m"]⟩
theorem no_law : nm_law.ok (defScope s_law) = true := by decide +kernel
abbrev nb_law_0 : Nms := ⟨["_law_k", "_law_m"], ["_law_k"], ["_law_k"], ["_law_draw"], ["_law_m"]⟩
abbrev ow_law_0 : List (Str × Nat) := [("_law_k", 6)]
abbrev lw_turn : List Stmt := forB (stAt (defBody s_law) 1)
theorem pys_st {M : Mem} {hs : List Sh} (ok : StOk hs) : PyS M 26508 4 (stD hs) (pySt hs) := by
  refine pys_tup (m := 3) (L := 8833) (K := 3) (pys_map fun h hh => ?_) (by rw [List.length_map]; exact ok.n1)
  have o := ok.h h hh
  have p0 := o.ln.p0
  have p1 := o.ln.p1
  have l1 := o.ln.l1
  have d1 := o.d1
  exact pys_tup (m := 2) (L := 4413) (K := 2) (pys_cons (pys_ln (r := (h.p, h.ws)) ⟨by show _ < h.p; omega, by show h.p < _; omega⟩ (fun x hx => by have := o.ln.w x hx; omega) (by show h.ws.length ≤ 100; omega)) (by decide) (by decide) (pys_cons (pys_i (i := (h.d : Nat)) (by omega) (by omega)) (by decide) (by decide) pys_nil)) (Nat.le_refl _)
theorem law_turn {X : Cx} {E : Ends2} (C : Cxt X ["_law_script", "_law_m", "_law_turn", "_law_chain", "_law_calm", "_law_demands", "_law_k", "_law_kept_so", "_law_told"] nm_law P w K mg base 10) (T : Txt mg) (G_order_sum : Def2 P w K mg base CX0 8 "order_sum" ["straight", "number"] sp_order_sum) (G_hand_sum : Def2 P w K mg base CX0 8 "hand_sum" ["straight", "number"] sp_hand_sum) (G_hands : Def2 P w K mg base CX0 9 "hands" ["straight", "number", "demands", "calm"] sp_hands) (G__law_draw : Def2 P w K mg base CX0 2 "_law_draw" ["_law_m", "_law_limit"] sp__law_draw) (G__law_begun : Def2 P w K mg base CX0 2 "_law_begun" ["_law_script"] sp__law_begun) (G__law_like : Def2 P w K mg base CX0 1 "_law_like" ["_law_heard", "_law_due"] sp__law_like) (G__law_straight : Def2 P w K mg base CX0 4 "_law_straight" ["_law_m"] sp__law_straight) (G__law_right : Def2 P w K mg base CX0 10 "_law_right" ["_law_chain", "_law_demands", "_law_calm"] sp__law_right) : ∀ {M : Mem} {m g c : Addr} {n : Int} {d0 d2 d3 d4 d5 d6 d7 d8 : Option D}, Drw M m g c n → n < 800000 → (∀ c3 c4 c5 c6 c7 c8 k' M', Drw M' m g c k' → k' ≤ n + 70 → E.nx [d0, some (.obj m), d2, c3, c4, c5, c6, c7, c8] M') → WSs X lw_turn E [d0, some (.obj m), d2, d3, d4, d5, d6, d7, d8] M := by
  intro M m g c n d0 d2 d3 d4 d5 d6 d7 d8 dr nb k
  have l9 : 1000 ≤ sizeLine := by decide
  refine wss_cons ?_
  repeat' (k_extra "y")
  refine ⟨m, g, c, n, rfl, dr, by omega, fun hs k1 M1 ok hk1 dr1 b1 => ?_⟩
  repeat' (k_extra "y")
  refine ⟨m, g, c, k1, 10, rfl, dr1, by omega, by omega, by omega, fun cal M2 cal0 cal1 dr2 b2 => ?_⟩
  repeat' (k_extra "y")
  refine ws_setLc (own := ow_law_0) (t := .nm 6) C (by k_extra "nm") (by k_extra "gl") rfl rfl (by decide +kernel) (by decide) (fun X' B => by have C' := C.blk (sc2 := nb_law_0) B rfl (by decide +kernel); k_extra "tgt") (fun _ => rfl) ?_
  repeat' (k_extra "y")
  refine ⟨m, g, c, _, 21, rfl, dr2, by omega, by omega, by omega, fun v M5 v0 v1 dr5 b5 => ?_⟩
  repeat' (k_extra "y")
  refine ⟨by omega, by omega, fun pd hpd => ?_⟩
  have ⟨dm', dg', dc'⟩ := dr5.ne hpd
  refine ⟨fun i M' => ∃ (ns : List Int) (k5 : Int), M' pd = some (.lst (ns.map D.int)) ∧ ns.length = i ∧ (∀ x ∈ ns, 0 ≤ x ∧ x ≤ 9) ∧ Drw M' m g c k5 ∧ k5 = k1 + 1 + 1 + (i : Int), ⟨[], _, mup_same, rfl, by simp, dr5.put dm' dg' dc', by omega⟩, fun _ _ _ => trivial, ?_, ?_⟩
  · rintro i d M' hd ⟨ns, k5, e, hl, hx, d', ek⟩
    obtain ⟨hi, rfl⟩ := rng_get hd
    refine ⟨[d0, some (.obj m), d2, some (stD hs), some (.int cal), d5, some (.int (0 + (i : Nat))), d7, d8], rfl, fun X' B => ?_⟩
    refine Br.t fun X2 B2 => ?_
    have C' := C.blk (sc2 := nb_law_0) B2 rfl (by decide +kernel)
    repeat' (k_extra "y")
    refine ⟨m, g, c, _, 10, rfl, d', by omega, by omega, by omega, fun u M6 u0 u1 d6 b6 => ?_⟩
    refine ⟨_, b6 _ _ dm' dg' e, by rw [List.length_map, hl]; omega, ns ++ [u], _, by rw [mup_same, List.map_append]; rfl, by simp [hl], ?_, d6.put dm' dg' dc', by omega⟩
    intro x hx'
    rcases List.mem_append.mp hx' with q | q
    · exact hx x q
    · rw [List.mem_singleton.mp q]; omega
  rintro M7 ⟨ns, k5, e7, hl, hn, d7', ek⟩
  rw [List.length_map, List.length_range] at hl ek
  refine ⟨_, by k_extra "put", ?_⟩
  repeat' (k_extra "y")
  intro pk hpk
  have pD : ∀ {M' : Mem}, M' pd = some (.lst (ns.map D.int)) → PyS M' 443 1 (.obj pd) (.list (ns.map PyData.int)) := fun {M'} e => pys_lst (m := 20) e (pys_ints fun x hx' => by have := hn x hx'; omega) (by rw [List.length_map]; omega)
  have pK : ∀ {M' : Mem} {q0 : Addr}, M' q0 = some (.lst [stD hs, .obj pd]) → M' pd = some (.lst (ns.map D.int)) → PyS M' 53023 5 (.obj q0) (.list [pySt hs, .list (ns.map PyData.int)]) := fun {M' q0} e e2 => pys_lst (m := 2) (L := 26508) (K := 4) e (pys_cons (pys_st ok) (by decide) (by decide) (pys_cons (pD e2) (by decide) (by decide) pys_nil)) (Nat.le_refl _)
  refine q_repr (pK mup_same (mup_old e7 hpk)) (by decide) (by decide) ?_
  have e8 := mup_old (o' := .lst [stD hs, .obj pd]) e7 hpk
  have ⟨km, kg, kc⟩ := d7'.ne hpk
  have d8' := d7'.put (o := .lst [stD hs, .obj pd]) km kg kc
  refine wg_name C (by k_extra "nm") (by k_extra "gl") (by k_extra "put") ?_
  show WSs X _ E _ (mup M7 pk (.lst [stD hs, .obj pd]))
  generalize mup M7 pk (.lst [stD hs, .obj pd]) = M8 at e8 d8' ⊢
  refine wss_cons ?_
  repeat' (k_extra "y")
  refine ⟨hs, ns, cal, pd, rfl, ok, e8, by omega, hn, cal0, by omega, fun M9 x9 => ?_⟩
  repeat' (k_extra "y")
  intro pz hpz
  repeat' (k_extra "y")
  refine q_repr (pK mup_same (mup_old (x9 _ _ e8) hpz)) (by decide) (by decide) ?_
  have ⟨zm, zg, zc⟩ := (d8'.ext x9).ne hpz
  have dz := (d8'.ext x9).put (o := .lst [stD hs, .obj pd]) zm zg zc
  generalize mup M9 pz (.lst [stD hs, .obj pd]) = Mz at dz ⊢
  repeat' (k_extra "y")
  exact k _ _ _ _ _ _ _ _ dz (by omega)
abbrev lw_end : List Stmt := (defBody s_law).drop 2
abbrev hs0 : List Sh := [⟨2, [3, -1], 2⟩, ⟨1, [1], 1⟩]
theorem hs0_ok : StOk hs0 := ⟨by decide, by decide, fun h hh => by
  rcases List.mem_cons.mp hh with z | z
  · subst z; exact ⟨⟨by decide, by decide, by decide, by decide, by decide, by decide⟩, by decide, by decide⟩
  · rw [List.mem_singleton.mp z]; exact ⟨⟨by decide, by decide, by decide, by decide, by decide, by decide⟩, by decide, by decide⟩⟩
theorem ev1 : low (pre (hs0.take (0 + 1))).1 (pre (hs0.take (0 + 1))).2 = (2, [3, -1]) := by decide +kernel
theorem ev2 : low (pre (hs0.take (1 + 1))).1 (pre (hs0.take (1 + 1))).2 = (2, [3, -1]) := by decide +kernel
theorem ev3 : hsm hs0 0 ⟨2, [3, -1], 2⟩ = (2, [2, 2, -1]) := by decide +kernel
theorem ev4 : hsm hs0 1 ⟨1, [1], 1⟩ = (2, [3, -1]) := by decide +kernel
theorem ev5 : hnL hs0 0 ⟨2, [3, -1], 2⟩ [2, 5] 1 = [-2, -10] := by decide +kernel
theorem ev6 : hnL hs0 1 ⟨1, [1], 1⟩ [2, 5] 1 = [-3, -11] := by decide +kernel
theorem law_end {X : Cx} {E : Ends2} (C : Cxt X ["_law_script", "_law_m", "_law_turn", "_law_chain", "_law_calm", "_law_demands", "_law_k", "_law_kept_so", "_law_told"] nm_law P w K mg base 10) (T : Txt mg) (G_order_sum : Def2 P w K mg base CX0 8 "order_sum" ["straight", "number"] sp_order_sum) (G_hand_sum : Def2 P w K mg base CX0 8 "hand_sum" ["straight", "number"] sp_hand_sum) (G_hands : Def2 P w K mg base CX0 9 "hands" ["straight", "number", "demands", "calm"] sp_hands) (G__law_draw : Def2 P w K mg base CX0 2 "_law_draw" ["_law_m", "_law_limit"] sp__law_draw) (G__law_begun : Def2 P w K mg base CX0 2 "_law_begun" ["_law_script"] sp__law_begun) (G__law_like : Def2 P w K mg base CX0 1 "_law_like" ["_law_heard", "_law_due"] sp__law_like) (G__law_straight : Def2 P w K mg base CX0 4 "_law_straight" ["_law_m"] sp__law_straight) (G__law_right : Def2 P w K mg base CX0 10 "_law_right" ["_law_chain", "_law_demands", "_law_calm"] sp__law_right) : ∀ {M : Mem} {d0 d1 d2 d3 d4 d5 d6 d7 d8 : Option D}, (∀ M', E.rt (.bl true) M') → WSs X lw_end E [d0, d1, d2, d3, d4, d5, d6, d7, d8] M := by
  intro M d0 d1 d2 d3 d4 d5 d6 d7 d8 k
  refine wss_cons ?_
  repeat' (k_extra "y")
  refine ⟨hs0, 0, rfl, hs0_ok, by decide, fun M1 x1 => ?_⟩
  rw [ev1]
  repeat' (k_extra "y")
  refine ⟨hs0, 1, rfl, hs0_ok, by decide, fun M2 x2 => ?_⟩
  rw [ev2]
  repeat' (k_extra "y")
  refine ⟨hs0, 0, _, rfl, hs0_ok, rfl, fun M3 x3 => ?_⟩
  rw [ev3]
  repeat' (k_extra "y")
  refine ⟨hs0, 1, _, rfl, hs0_ok, rfl, fun M4 x4 => ?_⟩
  rw [ev4]
  repeat' (k_extra "y")
  intro pt hpt
  repeat' (k_extra "y")
  intro pu hpu
  repeat' (k_extra "y")
  have pL : ∀ {M' : Mem} {q : Addr}, M' q = some (.lst [lnD 2 [3, -1], lnD 2 [3, -1], lnD 2 [2, 2, -1], lnD 2 [3, -1]]) → PyS M' 17663 3 (.obj q) (.list [pyLn (2, [3, -1]), pyLn (2, [3, -1]), pyLn (2, [2, 2, -1]), pyLn (2, [3, -1])]) := fun {M' q} e => pys_lst (m := 4) (L := 4413) (K := 2) e (pys_cons (pys_ln (r := (2, [3, -1])) (by decide) (by decide) (by decide)) (by decide) (by decide) (pys_cons (pys_ln (r := (2, [3, -1])) (by decide) (by decide) (by decide)) (by decide) (by decide) (pys_cons (pys_ln (r := (2, [2, 2, -1])) (by decide) (by decide) (by decide)) (by decide) (by decide) (pys_cons (pys_ln (r := (2, [3, -1])) (by decide) (by decide) (by decide)) (by decide) (by decide) pys_nil)))) (Nat.le_refl _)
  refine ⟨_, _, _, _, _, _, _, rfl, pL (mup_old mup_same hpu), pL mup_same, by decide, by decide, by decide, by decide, ?_⟩
  refine ⟨true, rfl, Br.f ?_⟩
  repeat' (k_extra "y")
  intro pv hpv
  repeat' (k_extra "y")
  refine ⟨hs0, 0, _, .obj pv, [2, 5], 1, rfl, hs0_ok, rfl, .inl ⟨pv, rfl, mup_same⟩, by decide, by decide, by decide, by decide, fun M5 x5 => ?_⟩
  rw [ev5]
  repeat' (k_extra "y")
  refine ⟨hs0, 1, _, .tup [.int 2, .int 5], [2, 5], 1, rfl, hs0_ok, rfl, .inr rfl, by decide, by decide, by decide, by decide, fun M6 x6 => ?_⟩
  rw [ev6]
  repeat' (k_extra "y")
  intro pw hpw
  repeat' (k_extra "y")
  intro px hpx
  repeat' (k_extra "y")
  have pH : ∀ {M' : Mem} {q : Addr}, M' q = some (.lst [.tup ([-2, -10].map D.int), .tup ([-3, -11].map D.int)]) → PyS M' 101 2 (.obj q) (.list [.tuple ([-2, -10].map .int), .tuple ([-3, -11].map .int)]) := fun {M' q} e => (pys_lst (m := 2) (L := 47) (K := 1) e (pys_cons (pys_tup (m := 2) (pys_ints (by decide)) (by decide)) (by decide) (by decide) (pys_cons (pys_tup (m := 2) (pys_ints (by decide)) (by decide)) (by decide) (by decide) pys_nil)) (Nat.le_refl _)).le (by decide) (by decide)
  refine ⟨_, _, _, _, _, _, _, rfl, pH (mup_old mup_same hpx), pH mup_same, by decide, by decide, by decide, by decide, ?_⟩
  exact k _
abbrev sp_law : Sp2 := spLaw 63
theorem ok_law {f : Addr} {fd : FuncData} (F : Fun K "law" "law" s_law f fd) (T : Txt mg) (G_order_sum : Def2 P w K mg base CX0 8 "order_sum" ["straight", "number"] sp_order_sum) (G_hand_sum : Def2 P w K mg base CX0 8 "hand_sum" ["straight", "number"] sp_hand_sum) (G_hands : Def2 P w K mg base CX0 9 "hands" ["straight", "number", "demands", "calm"] sp_hands) (G__law_draw : Def2 P w K mg base CX0 2 "_law_draw" ["_law_m", "_law_limit"] sp__law_draw) (G__law_begun : Def2 P w K mg base CX0 2 "_law_begun" ["_law_script"] sp__law_begun) (G__law_like : Def2 P w K mg base CX0 1 "_law_like" ["_law_heard", "_law_due"] sp__law_like) (G__law_straight : Def2 P w K mg base CX0 4 "_law_straight" ["_law_m"] sp__law_straight) (G__law_right : Def2 P w K mg base CX0 10 "_law_right" ["_law_chain", "_law_demands", "_law_calm"] sp__law_right) : Fn2 P w K mg base CX0 11 f fd ["_law_script"] sp_law := by
  refine fn2_of F sc_law no_law (fun ds M Q E h => ?_) (fun X ds M Q E C h => ?_)
  · repeat (first | (obtain ⟨rfl, _⟩ := h; rfl) | (obtain ⟨_, h⟩ := h))
  · obtain ⟨ns, rfl, hl, emp, k⟩ := h
    show WSs X _ _ [some (.ro (ns.map D.int)), none, none, none, none, none, none, none, none] M
    refine wss_cons ?_
    repeat' (k_extra "y")
    refine ⟨ns, rfl, hl, emp, fun m g c M1 dr => ?_⟩
    repeat' (k_extra "y")
    refine ws_for (t := .nm 2) C (by k_extra "tgt") (fun _ => rfl) ?_
    repeat' (k_extra "y")
    refine ⟨by decide, by decide, fun i ρ M' => ∃ (n : Int) (a2 a3 a4 a5 a6 a7 a8 : Option D), ρ = [some (.ro (ns.map D.int)), some (.obj m), a2, a3, a4, a5, a6, a7, a8] ∧ Drw M' m g c n ∧ n ≤ 70 * (i : Int), ⟨0, _, _, _, _, _, _, _, rfl, dr, by omega⟩, fun _ _ _ _ => trivial, ?_, ?_⟩
    · rintro i d ρ M' hd ⟨n, a2, a3, a4, a5, a6, a7, a8, rfl, dr, hn⟩
      obtain ⟨hi, rfl⟩ := rng_get hd
      have hi' : i < 12 := hi
      refine ⟨[some (.ro (ns.map D.int)), some (.obj m), some (.int (0 + (i : Nat))), a3, a4, a5, a6, a7, a8], rfl, ?_⟩
      exact law_turn C T G_order_sum G_hand_sum G_hands G__law_draw G__law_begun G__law_like G__law_straight G__law_right dr (by omega) fun c3 c4 c5 c6 c7 c8 k' M2 d2 hk => ⟨_, _, _, _, _, _, _, _, rfl, d2, by omega⟩
    · rintro ρ M' ⟨n, a2, a3, a4, a5, a6, a7, a8, rfl, dr, hn⟩
      exact law_end C T G_order_sum G_hand_sum G_hands G__law_draw G__law_begun G__law_like G__law_straight G__law_right k
end
theorem all_mk {l : PySem.W.OpenLaw} {w : World} {K : PySem.W.Frag} {h : Heap} {mg : Str → Option Value} {fa : Addr} (X : K.In h) (G : h.Ns mainGlobals mg) (hfa : mg "law" = some (.ref fa))
    {od9 an9 : Option Addr} {sl9 : Array (Option Value)} {oc9 kV9 dc9 pm9 cd9 ct9 : Value} {f9 : Addr}
    {od17 an17 : Option Addr} {sl17 : Array (Option Value)} {oc17 kV17 dc17 pm17 cd17 ct17 : Value} {f17 : Addr}
    {od22 an22 : Option Addr} {sl22 : Array (Option Value)} {oc22 kV22 dc22 pm22 cd22 ct22 : Value} {f22 : Addr}
    {od23 an23 : Option Addr} {sl23 : Array (Option Value)} {oc23 kV23 dc23 pm23 cd23 ct23 : Value} {f23 : Addr}
    {od31 an31 : Option Addr} {sl31 : Array (Option Value)} {oc31 kV31 dc31 pm31 cd31 ct31 : Value} {f31 : Addr}
    {od35 an35 : Option Addr} {sl35 : Array (Option Value)} {oc35 kV35 dc35 pm35 cd35 ct35 : Value} {f35 : Addr}
    {od36 an36 : Option Addr} {sl36 : Array (Option Value)} {oc36 kV36 dc36 pm36 cd36 ct36 : Value} {f36 : Addr}
    {od39 an39 : Option Addr} {sl39 : Array (Option Value)} {oc39 kV39 dc39 pm39 cd39 ct39 : Value} {f39 : Addr}
    {od40 an40 : Option Addr} {sl40 : Array (Option Value)} {oc40 kV40 dc40 pm40 cd40 ct40 : Value} {f40 : Addr}
    {od42 an42 : Option Addr} {sl42 : Array (Option Value)} {oc42 kV42 dc42 pm42 cd42 ct42 : Value} {f42 : Addr}
    {od44 an44 : Option Addr} {sl44 : Array (Option Value)} {oc44 kV44 dc44 pm44 cd44 ct44 : Value} {f44 : Addr}
    {od45 an45 : Option Addr} {sl45 : Array (Option Value)} {oc45 kV45 dc45 pm45 cd45 ct45 : Value} {f45 : Addr}
    {od12 an12 : Option Addr} {sl12 : Array (Option Value)} {oc12 kV12 dc12 pm12 cd12 ct12 : Value} {f12 : Addr}
    {od18 an18 : Option Addr} {sl18 : Array (Option Value)} {oc18 kV18 dc18 pm18 cd18 ct18 : Value} {f18 : Addr}
    {od21 an21 : Option Addr} {sl21 : Array (Option Value)} {oc21 kV21 dc21 pm21 cd21 ct21 : Value} {f21 : Addr}
    {od37 an37 : Option Addr} {sl37 : Array (Option Value)} {oc37 kV37 dc37 pm37 cd37 ct37 : Value} {f37 : Addr}
    {od38 an38 : Option Addr} {sl38 : Array (Option Value)} {oc38 kV38 dc38 pm38 cd38 ct38 : Value} {f38 : Addr}
    {od41 an41 : Option Addr} {sl41 : Array (Option Value)} {oc41 kV41 dc41 pm41 cd41 ct41 : Value} {f41 : Addr}
    {od47 an47 : Option Addr} {sl47 : Array (Option Value)} {oc47 kV47 dc47 pm47 cd47 ct47 : Value} {f47 : Addr}
    {od19 an19 : Option Addr} {sl19 : Array (Option Value)} {oc19 kV19 dc19 pm19 cd19 ct19 : Value} {f19 : Addr}
    {od29 an29 : Option Addr} {sl29 : Array (Option Value)} {oc29 kV29 dc29 pm29 cd29 ct29 : Value} {f29 : Addr}
    {od43 an43 : Option Addr} {sl43 : Array (Option Value)} {oc43 kV43 dc43 pm43 cd43 ct43 : Value} {f43 : Addr}
    {od48 an48 : Option Addr} {sl48 : Array (Option Value)} {oc48 kV48 dc48 pm48 cd48 ct48 : Value} {f48 : Addr}
    {od20 an20 : Option Addr} {sl20 : Array (Option Value)} {oc20 kV20 dc20 pm20 cd20 ct20 : Value} {f20 : Addr}
    {od46 an46 : Option Addr} {sl46 : Array (Option Value)} {oc46 kV46 dc46 pm46 cd46 ct46 : Value} {f46 : Addr}
    {od26 an26 : Option Addr} {sl26 : Array (Option Value)} {oc26 kV26 dc26 pm26 cd26 ct26 : Value} {f26 : Addr}
    {od27 an27 : Option Addr} {sl27 : Array (Option Value)} {oc27 kV27 dc27 pm27 cd27 ct27 : Value} {f27 : Addr}
    {od28 an28 : Option Addr} {sl28 : Array (Option Value)} {oc28 kV28 dc28 pm28 cd28 ct28 : Value} {f28 : Addr}
    {od30 an30 : Option Addr} {sl30 : Array (Option Value)} {oc30 kV30 dc30 pm30 cd30 ct30 : Value} {f30 : Addr}
    {od32 an32 : Option Addr} {sl32 : Array (Option Value)} {oc32 kV32 dc32 pm32 cd32 ct32 : Value} {f32 : Addr}
    {od33 an33 : Option Addr} {sl33 : Array (Option Value)} {oc33 kV33 dc33 pm33 cd33 ct33 : Value} {f33 : Addr}
    {od49 an49 : Option Addr} {sl49 : Array (Option Value)} {oc49 kV49 dc49 pm49 cd49 ct49 : Value} {f49 : Addr}
    {od50 an50 : Option Addr} {sl50 : Array (Option Value)} {oc50 kV50 dc50 pm50 cd50 ct50 : Value} {f50 : Addr}
    {t_MOST_DAYS : Tok}
    {t_MOST_DEMAND : Tok}
    {t_MOST_PARTS : Tok}
    {t_MOST_WEIGHTS : Tok}
    {t_MOST_WEIGHT : Tok}
    {t_MOST_STRAIGHT : Tok}
    {t_MOST_DELAY : Tok}
    (a9 : PySem.W.nsIn K mainGlobals "is_whole" = some (some (.ref f9))) (l9 : K.lookup f9 = some ⟨oc9, od9, .func (PySem.W.fnOf "is_whole" "is_whole" (defArgs s_is_whole) (defBody s_is_whole) (defScope s_is_whole) .none kV9 dc9 pm9 an9 cd9 ct9), sl9⟩) (c9 : PySem.W.codeIn K cd9 "is_whole" = true) (k9 : PySem.W.keepIn K (.ref f9) = true)
    (a17 : PySem.W.nsIn K mainGlobals "common" = some (some (.ref f17))) (l17 : K.lookup f17 = some ⟨oc17, od17, .func (PySem.W.fnOf "common" "common" (defArgs s_common) (defBody s_common) (defScope s_common) .none kV17 dc17 pm17 an17 cd17 ct17), sl17⟩) (c17 : PySem.W.codeIn K cd17 "common" = true) (k17 : PySem.W.keepIn K (.ref f17) = true)
    (a22 : PySem.W.nsIn K mainGlobals "multiplied" = some (some (.ref f22))) (l22 : K.lookup f22 = some ⟨oc22, od22, .func (PySem.W.fnOf "multiplied" "multiplied" (defArgs s_multiplied) (defBody s_multiplied) (defScope s_multiplied) .none kV22 dc22 pm22 an22 cd22 ct22), sl22⟩) (c22 : PySem.W.codeIn K cd22 "multiplied" = true) (k22 : PySem.W.keepIn K (.ref f22) = true)
    (a23 : PySem.W.nsIn K mainGlobals "told_of" = some (some (.ref f23))) (l23 : K.lookup f23 = some ⟨oc23, od23, .func (PySem.W.fnOf "told_of" "told_of" (defArgs s_told_of) (defBody s_told_of) (defScope s_told_of) .none kV23 dc23 pm23 an23 cd23 ct23), sl23⟩) (c23 : PySem.W.codeIn K cd23 "told_of" = true) (k23 : PySem.W.keepIn K (.ref f23) = true)
    (a31 : PySem.W.nsIn K mainGlobals "own_hand" = some (some (.ref f31))) (l31 : K.lookup f31 = some ⟨oc31, od31, .func (PySem.W.fnOf "own_hand" "own_hand" (defArgs s_own_hand) (defBody s_own_hand) (defScope s_own_hand) .none kV31 dc31 pm31 an31 cd31 ct31), sl31⟩) (c31 : PySem.W.codeIn K cd31 "own_hand" = true) (k31 : PySem.W.keepIn K (.ref f31) = true)
    (a35 : PySem.W.nsIn K mainGlobals "_law_mixed" = some (some (.ref f35))) (l35 : K.lookup f35 = some ⟨oc35, od35, .func (PySem.W.fnOf "_law_mixed" "_law_mixed" (defArgs s__law_mixed) (defBody s__law_mixed) (defScope s__law_mixed) .none kV35 dc35 pm35 an35 cd35 ct35), sl35⟩) (c35 : PySem.W.codeIn K cd35 "_law_mixed" = true) (k35 : PySem.W.keepIn K (.ref f35) = true)
    (a36 : PySem.W.nsIn K mainGlobals "_law_folded" = some (some (.ref f36))) (l36 : K.lookup f36 = some ⟨oc36, od36, .func (PySem.W.fnOf "_law_folded" "_law_folded" (defArgs s__law_folded) (defBody s__law_folded) (defScope s__law_folded) .none kV36 dc36 pm36 an36 cd36 ct36), sl36⟩) (c36 : PySem.W.codeIn K cd36 "_law_folded" = true) (k36 : PySem.W.keepIn K (.ref f36) = true)
    (a39 : PySem.W.nsIn K mainGlobals "_law_like" = some (some (.ref f39))) (l39 : K.lookup f39 = some ⟨oc39, od39, .func (PySem.W.fnOf "_law_like" "_law_like" (defArgs s__law_like) (defBody s__law_like) (defScope s__law_like) .none kV39 dc39 pm39 an39 cd39 ct39), sl39⟩) (c39 : PySem.W.codeIn K cd39 "_law_like" = true) (k39 : PySem.W.keepIn K (.ref f39) = true)
    (a40 : PySem.W.nsIn K mainGlobals "_law_gcd" = some (some (.ref f40))) (l40 : K.lookup f40 = some ⟨oc40, od40, .func (PySem.W.fnOf "_law_gcd" "_law_gcd" (defArgs s__law_gcd) (defBody s__law_gcd) (defScope s__law_gcd) .none kV40 dc40 pm40 an40 cd40 ct40), sl40⟩) (c40 : PySem.W.codeIn K cd40 "_law_gcd" = true) (k40 : PySem.W.keepIn K (.ref f40) = true)
    (a42 : PySem.W.nsIn K mainGlobals "_law_times" = some (some (.ref f42))) (l42 : K.lookup f42 = some ⟨oc42, od42, .func (PySem.W.fnOf "_law_times" "_law_times" (defArgs s__law_times) (defBody s__law_times) (defScope s__law_times) .none kV42 dc42 pm42 an42 cd42 ct42), sl42⟩) (c42 : PySem.W.codeIn K cd42 "_law_times" = true) (k42 : PySem.W.keepIn K (.ref f42) = true)
    (a44 : PySem.W.nsIn K mainGlobals "_law_worth" = some (some (.ref f44))) (l44 : K.lookup f44 = some ⟨oc44, od44, .func (PySem.W.fnOf "_law_worth" "_law_worth" (defArgs s__law_worth) (defBody s__law_worth) (defScope s__law_worth) .none kV44 dc44 pm44 an44 cd44 ct44), sl44⟩) (c44 : PySem.W.codeIn K cd44 "_law_worth" = true) (k44 : PySem.W.keepIn K (.ref f44) = true)
    (a45 : PySem.W.nsIn K mainGlobals "_law_is_int" = some (some (.ref f45))) (l45 : K.lookup f45 = some ⟨oc45, od45, .func (PySem.W.fnOf "_law_is_int" "_law_is_int" (defArgs s__law_is_int) (defBody s__law_is_int) (defScope s__law_is_int) .none kV45 dc45 pm45 an45 cd45 ct45), sl45⟩) (c45 : PySem.W.codeIn K cd45 "_law_is_int" = true) (k45 : PySem.W.keepIn K (.ref f45) = true)
    (a12 : PySem.W.nsIn K mainGlobals "need_demands" = some (some (.ref f12))) (l12 : K.lookup f12 = some ⟨oc12, od12, .func (PySem.W.fnOf "need_demands" "need_demands" (defArgs s_need_demands) (defBody s_need_demands) (defScope s_need_demands) .none kV12 dc12 pm12 an12 cd12 ct12), sl12⟩) (c12 : PySem.W.codeIn K cd12 "need_demands" = true) (k12 : PySem.W.keepIn K (.ref f12) = true)
    (a18 : PySem.W.nsIn K mainGlobals "are_weights" = some (some (.ref f18))) (l18 : K.lookup f18 = some ⟨oc18, od18, .func (PySem.W.fnOf "are_weights" "are_weights" (defArgs s_are_weights) (defBody s_are_weights) (defScope s_are_weights) .none kV18 dc18 pm18 an18 cd18 ct18), sl18⟩) (c18 : PySem.W.codeIn K cd18 "are_weights" = true) (k18 : PySem.W.keepIn K (.ref f18) = true)
    (a21 : PySem.W.nsIn K mainGlobals "least_terms" = some (some (.ref f21))) (l21 : K.lookup f21 = some ⟨oc21, od21, .func (PySem.W.fnOf "least_terms" "least_terms" (defArgs s_least_terms) (defBody s_least_terms) (defScope s_least_terms) .none kV21 dc21 pm21 an21 cd21 ct21), sl21⟩) (c21 : PySem.W.codeIn K cd21 "least_terms" = true) (k21 : PySem.W.keepIn K (.ref f21) = true)
    (a37 : PySem.W.nsIn K mainGlobals "_law_draw" = some (some (.ref f37))) (l37 : K.lookup f37 = some ⟨oc37, od37, .func (PySem.W.fnOf "_law_draw" "_law_draw" (defArgs s__law_draw) (defBody s__law_draw) (defScope s__law_draw) .none kV37 dc37 pm37 an37 cd37 ct37), sl37⟩) (c37 : PySem.W.codeIn K cd37 "_law_draw" = true) (k37 : PySem.W.keepIn K (.ref f37) = true)
    (a38 : PySem.W.nsIn K mainGlobals "_law_begun" = some (some (.ref f38))) (l38 : K.lookup f38 = some ⟨oc38, od38, .func (PySem.W.fnOf "_law_begun" "_law_begun" (defArgs s__law_begun) (defBody s__law_begun) (defScope s__law_begun) .none kV38 dc38 pm38 an38 cd38 ct38), sl38⟩) (c38 : PySem.W.codeIn K cd38 "_law_begun" = true) (k38 : PySem.W.keepIn K (.ref f38) = true)
    (a41 : PySem.W.nsIn K mainGlobals "_law_lowest" = some (some (.ref f41))) (l41 : K.lookup f41 = some ⟨oc41, od41, .func (PySem.W.fnOf "_law_lowest" "_law_lowest" (defArgs s__law_lowest) (defBody s__law_lowest) (defScope s__law_lowest) .none kV41 dc41 pm41 an41 cd41 ct41), sl41⟩) (c41 : PySem.W.codeIn K cd41 "_law_lowest" = true) (k41 : PySem.W.keepIn K (.ref f41) = true)
    (a47 : PySem.W.nsIn K mainGlobals "_law_grown" = some (some (.ref f47))) (l47 : K.lookup f47 = some ⟨oc47, od47, .func (PySem.W.fnOf "_law_grown" "_law_grown" (defArgs s__law_grown) (defBody s__law_grown) (defScope s__law_grown) .none kV47 dc47 pm47 an47 cd47 ct47), sl47⟩) (c47 : PySem.W.codeIn K cd47 "_law_grown" = true) (k47 : PySem.W.keepIn K (.ref f47) = true)
    (a19 : PySem.W.nsIn K mainGlobals "need_parts" = some (some (.ref f19))) (l19 : K.lookup f19 = some ⟨oc19, od19, .func (PySem.W.fnOf "need_parts" "need_parts" (defArgs s_need_parts) (defBody s_need_parts) (defScope s_need_parts) .none kV19 dc19 pm19 an19 cd19 ct19), sl19⟩) (c19 : PySem.W.codeIn K cd19 "need_parts" = true) (k19 : PySem.W.keepIn K (.ref f19) = true)
    (a29 : PySem.W.nsIn K mainGlobals "asked_sum" = some (some (.ref f29))) (l29 : K.lookup f29 = some ⟨oc29, od29, .func (PySem.W.fnOf "asked_sum" "asked_sum" (defArgs s_asked_sum) (defBody s_asked_sum) (defScope s_asked_sum) .none kV29 dc29 pm29 an29 cd29 ct29), sl29⟩) (c29 : PySem.W.codeIn K cd29 "asked_sum" = true) (k29 : PySem.W.keepIn K (.ref f29) = true)
    (a43 : PySem.W.nsIn K mainGlobals "_law_line" = some (some (.ref f43))) (l43 : K.lookup f43 = some ⟨oc43, od43, .func (PySem.W.fnOf "_law_line" "_law_line" (defArgs s__law_line) (defBody s__law_line) (defScope s__law_line) .none kV43 dc43 pm43 an43 cd43 ct43), sl43⟩) (c43 : PySem.W.codeIn K cd43 "_law_line" = true) (k43 : PySem.W.keepIn K (.ref f43) = true)
    (a48 : PySem.W.nsIn K mainGlobals "_law_sums" = some (some (.ref f48))) (l48 : K.lookup f48 = some ⟨oc48, od48, .func (PySem.W.fnOf "_law_sums" "_law_sums" (defArgs s__law_sums) (defBody s__law_sums) (defScope s__law_sums) .none kV48 dc48 pm48 an48 cd48 ct48), sl48⟩) (c48 : PySem.W.codeIn K cd48 "_law_sums" = true) (k48 : PySem.W.keepIn K (.ref f48) = true)
    (a20 : PySem.W.nsIn K mainGlobals "need_line" = some (some (.ref f20))) (l20 : K.lookup f20 = some ⟨oc20, od20, .func (PySem.W.fnOf "need_line" "need_line" (defArgs s_need_line) (defBody s_need_line) (defScope s_need_line) .none kV20 dc20 pm20 an20 cd20 ct20), sl20⟩) (c20 : PySem.W.codeIn K cd20 "need_line" = true) (k20 : PySem.W.keepIn K (.ref f20) = true)
    (a46 : PySem.W.nsIn K mainGlobals "_law_straight" = some (some (.ref f46))) (l46 : K.lookup f46 = some ⟨oc46, od46, .func (PySem.W.fnOf "_law_straight" "_law_straight" (defArgs s__law_straight) (defBody s__law_straight) (defScope s__law_straight) .none kV46 dc46 pm46 an46 cd46 ct46), sl46⟩) (c46 : PySem.W.codeIn K cd46 "_law_straight" = true) (k46 : PySem.W.keepIn K (.ref f46) = true)
    (a26 : PySem.W.nsIn K mainGlobals "is_line" = some (some (.ref f26))) (l26 : K.lookup f26 = some ⟨oc26, od26, .func (PySem.W.fnOf "is_line" "is_line" (defArgs s_is_line) (defBody s_is_line) (defScope s_is_line) .none kV26 dc26 pm26 an26 cd26 ct26), sl26⟩) (c26 : PySem.W.codeIn K cd26 "is_line" = true) (k26 : PySem.W.keepIn K (.ref f26) = true)
    (a27 : PySem.W.nsIn K mainGlobals "need_straight" = some (some (.ref f27))) (l27 : K.lookup f27 = some ⟨oc27, od27, .func (PySem.W.fnOf "need_straight" "need_straight" (defArgs s_need_straight) (defBody s_need_straight) (defScope s_need_straight) .none kV27 dc27 pm27 an27 cd27 ct27), sl27⟩) (c27 : PySem.W.codeIn K cd27 "need_straight" = true) (k27 : PySem.W.keepIn K (.ref f27) = true)
    (a28 : PySem.W.nsIn K mainGlobals "need_house" = some (some (.ref f28))) (l28 : K.lookup f28 = some ⟨oc28, od28, .func (PySem.W.fnOf "need_house" "need_house" (defArgs s_need_house) (defBody s_need_house) (defScope s_need_house) .none kV28 dc28 pm28 an28 cd28 ct28), sl28⟩) (c28 : PySem.W.codeIn K cd28 "need_house" = true) (k28 : PySem.W.keepIn K (.ref f28) = true)
    (a30 : PySem.W.nsIn K mainGlobals "order_sum" = some (some (.ref f30))) (l30 : K.lookup f30 = some ⟨oc30, od30, .func (PySem.W.fnOf "order_sum" "order_sum" (defArgs s_order_sum) (defBody s_order_sum) (defScope s_order_sum) .none kV30 dc30 pm30 an30 cd30 ct30), sl30⟩) (c30 : PySem.W.codeIn K cd30 "order_sum" = true) (k30 : PySem.W.keepIn K (.ref f30) = true)
    (a32 : PySem.W.nsIn K mainGlobals "hand_sum" = some (some (.ref f32))) (l32 : K.lookup f32 = some ⟨oc32, od32, .func (PySem.W.fnOf "hand_sum" "hand_sum" (defArgs s_hand_sum) (defBody s_hand_sum) (defScope s_hand_sum) .none kV32 dc32 pm32 an32 cd32 ct32), sl32⟩) (c32 : PySem.W.codeIn K cd32 "hand_sum" = true) (k32 : PySem.W.keepIn K (.ref f32) = true)
    (a33 : PySem.W.nsIn K mainGlobals "hands" = some (some (.ref f33))) (l33 : K.lookup f33 = some ⟨oc33, od33, .func (PySem.W.fnOf "hands" "hands" (defArgs s_hands) (defBody s_hands) (defScope s_hands) .none kV33 dc33 pm33 an33 cd33 ct33), sl33⟩) (c33 : PySem.W.codeIn K cd33 "hands" = true) (k33 : PySem.W.keepIn K (.ref f33) = true)
    (a49 : PySem.W.nsIn K mainGlobals "_law_right" = some (some (.ref f49))) (l49 : K.lookup f49 = some ⟨oc49, od49, .func (PySem.W.fnOf "_law_right" "_law_right" (defArgs s__law_right) (defBody s__law_right) (defScope s__law_right) .none kV49 dc49 pm49 an49 cd49 ct49), sl49⟩) (c49 : PySem.W.codeIn K cd49 "_law_right" = true) (k49 : PySem.W.keepIn K (.ref f49) = true)
    (a50 : PySem.W.nsIn K mainGlobals "law" = some (some (.ref f50))) (l50 : K.lookup f50 = some ⟨oc50, od50, .func (PySem.W.fnOf "law" "law" (defArgs s_law) (defBody s_law) (defScope s_law) .none kV50 dc50 pm50 an50 cd50 ct50), sl50⟩) (c50 : PySem.W.codeIn K cd50 "law" = true) (k50 : PySem.W.keepIn K (.ref f50) = true)
    (z_isinstance : PySem.W.nsIn K mainGlobals "isinstance" = some none)
    (z_int : PySem.W.nsIn K mainGlobals "int" = some none)
    (z_bool : PySem.W.nsIn K mainGlobals "bool" = some none)
    (z_list : PySem.W.nsIn K mainGlobals "list" = some none)
    (z_tuple : PySem.W.nsIn K mainGlobals "tuple" = some none)
    (z_len : PySem.W.nsIn K mainGlobals "len" = some none)
    (z_enumerate : PySem.W.nsIn K mainGlobals "enumerate" = some none)
    (z_abs : PySem.W.nsIn K mainGlobals "abs" = some none)
    (z_all : PySem.W.nsIn K mainGlobals "all" = some none)
    (z_sum : PySem.W.nsIn K mainGlobals "sum" = some none)
    (z_range : PySem.W.nsIn K mainGlobals "range" = some none)
    (z_repr : PySem.W.nsIn K mainGlobals "repr" = some none)
    (z_zip : PySem.W.nsIn K mainGlobals "zip" = some none)
    (y_MOST_DAYS : PySem.W.nsIn K mainGlobals "MOST_DAYS" = some (some (.int 400 t_MOST_DAYS)))
    (y_MOST_DEMAND : PySem.W.nsIn K mainGlobals "MOST_DEMAND" = some (some (.int 9 t_MOST_DEMAND)))
    (y_MOST_PARTS : PySem.W.nsIn K mainGlobals "MOST_PARTS" = some (some (.int 60 t_MOST_PARTS)))
    (y_MOST_WEIGHTS : PySem.W.nsIn K mainGlobals "MOST_WEIGHTS" = some (some (.int 8 t_MOST_WEIGHTS)))
    (y_MOST_WEIGHT : PySem.W.nsIn K mainGlobals "MOST_WEIGHT" = some (some (.int 600 t_MOST_WEIGHT)))
    (y_MOST_STRAIGHT : PySem.W.nsIn K mainGlobals "MOST_STRAIGHT" = some (some (.int 3 t_MOST_STRAIGHT)))
    (y_MOST_DELAY : PySem.W.nsIn K mainGlobals "MOST_DELAY" = some (some (.int 4 t_MOST_DELAY)))
    : ∃ fd : FuncData, (∀ (s : Shared) (v : Value), BindsTo s fd ⟨[v], []⟩ [("_law_script", v)]) ∧ ∀ base : Heap, K.In base → base.Ns mainGlobals mg → Fn2 l.prog w K mg base CX0 11 fa fd ["_law_script"] (spLaw 63) := by
  have e := hfa.symm.trans (PySem.W.mg_of X G a50)
  cases e
  have T : Txt mg := ⟨PySem.W.mg_none_of X G z_isinstance, PySem.W.mg_none_of X G z_int, PySem.W.mg_none_of X G z_bool, PySem.W.mg_none_of X G z_list, PySem.W.mg_none_of X G z_tuple, PySem.W.mg_none_of X G z_len, PySem.W.mg_none_of X G z_enumerate, PySem.W.mg_none_of X G z_abs, PySem.W.mg_none_of X G z_all, PySem.W.mg_none_of X G z_sum, PySem.W.mg_none_of X G z_range, PySem.W.mg_none_of X G z_repr, PySem.W.mg_none_of X G z_zip, ⟨_, PySem.W.mg_of X G y_MOST_DAYS⟩, ⟨_, PySem.W.mg_of X G y_MOST_DEMAND⟩, ⟨_, PySem.W.mg_of X G y_MOST_PARTS⟩, ⟨_, PySem.W.mg_of X G y_MOST_WEIGHTS⟩, ⟨_, PySem.W.mg_of X G y_MOST_WEIGHT⟩, ⟨_, PySem.W.mg_of X G y_MOST_STRAIGHT⟩, ⟨_, PySem.W.mg_of X G y_MOST_DELAY⟩⟩
  have F9 := fun_mk (st := s_is_whole) l9 c9 k9
  have b9 := F9.binds (ps := ["value", "least", "most"]) fun _ _ _ _ _ _ us hl => match us, hl with | [_, _, _], _ => rfl
  have F17 := fun_mk (st := s_common) l17 c17 k17
  have b17 := F17.binds (ps := ["one", "other"]) fun _ _ _ _ _ _ us hl => match us, hl with | [_, _], _ => rfl
  have F22 := fun_mk (st := s_multiplied) l22 c22 k22
  have b22 := F22.binds (ps := ["one", "other"]) fun _ _ _ _ _ _ us hl => match us, hl with | [_, _], _ => rfl
  have F23 := fun_mk (st := s_told_of) l23 c23 k23
  have b23 := F23.binds (ps := ["parts", "weights", "demands", "calm"]) fun _ _ _ _ _ _ us hl => match us, hl with | [_, _, _, _], _ => rfl
  have F31 := fun_mk (st := s_own_hand) l31 c31 k31
  have b31 := F31.binds (ps := ["line", "delay"]) fun _ _ _ _ _ _ us hl => match us, hl with | [_, _], _ => rfl
  have F35 := fun_mk (st := s__law_mixed) l35 c35 k35
  have b35 := F35.binds (ps := ["_law_cell", "_law_n"]) fun _ _ _ _ _ _ us hl => match us, hl with | [_, _], _ => rfl
  have F36 := fun_mk (st := s__law_folded) l36 c36 k36
  have b36 := F36.binds (ps := ["_law_script"]) fun _ _ _ _ _ _ us hl => match us, hl with | [_], _ => rfl
  have F39 := fun_mk (st := s__law_like) l39 c39 k39
  have b39 := F39.binds (ps := ["_law_heard", "_law_due"]) fun _ _ _ _ _ _ us hl => match us, hl with | [_, _], _ => rfl
  have F40 := fun_mk (st := s__law_gcd) l40 c40 k40
  have b40 := F40.binds (ps := ["_law_one", "_law_other"]) fun _ _ _ _ _ _ us hl => match us, hl with | [_, _], _ => rfl
  have F42 := fun_mk (st := s__law_times) l42 c42 k42
  have b42 := F42.binds (ps := ["_law_one", "_law_other"]) fun _ _ _ _ _ _ us hl => match us, hl with | [_, _], _ => rfl
  have F44 := fun_mk (st := s__law_worth) l44 c44 k44
  have b44 := F44.binds (ps := ["_law_weights", "_law_row"]) fun _ _ _ _ _ _ us hl => match us, hl with | [_, _], _ => rfl
  have F45 := fun_mk (st := s__law_is_int) l45 c45 k45
  have b45 := F45.binds (ps := ["_law_thing"]) fun _ _ _ _ _ _ us hl => match us, hl with | [_], _ => rfl
  have F12 := fun_mk (st := s_need_demands) l12 c12 k12
  have b12 := F12.binds (ps := ["demands"]) fun _ _ _ _ _ _ us hl => match us, hl with | [_], _ => rfl
  have F18 := fun_mk (st := s_are_weights) l18 c18 k18
  have b18 := F18.binds (ps := ["value", "many", "most"]) fun _ _ _ _ _ _ us hl => match us, hl with | [_, _, _], _ => rfl
  have F21 := fun_mk (st := s_least_terms) l21 c21 k21
  have b21 := F21.binds (ps := ["parts", "weights"]) fun _ _ _ _ _ _ us hl => match us, hl with | [_, _], _ => rfl
  have F37 := fun_mk (st := s__law_draw) l37 c37 k37
  have b37 := F37.binds (ps := ["_law_m", "_law_limit"]) fun _ _ _ _ _ _ us hl => match us, hl with | [_, _], _ => rfl
  have F38 := fun_mk (st := s__law_begun) l38 c38 k38
  have b38 := F38.binds (ps := ["_law_script"]) fun _ _ _ _ _ _ us hl => match us, hl with | [_], _ => rfl
  have F41 := fun_mk (st := s__law_lowest) l41 c41 k41
  have b41 := F41.binds (ps := ["_law_parts", "_law_weights"]) fun _ _ _ _ _ _ us hl => match us, hl with | [_, _], _ => rfl
  have F47 := fun_mk (st := s__law_grown) l47 c47 k47
  have b47 := F47.binds (ps := ["_law_chain", "_law_demands", "_law_calm"]) fun _ _ _ _ _ _ us hl => match us, hl with | [_, _, _], _ => rfl
  have F19 := fun_mk (st := s_need_parts) l19 c19 k19
  have b19 := F19.binds (ps := ["thing", "parts", "many", "most"]) fun _ _ _ _ _ _ us hl => match us, hl with | [_, _, _, _], _ => rfl
  have F29 := fun_mk (st := s_asked_sum) l29 c29 k29
  have b29 := F29.binds (ps := ["straight", "number"]) fun _ _ _ _ _ _ us hl => match us, hl with | [_, _], _ => rfl
  have F43 := fun_mk (st := s__law_line) l43 c43 k43
  have b43 := F43.binds (ps := ["_law_m", "_law_most", "_law_many"]) fun _ _ _ _ _ _ us hl => match us, hl with | [_, _, _], _ => rfl
  have F48 := fun_mk (st := s__law_sums) l48 c48 k48
  have b48 := F48.binds (ps := ["_law_chain", "_law_number"]) fun _ _ _ _ _ _ us hl => match us, hl with | [_, _], _ => rfl
  have F20 := fun_mk (st := s_need_line) l20 c20 k20
  have b20 := F20.binds (ps := ["thing"]) fun _ _ _ _ _ _ us hl => match us, hl with | [_], _ => rfl
  have F46 := fun_mk (st := s__law_straight) l46 c46 k46
  have b46 := F46.binds (ps := ["_law_m"]) fun _ _ _ _ _ _ us hl => match us, hl with | [_], _ => rfl
  have F26 := fun_mk (st := s_is_line) l26 c26 k26
  have b26 := F26.binds (ps := ["value"]) fun _ _ _ _ _ _ us hl => match us, hl with | [_], _ => rfl
  have F27 := fun_mk (st := s_need_straight) l27 c27 k27
  have b27 := F27.binds (ps := ["thing"]) fun _ _ _ _ _ _ us hl => match us, hl with | [_], _ => rfl
  have F28 := fun_mk (st := s_need_house) l28 c28 k28
  have b28 := F28.binds (ps := ["straight", "number"]) fun _ _ _ _ _ _ us hl => match us, hl with | [_, _], _ => rfl
  have F30 := fun_mk (st := s_order_sum) l30 c30 k30
  have b30 := F30.binds (ps := ["straight", "number"]) fun _ _ _ _ _ _ us hl => match us, hl with | [_, _], _ => rfl
  have F32 := fun_mk (st := s_hand_sum) l32 c32 k32
  have b32 := F32.binds (ps := ["straight", "number"]) fun _ _ _ _ _ _ us hl => match us, hl with | [_, _], _ => rfl
  have F33 := fun_mk (st := s_hands) l33 c33 k33
  have b33 := F33.binds (ps := ["straight", "number", "demands", "calm"]) fun _ _ _ _ _ _ us hl => match us, hl with | [_, _, _, _], _ => rfl
  have F49 := fun_mk (st := s__law_right) l49 c49 k49
  have b49 := F49.binds (ps := ["_law_chain", "_law_demands", "_law_calm"]) fun _ _ _ _ _ _ us hl => match us, hl with | [_, _, _], _ => rfl
  have F50 := fun_mk (st := s_law) l50 c50 k50
  have b50 := F50.binds (ps := ["_law_script"]) fun _ _ _ _ _ _ us hl => match us, hl with | [_], _ => rfl
  refine ⟨PySem.W.fnOf "law" "law" (defArgs s_law) (defBody s_law) (defScope s_law) .none kV50 dc50 pm50 an50 cd50 ct50, fun s v => .of_eq rfl, fun base _ _ => ?_⟩
  have G9 : Def2 l.prog w K mg base CX0 1 "is_whole" ["value", "least", "most"] sp_is_whole := ⟨_, _, PySem.W.mg_of X G a9, k9, b9, ok_is_whole F9 T ⟩
  have G17 : Def2 l.prog w K mg base CX0 1 "common" ["one", "other"] sp_common := ⟨_, _, PySem.W.mg_of X G a17, k17, b17, ok_common F17 T ⟩
  have G22 : Def2 l.prog w K mg base CX0 1 "multiplied" ["one", "other"] sp_multiplied := ⟨_, _, PySem.W.mg_of X G a22, k22, b22, ok_multiplied F22 T ⟩
  have G23 : Def2 l.prog w K mg base CX0 1 "told_of" ["parts", "weights", "demands", "calm"] sp_told_of := ⟨_, _, PySem.W.mg_of X G a23, k23, b23, ok_told_of F23 T ⟩
  have G31 : Def2 l.prog w K mg base CX0 1 "own_hand" ["line", "delay"] sp_own_hand := ⟨_, _, PySem.W.mg_of X G a31, k31, b31, ok_own_hand F31 T ⟩
  have G35 : Def2 l.prog w K mg base CX0 1 "_law_mixed" ["_law_cell", "_law_n"] sp__law_mixed := ⟨_, _, PySem.W.mg_of X G a35, k35, b35, ok__law_mixed F35 T ⟩
  have G36 : Def2 l.prog w K mg base CX0 1 "_law_folded" ["_law_script"] sp__law_folded := ⟨_, _, PySem.W.mg_of X G a36, k36, b36, ok__law_folded F36 T ⟩
  have G39 : Def2 l.prog w K mg base CX0 1 "_law_like" ["_law_heard", "_law_due"] sp__law_like := ⟨_, _, PySem.W.mg_of X G a39, k39, b39, ok__law_like F39 T ⟩
  have G40 : Def2 l.prog w K mg base CX0 1 "_law_gcd" ["_law_one", "_law_other"] sp__law_gcd := ⟨_, _, PySem.W.mg_of X G a40, k40, b40, ok__law_gcd F40 T ⟩
  have G42 : Def2 l.prog w K mg base CX0 1 "_law_times" ["_law_one", "_law_other"] sp__law_times := ⟨_, _, PySem.W.mg_of X G a42, k42, b42, ok__law_times F42 T ⟩
  have G44 : Def2 l.prog w K mg base CX0 1 "_law_worth" ["_law_weights", "_law_row"] sp__law_worth := ⟨_, _, PySem.W.mg_of X G a44, k44, b44, ok__law_worth F44 T ⟩
  have G45 : Def2 l.prog w K mg base CX0 1 "_law_is_int" ["_law_thing"] sp__law_is_int := ⟨_, _, PySem.W.mg_of X G a45, k45, b45, ok__law_is_int F45 T ⟩
  have G12 : Def2 l.prog w K mg base CX0 2 "need_demands" ["demands"] sp_need_demands := ⟨_, _, PySem.W.mg_of X G a12, k12, b12, ok_need_demands F12 T G9⟩
  have G18 : Def2 l.prog w K mg base CX0 2 "are_weights" ["value", "many", "most"] sp_are_weights := ⟨_, _, PySem.W.mg_of X G a18, k18, b18, ok_are_weights F18 T G9⟩
  have G21 : Def2 l.prog w K mg base CX0 2 "least_terms" ["parts", "weights"] sp_least_terms := ⟨_, _, PySem.W.mg_of X G a21, k21, b21, ok_least_terms F21 T G17⟩
  have G37 : Def2 l.prog w K mg base CX0 2 "_law_draw" ["_law_m", "_law_limit"] sp__law_draw := ⟨_, _, PySem.W.mg_of X G a37, k37, b37, ok__law_draw F37 T G35⟩
  have G38 : Def2 l.prog w K mg base CX0 2 "_law_begun" ["_law_script"] sp__law_begun := ⟨_, _, PySem.W.mg_of X G a38, k38, b38, ok__law_begun F38 T G36⟩
  have G41 : Def2 l.prog w K mg base CX0 2 "_law_lowest" ["_law_parts", "_law_weights"] sp__law_lowest := ⟨_, _, PySem.W.mg_of X G a41, k41, b41, ok__law_lowest F41 T G40⟩
  have G47 : Def2 l.prog w K mg base CX0 2 "_law_grown" ["_law_chain", "_law_demands", "_law_calm"] sp__law_grown := ⟨_, _, PySem.W.mg_of X G a47, k47, b47, ok__law_grown F47 T G44⟩
  have G19 : Def2 l.prog w K mg base CX0 3 "need_parts" ["thing", "parts", "many", "most"] sp_need_parts := ⟨_, _, PySem.W.mg_of X G a19, k19, b19, ok_need_parts F19 T G9 G18⟩
  have G29 : Def2 l.prog w K mg base CX0 3 "asked_sum" ["straight", "number"] sp_asked_sum := ⟨_, _, PySem.W.mg_of X G a29, k29, b29, ok_asked_sum F29 T G21 G22⟩
  have G43 : Def2 l.prog w K mg base CX0 3 "_law_line" ["_law_m", "_law_most", "_law_many"] sp__law_line := ⟨_, _, PySem.W.mg_of X G a43, k43, b43, ok__law_line F43 T G37⟩
  have G48 : Def2 l.prog w K mg base CX0 3 "_law_sums" ["_law_chain", "_law_number"] sp__law_sums := ⟨_, _, PySem.W.mg_of X G a48, k48, b48, ok__law_sums F48 T G41 G42⟩
  have G20 : Def2 l.prog w K mg base CX0 4 "need_line" ["thing"] sp_need_line := ⟨_, _, PySem.W.mg_of X G a20, k20, b20, ok_need_line F20 T G19⟩
  have G46 : Def2 l.prog w K mg base CX0 4 "_law_straight" ["_law_m"] sp__law_straight := ⟨_, _, PySem.W.mg_of X G a46, k46, b46, ok__law_straight F46 T G37 G43⟩
  have G26 : Def2 l.prog w K mg base CX0 5 "is_line" ["value"] sp_is_line := ⟨_, _, PySem.W.mg_of X G a26, k26, b26, ok_is_line F26 T G20⟩
  have G27 : Def2 l.prog w K mg base CX0 6 "need_straight" ["thing"] sp_need_straight := ⟨_, _, PySem.W.mg_of X G a27, k27, b27, ok_need_straight F27 T G9 G26⟩
  have G28 : Def2 l.prog w K mg base CX0 7 "need_house" ["straight", "number"] sp_need_house := ⟨_, _, PySem.W.mg_of X G a28, k28, b28, ok_need_house F28 T G9 G27⟩
  have G30 : Def2 l.prog w K mg base CX0 8 "order_sum" ["straight", "number"] sp_order_sum := ⟨_, _, PySem.W.mg_of X G a30, k30, b30, ok_order_sum F30 T G28 G29⟩
  have G32 : Def2 l.prog w K mg base CX0 8 "hand_sum" ["straight", "number"] sp_hand_sum := ⟨_, _, PySem.W.mg_of X G a32, k32, b32, ok_hand_sum F32 T G21 G22 G28 G29 G31⟩
  have G33 : Def2 l.prog w K mg base CX0 9 "hands" ["straight", "number", "demands", "calm"] sp_hands := ⟨_, _, PySem.W.mg_of X G a33, k33, b33, ok_hands F33 T G9 G12 G23 G32⟩
  have G49 : Def2 l.prog w K mg base CX0 10 "_law_right" ["_law_chain", "_law_demands", "_law_calm"] sp__law_right := ⟨_, _, PySem.W.mg_of X G a49, k49, b49, ok__law_right F49 T G27 G30 G32 G33 G39 G44 G45 G47 G48⟩
  exact ok_law F50 T G30 G32 G33 G37 G38 G39 G46 G49
end K53
open PySem PySem.W PyProof.Rows
set_option maxRecDepth 100000 in
set_option maxHeartbeats 0 in
theorem PySem.Challenge.cw_uporders_k53_whole_straight_chains_holds : PySem.Challenge.rw_uporders_k53_whole_straight_chains.Holds := by
  w_on; o_law; k_head; (case hw => w_witness2)
  k_fill
  refine Y.walk2 (l := PySem.Challenge.rw_uporders_k53_whole_straight_chains) (n := 63) (k := 11) (x := "_law_script") rfl (by decide) rfl ⟨rfl, by decide, by decide⟩ (fun w h Y => PySem.W.kIn_of Y) ?F
  case F =>
    intro w mg fa h KX G hmg
    refine' K53.all_mk KX G hmg ?a9 ?l9 ?c9 ?k9 ?a17 ?l17 ?c17 ?k17 ?a22 ?l22 ?c22 ?k22 ?a23 ?l23 ?c23 ?k23 ?a31 ?l31 ?c31 ?k31 ?a35 ?l35 ?c35 ?k35 ?a36 ?l36 ?c36 ?k36 ?a39 ?l39 ?c39 ?k39 ?a40 ?l40 ?c40 ?k40 ?a42 ?l42 ?c42 ?k42 ?a44 ?l44 ?c44 ?k44 ?a45 ?l45 ?c45 ?k45 ?a12 ?l12 ?c12 ?k12 ?a18 ?l18 ?c18 ?k18 ?a21 ?l21 ?c21 ?k21 ?a37 ?l37 ?c37 ?k37 ?a38 ?l38 ?c38 ?k38 ?a41 ?l41 ?c41 ?k41 ?a47 ?l47 ?c47 ?k47 ?a19 ?l19 ?c19 ?k19 ?a29 ?l29 ?c29 ?k29 ?a43 ?l43 ?c43 ?k43 ?a48 ?l48 ?c48 ?k48 ?a20 ?l20 ?c20 ?k20 ?a46 ?l46 ?c46 ?k46 ?a26 ?l26 ?c26 ?k26 ?a27 ?l27 ?c27 ?k27 ?a28 ?l28 ?c28 ?k28 ?a30 ?l30 ?c30 ?k30 ?a32 ?l32 ?c32 ?k32 ?a33 ?l33 ?c33 ?k33 ?a49 ?l49 ?c49 ?k49 ?a50 ?l50 ?c50 ?k50 ?z_isinstance ?z_int ?z_bool ?z_list ?z_tuple ?z_len ?z_enumerate ?z_abs ?z_all ?z_sum ?z_range ?z_repr ?z_zip ?y_MOST_DAYS ?y_MOST_DEMAND ?y_MOST_PARTS ?y_MOST_WEIGHTS ?y_MOST_WEIGHT ?y_MOST_STRAIGHT ?y_MOST_DELAY
    (case a9 => k_is); (case l9 => k_is); (case c9 => k_is); (case k9 => k_is); (case a17 => k_is); (case l17 => k_is)
    (case c17 => k_is); (case k17 => k_is); (case a22 => k_is); (case l22 => k_is); (case c22 => k_is); (case k22 => k_is)
    (case a23 => k_is); (case l23 => k_is); (case c23 => k_is); (case k23 => k_is); (case a31 => k_is); (case l31 => k_is)
    (case c31 => k_is); (case k31 => k_is); (case a35 => k_is); (case l35 => k_is); (case c35 => k_is); (case k35 => k_is)
    (case a36 => k_is); (case l36 => k_is); (case c36 => k_is); (case k36 => k_is); (case a39 => k_is); (case l39 => k_is)
    (case c39 => k_is); (case k39 => k_is); (case a40 => k_is); (case l40 => k_is); (case c40 => k_is); (case k40 => k_is)
    (case a42 => k_is); (case l42 => k_is); (case c42 => k_is); (case k42 => k_is); (case a44 => k_is); (case l44 => k_is)
    (case c44 => k_is); (case k44 => k_is); (case a45 => k_is); (case l45 => k_is); (case c45 => k_is); (case k45 => k_is)
    (case a12 => k_is); (case l12 => k_is); (case c12 => k_is); (case k12 => k_is); (case a18 => k_is); (case l18 => k_is)
    (case c18 => k_is); (case k18 => k_is); (case a21 => k_is); (case l21 => k_is); (case c21 => k_is); (case k21 => k_is)
    (case a37 => k_is); (case l37 => k_is); (case c37 => k_is); (case k37 => k_is); (case a38 => k_is); (case l38 => k_is)
    (case c38 => k_is); (case k38 => k_is); (case a41 => k_is); (case l41 => k_is); (case c41 => k_is); (case k41 => k_is)
    (case a47 => k_is); (case l47 => k_is); (case c47 => k_is); (case k47 => k_is); (case a19 => k_is); (case l19 => k_is)
    (case c19 => k_is); (case k19 => k_is); (case a29 => k_is); (case l29 => k_is); (case c29 => k_is); (case k29 => k_is)
    (case a43 => k_is); (case l43 => k_is); (case c43 => k_is); (case k43 => k_is); (case a48 => k_is); (case l48 => k_is)
    (case c48 => k_is); (case k48 => k_is); (case a20 => k_is); (case l20 => k_is); (case c20 => k_is); (case k20 => k_is)
    (case a46 => k_is); (case l46 => k_is); (case c46 => k_is); (case k46 => k_is); (case a26 => k_is); (case l26 => k_is)
    (case c26 => k_is); (case k26 => k_is); (case a27 => k_is); (case l27 => k_is); (case c27 => k_is); (case k27 => k_is)
    (case a28 => k_is); (case l28 => k_is); (case c28 => k_is); (case k28 => k_is); (case a30 => k_is); (case l30 => k_is)
    (case c30 => k_is); (case k30 => k_is); (case a32 => k_is); (case l32 => k_is); (case c32 => k_is); (case k32 => k_is)
    (case a33 => k_is); (case l33 => k_is); (case c33 => k_is); (case k33 => k_is); (case a49 => k_is); (case l49 => k_is)
    (case c49 => k_is); (case k49 => k_is); (case a50 => k_is); (case l50 => k_is); (case c50 => k_is); (case k50 => k_is)
    (case z_isinstance => k_is); (case z_int => k_is); (case z_bool => k_is); (case z_list => k_is); (case z_tuple => k_is); (case z_len => k_is)
    (case z_enumerate => k_is); (case z_abs => k_is); (case z_all => k_is); (case z_sum => k_is); (case z_range => k_is); (case z_repr => k_is)
    (case z_zip => k_is); (case y_MOST_DAYS => k_is); (case y_MOST_DEMAND => k_is); (case y_MOST_PARTS => k_is); (case y_MOST_WEIGHTS => k_is); (case y_MOST_WEIGHT => k_is)
    (case y_MOST_STRAIGHT => k_is); (case y_MOST_DELAY => k_is)
#print axioms PySem.Challenge.cw_uporders_k53_whole_straight_chains_holds

