import PyProof.Rows.All
import Wide.All
import OpenK.AllK
import Wide.FinOn
import HandS.ForMost
import HandS.ForExc
import HandS.Lambda
import HandS.EndTab
import HandS.IsInst
import HandS.Wide
import HandS.Conv
import HandS.ExcValue
import HandS.ExcIs
import PyProof.ExcBaseAll.ValueError
import HandS.TupAny
import HandS.Zip
import HandS.SortInts
import HandS.Style
import PyProof.EnumMake
import PyProof.TupleIter
import PyProof.Draws
import HandS.Zip0
import HandS.Iter
import HandS.SortKw
import KE.SortData
import KE.KDictSum
import PyProof.SumAny
import PyProof.FactsAll.subtypes_1
import PyProof.ListOps
import HandS.TupMul
import KE.KRevSl
import HandS.More
import KE.KTupSum
import KE.GoesEnum
import PySem.Challenge.RW_carryshapes_k33_whole_ladders_judged
set_option Elab.async false
set_option linter.all false
set_option maxRecDepth 100000
set_option maxHeartbeats 4000000
/-! # A data layer: defs shown as predicate transformers over plain data -/
namespace DL
open PySem PySem.Spec PyProof.Rows L2

/-! ### canonical readings -/
section
variable (X : Cx)
def WE (e : Expr) : TE := fun σ H Q => ∀ (pins : List (Addr × Obj)) (s : Shared), Inv X pins σ H s → wpAny (model X.prog X.w) X.A (eval e X.env) (EP X pins σ Q) X.xe s
def WT (e : Expr) : TT := fun σ H Q => ∀ (pins : List (Addr × Obj)) (s : Shared), Inv X pins σ H s → wpAny (model X.prog X.w) X.A (isTrue e X.env (eval e X.env)) (TP X pins σ Q) X.xe s
def WW (e : Expr) : TT := fun σ H Q => ∀ (whole : Sem Value) (pins : List (Addr × Obj)) (s : Shared), Inv X pins σ H s → wpAny (model X.prog X.w) X.A (isTrue e X.env whole) (TP X pins σ Q) X.xe s
def WA (es : List Expr) : TA := fun σ H Q => ∀ (pos : Pos) (pins : List (Addr × Obj)) (s : Shared), Inv X pins σ H s → wpAny (model X.prog X.w) X.A (spliced (backTo pos (starEach es X.env))) (AP X pins σ Q) X.xe s
def WS (st : Stmt) : TS := fun D σ H => ∀ (pins : List (Addr × Obj)) (s : Shared), Inv X pins σ H s → wpAny (model X.prog X.w) X.A (exec st X.env) (SP X pins D) X.xe s
def WB (st : List Stmt) : TS := fun D σ H => ∀ (pins : List (Addr × Obj)) (s : Shared), Inv X pins σ H s → wpAny (model X.prog X.w) X.A (execs st X.env) (SP X pins D) X.xe s
end
section
variable {X : Cx} {e : Expr} {es : List Expr} {st : Stmt} {sts : List Stmt} {σ : L2.St} {H : Hp}
theorem pe_w : PE X e (WE X e) := ⟨fun pins s σ H Q I h => h pins s I⟩
theorem pt_w : PT X e (WT X e) := ⟨fun pins s σ H Q I h => h pins s I⟩
theorem pw_w : PW X e (WW X e) := ⟨fun wh pins s σ H Q I h => h wh pins s I⟩
theorem pa_w : PA X es (WA X es) := ⟨fun pos pins s σ H Q I h => h pos pins s I⟩
theorem ps_w : PS X st (WS X st) := ⟨fun pins s σ H D I h => h pins s I⟩
theorem pss_w : PSs X sts (WB X sts) := ⟨fun pins s σ H D I h => h pins s I⟩
theorem we_of {t : TE} {Q : VK} (h : PE X e t) (q : t σ H Q) : WE X e σ H Q := fun pins s I => h.run pins s σ H Q I q
theorem wt_of {t : TT} {Q : Bool → Hp → Prop} (h : PT X e t) (q : t σ H Q) : WT X e σ H Q := fun pins s I => h.run pins s σ H Q I q
theorem ww_of {t : TT} {Q : Bool → Hp → Prop} (h : PW X e t) (q : t σ H Q) : WW X e σ H Q := fun wh pins s I => h.run wh pins s σ H Q I q
theorem wa_of {t : TA} {Q : List V → Hp → Prop} (h : PA X es t) (q : t σ H Q) : WA X es σ H Q := fun pos pins s I => h.run pos pins s σ H Q I q
theorem ws_of {t : TS} {D : Ends} (h : PS X st t) (q : t D σ H) : WS X st D σ H := fun pins s I => h.run pins s σ H D I q
theorem wb_of {t : TS} {D : Ends} (h : PSs X sts t) (q : t D σ H) : WB X sts D σ H := fun pins s I => h.run pins s σ H D I q
end

/-! ### data at values: N, the places that data does not hang on (they may change) -/
def RdL (N : Addr → Prop) (K : PySem.W.Frag) (H : Hp) (a : Addr) (xs : List V) : Prop :=
  (¬ N a ∧ Rd H a (.lst xs)) ∨ ∃ (o : Obj) (its : Array Value) (n : Nat), K.lookup a = some o ∧ o.cls = .type "list" ∧ o.dict = none ∧ o.data = .seq its n ∧ its.size ≤ sizeLine ∧ Vals xs its.toList
def RdT (N : Addr → Prop) (K : PySem.W.Frag) (H : Hp) (a : Addr) (xs : List V) : Prop :=
  ¬ N a ∧ H a = some (.tup xs)
/-- no table of code objects -/
def NT (o : HO) : Prop := ∀ ps, o ≠ .tbl ps
theorem nt_lst {xs : List V} : NT (.lst xs) := fun _ z => nomatch z
theorem nt_tup {xs : List V} : NT (.tup xs) := fun _ z => nomatch z
theorem nt_dK {kvs : List (Key × V)} : NT (.dK kvs) := fun _ z => nomatch z
theorem nt_frz {o : Obj} {u : HO} : NT (.frz o u) := fun _ z => nomatch z
def keyD : Key → PyData
  | .inl i => .int i
  | .inr s => .str s
mutual
inductive Da (N : Addr → Prop) (K : PySem.W.Frag) (H : Hp) : V → PyData → Prop
  | non : Da N K H .non .none
  | bl (b : Bool) : Da N K H (.bl b) (.bool b)
  | int (i : Int) : Da N K H (.int i) (.int i)
  | str (x : Str) : Da N K H (.str x) (.str x)
  | lst {a : Addr} {xs : List V} {ds : List PyData} : RdL N K H a xs → DaAll N K H xs ds → Da N K H (.ref a) (.list ds)
  | tup {a : Addr} {xs : List V} {ds : List PyData} : RdT N K H a xs → DaAll N K H xs ds → Da N K H (.ref a) (.tuple ds)
  | dct {a : Addr} {kvs : List (Key × V)} {ds : List PyData} : ¬ N a → Rd H a (.dK kvs) → DaAll N K H (kvs.map fun p => p.2) ds → Da N K H (.ref a) (.dict ((kvs.map fun p => keyD p.1).zip ds))
inductive DaAll (N : Addr → Prop) (K : PySem.W.Frag) (H : Hp) : List V → List PyData → Prop
  | nil : DaAll N K H [] []
  | cons {v : V} {vs : List V} {d : PyData} {ds : List PyData} : Da N K H v d → DaAll N K H vs ds → DaAll N K H (v :: vs) (d :: ds)
end
section
variable {N N' : Addr → Prop} {K : PySem.W.Frag} {H H' : Hp}
theorem rd_some {a : Addr} {u : HO} (h : Rd H a u) (t : NT u) : ∃ o, NT o ∧ H a = some o := by
  rcases h with h | ⟨o, h⟩
  · exact ⟨_, t, h⟩
  · exact ⟨_, nt_frz, h⟩
theorem Rd.move {a : Addr} {u : HO} (h : Rd H a u) (t : NT u) (k : ∀ o, NT o → H a = some o → H' a = some o) : Rd H' a u := by
  rcases h with h | ⟨o, h⟩
  · exact .inl (k _ t h)
  · exact .inr ⟨o, k _ nt_frz h⟩
theorem rd_n {a : Addr} {u : HO} (h : Rd H a u) (t : NT u) (k : ∀ a o, ¬ N a → NT o → H a = some o → ¬ N' a ∧ H' a = some o) (n : ¬ N a) : ¬ N' a := by
  obtain ⟨o, t, e⟩ := rd_some h t
  exact (k _ _ n t e).1
mutual
/-- N to N', H to H': all that data hangs on goes along -/
theorem Da.move (k : ∀ a o, ¬ N a → NT o → H a = some o → ¬ N' a ∧ H' a = some o) : ∀ {v : V} {d : PyData}, Da N K H v d → Da N' K H' v d
  | _, _, .non => .non
  | _, _, .bl b => .bl b
  | _, _, .int i => .int i
  | _, _, .str x => .str x
  | _, _, .lst (.inl ⟨n, r⟩) q => .lst (.inl ⟨rd_n r nt_lst k n, Rd.move r nt_lst fun o t e => (k _ _ n t e).2⟩) (DaAll.move k q)
  | _, _, .lst (.inr r) q => .lst (.inr r) (DaAll.move k q)
  | _, _, .tup ⟨n, r⟩ q => .tup (k _ _ n nt_tup r) (DaAll.move k q)
  | _, _, .dct n r q => .dct (rd_n r nt_dK k n) (Rd.move r nt_dK fun o t e => (k _ _ n t e).2) (DaAll.move k q)
theorem DaAll.move (k : ∀ a o, ¬ N a → NT o → H a = some o → ¬ N' a ∧ H' a = some o) : ∀ {vs : List V} {ds : List PyData}, DaAll N K H vs ds → DaAll N' K H' vs ds
  | _, _, .nil => .nil
  | _, _, .cons h q => .cons (Da.move k h) (DaAll.move k q)
end
theorem DaAll.len : ∀ {vs : List V} {ds : List PyData}, DaAll N K H vs ds → vs.length = ds.length
  | _, _, .nil => rfl
  | _, _, .cons _ q => by rw [List.length_cons, List.length_cons, DaAll.len q]
theorem DaAll.get : ∀ {vs : List V} {ds : List PyData} {i : Nat} {d : PyData}, DaAll N K H vs ds → ds[i]? = some d → ∃ v, vs[i]? = some v ∧ Da N K H v d
  | _, _, _, _, .nil, e => by simp at e
  | _, _, 0, _, .cons h _, e => by simp at e; subst e; exact ⟨_, rfl, h⟩
  | _, _, i + 1, d, .cons _ q, e => by
    obtain ⟨v, h1, h2⟩ := DaAll.get (i := i) (d := d) q (by simpa using e)
    exact ⟨v, by simpa using h1, h2⟩
theorem DaAll.getV : ∀ {vs : List V} {ds : List PyData} {i : Nat} {v : V}, DaAll N K H vs ds → vs[i]? = some v → ∃ d, ds[i]? = some d ∧ Da N K H v d
  | _, _, _, _, .nil, e => by simp at e
  | _, _, 0, _, .cons h _, e => by simp at e; subst e; exact ⟨_, rfl, h⟩
  | _, _, i + 1, v, .cons _ q, e => by
    obtain ⟨d, h1, h2⟩ := DaAll.getV (i := i) (v := v) q (by simpa using e)
    exact ⟨d, by simpa using h1, h2⟩
theorem DaAll.app : ∀ {vs ws : List V} {ds es : List PyData}, DaAll N K H vs ds → DaAll N K H ws es → DaAll N K H (vs ++ ws) (ds ++ es)
  | _, _, _, _, .nil, q => q
  | _, _, _, _, .cons h t, q => .cons h (DaAll.app t q)
theorem DaAll.take : ∀ {vs : List V} {ds : List PyData} (n : Nat), DaAll N K H vs ds → DaAll N K H (vs.take n) (ds.take n)
  | _, _, 0, _ => .nil
  | _, _, _ + 1, .nil => .nil
  | _, _, n + 1, .cons h q => .cons h (DaAll.take n q)
theorem DaAll.drop : ∀ {vs : List V} {ds : List PyData} (n : Nat), DaAll N K H vs ds → DaAll N K H (vs.drop n) (ds.drop n)
  | _, _, 0, q => q
  | _, _, _ + 1, .nil => .nil
  | _, _, n + 1, .cons _ q => DaAll.drop n q
theorem DaAll.set {v : V} {d : PyData} (h : Da N K H v d) : ∀ {vs : List V} {ds : List PyData} (i : Nat), DaAll N K H vs ds → DaAll N K H (vs.set i v) (ds.set i d)
  | _, _, _, .nil => .nil
  | _, _, 0, .cons _ q => .cons h q
  | _, _, i + 1, .cons g q => .cons g (DaAll.set h i q)
theorem DaAll.erase : ∀ {vs : List V} {ds : List PyData} (i : Nat), DaAll N K H vs ds → DaAll N K H (vs.eraseIdx i) (ds.eraseIdx i)
  | _, _, _, .nil => .nil
  | _, _, 0, .cons _ q => q
  | _, _, i + 1, .cons g q => .cons g (DaAll.erase i q)
theorem RdL.sq {a : Addr} {xs : List V} (h : RdL N K H a xs) : SqL K H a xs := h.elim (fun z => .inl z.2) .inr
theorem RdT.sq {a : Addr} {xs : List V} (h : RdT N K H a xs) : SqT K H a xs := .inl (.inl h.2)
mutual
theorem Da.dp : ∀ {v : V} {d : PyData}, Da N K H v d → d.canLay0 = true → Dp K H v d
  | _, _, .non, _ => .non
  | _, _, .bl b, _ => .bl b
  | _, _, .int i, _ => .int i
  | _, _, .str x, _ => .str x
  | _, _, .lst r q, h => .lst r.sq (DaAll.dp q (by simpa [PyData.canLay0] using h))
  | _, _, .tup r q, h => .tup r.sq (DaAll.dp q (by simpa [PyData.canLay0] using h))
  | _, _, .dct _ _ _, h => by simp [PyData.canLay0] at h
theorem DaAll.dp : ∀ {vs : List V} {ds : List PyData}, DaAll N K H vs ds → PyData.canLayAll0 ds = true → DpAll K H vs ds
  | _, _, .nil, _ => .nil
  | _, _, .cons h q, e => by
    rw [PyData.canLayAll0, Bool.and_eq_true] at e
    exact .cons (Da.dp h e.1) (DaAll.dp q e.2)
end
end

/-! ### slots, entries, memories -/
/-- a thing that may be owned, or be kept by a memory: no table, no tuple -/
def Ow (o : HO) : Prop := NT o ∧ ∀ xs, o ≠ .tup xs
theorem ow_lst {xs : List V} : Ow (.lst xs) := ⟨nt_lst, fun _ z => (nomatch z)⟩
theorem ow_dK {kvs : List (Key × V)} : Ow (.dK kvs) := ⟨nt_dK, fun _ z => (nomatch z)⟩
theorem ow_dT {kvs : List (List Key × V)} : Ow (.dT kvs) := ⟨fun _ z => (nomatch z), fun _ z => (nomatch z)⟩
theorem ow_frz {o : Obj} {u : HO} : Ow (.frz o u) := ⟨nt_frz, fun _ z => (nomatch z)⟩
/-- what an owned thing never is -/
def Fix (o : HO) : Prop := (∀ xs, o ≠ .lst xs) ∧ (∀ kvs, o ≠ .dK kvs) ∧ (∀ kvs, o ≠ .dT kvs) ∧ ∀ od u, o ≠ .frz od u
theorem fix_tbl {ps : Array Value} : Fix (.tbl ps) := ⟨fun _ z => (nomatch z), fun _ z => (nomatch z), fun _ z => (nomatch z), fun _ _ z => (nomatch z)⟩
theorem fix_ext {φ : Heap → Prop} : Fix (.ext φ) := ⟨fun _ z => (nomatch z), fun _ z => (nomatch z), fun _ z => (nomatch z), fun _ _ z => (nomatch z)⟩
/-- what is known beside an owned object -/
structure Sta where
  φ : (Addr → Prop) → PySem.W.Frag → Hp → Prop
  go : ∀ {N N' : Addr → Prop} {K : PySem.W.Frag} {H H' : Hp}, (∀ a o, ¬ N a → NT o → H a = some o → ¬ N' a ∧ H' a = some o) → φ N K H → φ N' K H'
inductive Slot where
  | any | raw (v : V) | dat (d : PyData) | own (p : Addr) (ds : List PyData) | obj (φ : Addr → HO) | ownX (p : Addr) (o : HO) (S : Sta)
abbrev Ent := Option V × Slot
def ownP (e : Ent) : Option Addr := match e.2 with
  | .own p _ => some p
  | .ownX p _ _ => some p
  | _ => none
def owns (L : List Ent) : List Addr := L.filterMap ownP
def EntOk (N : Addr → Prop) (K : PySem.W.Frag) (H : Hp) (e : Ent) : Prop := match e.2 with
  | .any => True
  | .raw v => e.1 = some v
  | .dat d => ∃ v, e.1 = some v ∧ Da N K H v d
  | .own p ds => e.1 = some (.ref p) ∧ ∃ xs, H p = some (.lst xs) ∧ DaAll N K H xs ds
  | .obj φ => ∃ a, e.1 = some (.ref a) ∧ ¬ N a ∧ NT (φ a) ∧ H a = some (φ a)
  | .ownX p o S => e.1 = some (.ref p) ∧ Ow o ∧ H p = some o ∧ S.φ N K H
theorem EntOk.at {N : Addr → Prop} {K : PySem.W.Frag} {H : Hp} {e : Ent} {p : Addr} (h : EntOk N K H e) (q : ownP e = some p) : ∃ o, Ow o ∧ H p = some o := by
  obtain ⟨o, s⟩ := e
  cases s with
  | own p' ds' =>
    obtain ⟨_, xs', e2, _⟩ := h
    have : p' = p := Option.some.inj q
    rw [← this]
    exact ⟨_, ow_lst, e2⟩
  | ownX p' u S =>
    obtain ⟨_, t, e2, _⟩ := h
    have : p' = p := Option.some.inj q
    rw [← this]
    exact ⟨_, t, e2⟩
  | _ => cases q
theorem EntOk.no {N : Addr → Prop} {K : PySem.W.Frag} {H : Hp} {e : Ent} {p : Addr} (h : EntOk N K H e) (q : ownP e = some p) (hp : H p = none) : False := by
  obtain ⟨o, _, e2⟩ := h.at q
  rw [hp] at e2
  cases e2
/-- M: what may change in a call; N: what data does not hang on; St, ok: what is known of it -/
structure Mem where
  M : Addr → Prop
  N : Addr → Prop
  sub : ∀ a, M a → N a
  St : Type
  ok : PySem.W.Frag → St → Hp → Prop
  dom : ∀ {K : PySem.W.Frag} {st : St} {H : Hp} {a : Addr}, ok K st H → N a → H a ≠ none
  stab : ∀ {K : PySem.W.Frag} {st : St} {H H' : Hp}, ok K st H → (∀ b, N b → H' b = H b) → (∀ b o, Fix o → H b = some o → H' b = some o) → ok K st H'
  nt : ∀ {K : PySem.W.Frag} {st : St} {H : Hp} {a : Addr} {xs : List V}, ok K st H → N a → H a ≠ some (.tup xs)
def Kp (M : Addr → Prop) (H H' : Hp) : Prop := ∀ b o, ¬ M b → NT o → H b = some o → H' b = some o
theorem Kp.refl (M : Addr → Prop) (H : Hp) : Kp M H H := fun _ _ _ _ h => h
theorem Kp.trans {M : Addr → Prop} {H H1 H2 : Hp} (a : Kp M H H1) (b : Kp M H1 H2) : Kp M H H2 := fun c o n t h => b c o n t (a c o n t h)
structure Here (m : Mem) (K : PySem.W.Frag) (H0 : Hp) (L : List Ent) (st : m.St) (H : Hp) : Prop where
  ok : m.ok K st H
  kp : Kp m.M H0 H
  nd : (owns L).Nodup
  fr : ∀ p ∈ owns L, ¬ m.N p ∧ Fr0 H0 p
  all : ∀ e ∈ L, EntOk (fun a => m.N a ∨ a ∈ owns L) K H e
theorem owns_cons (e : Ent) (L : List Ent) : owns (e :: L) = (ownP e).toList ++ owns L := by
  unfold owns
  rw [List.filterMap_cons]
  cases ownP e <;> rfl
theorem owns_app (L L' : List Ent) : owns (L ++ L') = owns L ++ owns L' := List.filterMap_append
theorem mem_owns {L : List Ent} {p : Addr} : p ∈ owns L ↔ ∃ e ∈ L, ownP e = some p := List.mem_filterMap
theorem owns_sub {L L' : List Ent} (h : ∀ e ∈ L', e ∈ L) : ∀ p ∈ owns L', p ∈ owns L := fun p hp => by
  obtain ⟨e, he, q⟩ := mem_owns.mp hp
  exact mem_owns.mpr ⟨e, h e he, q⟩
theorem nd_set : ∀ (l : List Ent) (i : Nat) (e : Ent) (t : List Ent), (owns (l ++ e :: t)).Nodup → (owns (l.set i e ++ t)).Nodup
  | [], i, e, t, h => by
    have h' : (owns (e :: t)).Nodup := h
    rw [owns_cons] at h'
    exact (List.nodup_append.mp h').2.1
  | a :: l, 0, e, t, h => by
    have h' : (owns (a :: (l ++ e :: t))).Nodup := h
    rw [owns_cons] at h'
    have h2 := (List.nodup_append.mp h').2.1
    show (owns (e :: (l ++ t))).Nodup
    exact ((List.perm_middle (a := e) (l₁ := l) (l₂ := t)).filterMap ownP).nodup_iff.mp h2
  | a :: l, i + 1, e, t, h => by
    have h' : (owns (a :: (l ++ e :: t))).Nodup := h
    rw [owns_cons] at h'
    obtain ⟨h1, h2, h3⟩ := List.nodup_append.mp h'
    show (owns (a :: (l.set i e ++ t))).Nodup
    rw [owns_cons]
    refine List.nodup_append.mpr ⟨h1, nd_set l i e t h2, fun x hx y hy => h3 x hx y ?_⟩
    refine owns_sub (fun z hz => ?_) y hy
    rcases List.mem_append.mp hz with hz | hz
    · rcases List.mem_or_eq_of_mem_set hz with hz | hz
      · exact List.mem_append_left _ hz
      · subst hz
        exact List.mem_append_right _ List.mem_cons_self
    · exact List.mem_append_right _ (List.mem_cons_of_mem _ hz)
section
variable {m : Mem} {K : PySem.W.Frag} {H0 H H' : Hp} {L L' : List Ent} {st st' : m.St} {p : Addr} {o : HO} {v : V} {s : Slot} {d : PyData} {ds : List PyData} {xs : List V}
theorem EntOk.move {N N' : Addr → Prop} {e : Ent} (h : EntOk N K H e) (k : ∀ a o, ¬ N a → NT o → H a = some o → ¬ N' a ∧ H' a = some o) (ko : ∀ (p : Addr) (u : HO), ownP e = some p → NT u → H p = some u → H' p = some u) : EntOk N' K H' e := by
  obtain ⟨o, s⟩ := e
  cases s with
  | any => trivial
  | raw v => exact h
  | dat d => obtain ⟨v, e, q⟩ := h; exact ⟨v, e, q.move k⟩
  | own p ds => obtain ⟨e, xs, e2, q⟩ := h; exact ⟨e, xs, ko p _ rfl nt_lst e2, q.move k⟩
  | obj φ => obtain ⟨a, e, n, t, q⟩ := h; exact ⟨a, e, (k a _ n t q).1, t, (k a _ n t q).2⟩
  | ownX p u S => obtain ⟨e, t, e2, q⟩ := h; exact ⟨e, t, ko p _ rfl t.1 e2, S.go k q⟩
theorem nt_fr {o : HO} (t : NT o) (f : Fr0 H p) : H p ≠ some o := fun e => by
  obtain ⟨ps, z⟩ := f _ e
  exact t ps z
theorem fr_none (h : H p = none) : Fr0 H p := fun o e => by rw [h] at e; cases e
theorem nt_or (o : HO) : NT o ∨ ∃ ps, o = .tbl ps := by
  cases o <;> first | exact .inr ⟨_, rfl⟩ | exact .inl fun _ z => nomatch z
theorem Here.fresh0 (h : Here m K H0 L st H) (hn : ¬ m.N p) (hp : Fr0 H p) : Fr0 H0 p := fun o e => by
  rcases nt_or o with t | t
  · exact absurd (h.kp p o (fun z => hn (m.sub _ z)) t e) (nt_fr t hp)
  · exact t
theorem Here.freshN (h : Here m K H0 L st H) (hp : H p = none) : ¬ m.N p := fun n => m.dom h.ok n hp
/-- some of the entries -/
theorem Here.mono (h : Here m K H0 L st H) (hs : ∀ e ∈ L', e ∈ L) (nd : (owns L').Nodup) : Here m K H0 L' st H where
  ok := h.ok
  kp := h.kp
  nd := nd
  fr := fun p hp => h.fr p (owns_sub hs p hp)
  all := fun e he => (h.all e (hs e he)).move (fun a o n t e => ⟨fun z => n (z.elim .inl fun z => .inr (owns_sub hs a z)), e⟩) fun _ _ _ _ q => q
theorem Here.tail {e : Ent} (h : Here m K H0 (e :: L) st H) : Here m K H0 L st H := h.mono (fun x hx => List.mem_cons_of_mem _ hx) (by
  have := h.nd
  rw [owns_cons] at this
  exact (List.nodup_append.mp this).2.1)
theorem Here.perm (h : Here m K H0 L st H) (q : L.Perm L') : Here m K H0 L' st H := h.mono (fun e he => q.mem_iff.mpr he) ((q.filterMap ownP).nodup_iff.mp h.nd)
/-- the entry in the middle goes -/
theorem Here.cut {A B : List Ent} {e : Ent} (h : Here m K H0 (A ++ e :: B) st H) : Here m K H0 (A ++ B) st H := (h.perm List.perm_middle).tail
/-- an entry that owns nothing comes -/
theorem Here.put {A B : List Ent} {e : Ent} (h : Here m K H0 (A ++ B) st H) (he : ownP e = none) (q : EntOk (fun a => m.N a ∨ a ∈ owns (A ++ B)) K H e) : Here m K H0 (A ++ e :: B) st H := by
  have e0 : owns (e :: (A ++ B)) = owns (A ++ B) := by rw [owns_cons, he]; rfl
  have h1 : Here m K H0 (e :: (A ++ B)) st H := ⟨h.ok, h.kp, by rw [e0]; exact h.nd, by rw [e0]; exact h.fr, by
    rw [e0]
    intro x hx
    rcases List.mem_cons.mp hx with rfl | hx
    · exact q
    · exact h.all x hx⟩
  exact h1.perm List.perm_middle.symm
theorem Here.alloc (h : Here m K H0 L st H) (hp : H p = none) : Here m K H0 L st (upd H p o) where
  ok := m.stab h.ok (fun b hb => upd_ne fun z => m.dom h.ok hb (by rw [z]; exact hp)) fun b o _ e => by rw [upd_ne (ne_of_none e hp)]; exact e
  kp := fun b u n t e => by rw [upd_ne (ne_of_none (h.kp b u n t e) hp)]; exact h.kp b u n t e
  nd := h.nd
  fr := h.fr
  all := fun e he => (h.all e he).move (fun a u n t e => ⟨n, by rw [upd_ne (ne_of_none e hp)]; exact e⟩) fun q _ _ u e => by rw [upd_ne (ne_of_none e hp)]; exact e
/-- a new list, owned -/
theorem Here.allocOwn {A B : List Ent} (h : Here m K H0 (A ++ B) st H) (hp : H p = none) (q : DaAll (fun a => m.N a ∨ a ∈ owns (A ++ B)) K H xs ds) : Here m K H0 (A ++ (some (.ref p), .own p ds) :: B) st (upd H p (.lst xs)) := by
  have h1 := h.alloc (o := .lst xs) hp
  have e0 : owns ((some (V.ref p), Slot.own p ds) :: (A ++ B)) = p :: owns (A ++ B) := by rw [owns_cons]; rfl
  have np : p ∉ owns (A ++ B) := fun z => by
    obtain ⟨e, he, q⟩ := mem_owns.mp z
    exact (h.all e he).no q hp
  have mv : ∀ a o, ¬ (m.N a ∨ a ∈ owns (A ++ B)) → upd H p (.lst xs) a = some o → a ≠ p → ¬ (m.N a ∨ a ∈ p :: owns (A ++ B)) := fun a o n e ne z => z.elim (fun z => n (.inl z)) fun z => (List.mem_cons.mp z).elim ne fun z => n (.inr z)
  have h2 : Here m K H0 ((some (.ref p), .own p ds) :: (A ++ B)) st (upd H p (.lst xs)) := by
    refine ⟨h1.ok, h1.kp, by rw [e0]; exact List.nodup_cons.mpr ⟨np, h.nd⟩, ?_, ?_⟩
    · rw [e0]
      intro x hx
      rcases List.mem_cons.mp hx with rfl | hx
      · exact ⟨h.freshN hp, h.fresh0 (h.freshN hp) (fr_none hp)⟩
      · exact h.fr x hx
    · rw [e0]
      intro x hx
      have go : ∀ a o, ¬ (m.N a ∨ a ∈ owns (A ++ B)) → NT o → H a = some o → ¬ (m.N a ∨ a ∈ p :: owns (A ++ B)) ∧ upd H p (.lst xs) a = some o := fun a o n t e => by
        have ne : a ≠ p := ne_of_none e hp
        have e' : upd H p (.lst xs) a = some o := by rw [upd_ne ne]; exact e
        exact ⟨mv a o n e' ne, e'⟩
      rcases List.mem_cons.mp hx with rfl | hx
      · exact ⟨rfl, xs, upd_same, q.move go⟩
      · exact (h.all x hx).move go fun q _ _ u e => by rw [upd_ne (ne_of_none e hp)]; exact e
  exact h2.perm List.perm_middle.symm
/-- an owned list is written -/
theorem Here.write {A B : List Ent} {ds' : List PyData} {ys : List V} {o : Option V} (h : Here m K H0 (A ++ (o, .own p ds) :: B) st H) (q : DaAll (fun a => m.N a ∨ a ∈ owns (A ++ (o, .own p ds) :: B)) K H ys ds') :
    Here m K H0 (A ++ (o, .own p ds') :: B) st (upd H p (.lst ys)) := by
  have hp : p ∈ owns (A ++ (o, .own p ds) :: B) := mem_owns.mpr ⟨_, List.mem_append_right _ List.mem_cons_self, rfl⟩
  have eo : owns (A ++ (o, Slot.own p ds') :: B) = owns (A ++ (o, Slot.own p ds) :: B) := by rw [owns_app, owns_app, owns_cons, owns_cons]; rfl
  obtain ⟨nN, n0⟩ := h.fr p hp
  have go : ∀ a u, ¬ (m.N a ∨ a ∈ owns (A ++ (o, Slot.own p ds) :: B)) → NT u → H a = some u → ¬ (m.N a ∨ a ∈ owns (A ++ (o, Slot.own p ds) :: B)) ∧ upd H p (.lst ys) a = some u := fun a u n t e => ⟨n, by
    rw [upd_ne fun z => n (.inr (by rw [z]; exact hp))]
    exact e⟩
  have h0 := h.all _ (List.mem_append_right A List.mem_cons_self)
  refine ⟨m.stab h.ok (fun b hb => upd_ne fun z => nN (by rw [← z]; exact hb)) (fun b u t e => by
    obtain ⟨_, xs0, e0, _⟩ := h0
    rw [upd_ne fun z => by rw [z, e0] at e; exact t.1 _ (Option.some.inj e).symm]
    exact e), fun b u n t e => ?_, by rw [eo]; exact h.nd, by rw [eo]; exact h.fr, ?_⟩
  · rw [upd_ne fun z => nt_fr t n0 (by rw [← z]; exact e)]
    exact h.kp b u n t e
  · rw [eo]
    intro x hx
    have old : ∀ x ∈ A ++ B, EntOk (fun a => m.N a ∨ a ∈ owns (A ++ (o, Slot.own p ds) :: B)) K (upd H p (.lst ys)) x := fun x hx => by
      have hx' : x ∈ A ++ (o, .own p ds) :: B := (List.mem_append.mp hx).elim (List.mem_append_left _) fun z => List.mem_append_right _ (List.mem_cons_of_mem _ z)
      refine (h.all x hx').move go fun q' ds2 e2 u eu => ?_
      have nq : q' ≠ p := fun z => by
        have n1 := (h.perm List.perm_middle).nd
        rw [owns_cons] at n1
        have n2 := (List.nodup_cons.mp (show (p :: owns (A ++ B)).Nodup from n1)).1
        exact n2 (mem_owns.mpr ⟨x, hx, by rw [e2, z]⟩)
      rw [upd_ne nq]
      exact eu
    rcases List.mem_append.mp hx with hx | hx
    · exact old x (List.mem_append_left _ hx)
    · rcases List.mem_cons.mp hx with rfl | hx
      · exact ⟨h0.1, ys, upd_same, q.move go⟩
      · exact old x (List.mem_append_right _ hx)
/-- behind a call -/
theorem Here.step (h : Here m K H0 L st H) (k : Kp m.M H H') (ok : m.ok K st' H') : Here m K H0 L st' H' where
  ok := ok
  kp := h.kp.trans k
  nd := h.nd
  fr := h.fr
  all := fun e he => (h.all e he).move (fun a u n t e => ⟨n, k a u (fun z => n (.inl (m.sub _ z))) t e⟩) fun q ds' e2 u eu => k q _ (fun z => (h.fr q (mem_owns.mpr ⟨e, he, e2⟩)).1 (m.sub _ z)) u eu
end
end DL

namespace DL
open PySem PySem.Spec PyProof.Rows L2

/-! ### the judgements -/
/-- an exception as data: its class, its own fields -/
structure Exn where
  cls : Value
  fs : List (Str × PyData) := []
def ExnAt (N : Addr → Prop) (K : PySem.W.Frag) (H : Hp) (d : Option Addr) (ex : Exn) : Prop :=
  (ex.fs = [] ∧ d = none) ∨ ∃ (a : Addr) (kvs : List (Str × V)), ex.fs ≠ [] ∧ d = some a ∧ H a = some (.xd kvs) ∧ kvs.map (fun p => p.1) = ex.fs.map (fun p => p.1) ∧ DaAll N K H (kvs.map fun p => p.2) (ex.fs.map fun p => p.2)
/-- what surrounds a body: the wish of exceptions, the memory, the heap at the entry, what is wanted of exceptions -/
structure Cz where
  W : WX
  m : Mem
  H0 : Hp
  xk : Exn → m.St → Prop
abbrev Env := List Slot
def Cont (c : Cz) (K : PySem.W.Frag) (σ : L2.St) (τ : List Ent) (k : Slot → Env → c.m.St → Prop) (Q : VK) : Prop :=
  ∀ s ρ' st' v H', k s ρ' st' → Here c.m K c.H0 (σ.zip ρ' ++ (some v, s) :: τ) st' H' → σ.length = ρ'.length → Q v H'
def ContB (c : Cz) (K : PySem.W.Frag) (σ : L2.St) (τ : List Ent) (k : Bool → Env → c.m.St → Prop) (Q : Bool → Hp → Prop) : Prop :=
  ∀ b ρ' st' H', k b ρ' st' → Here c.m K c.H0 (σ.zip ρ' ++ τ) st' H' → σ.length = ρ'.length → Q b H'
def argEnts : List V → List Slot → List Ent
  | v :: vs, s :: ss => (some v, s) :: argEnts vs ss
  | _, _ => []
def ContA (c : Cz) (K : PySem.W.Frag) (σ : L2.St) (τ : List Ent) (k : List Slot → Env → c.m.St → Prop) (Q : List V → Hp → Prop) : Prop :=
  ∀ ss ρ' st' vs H', k ss ρ' st' → vs.length = ss.length → Here c.m K c.H0 (σ.zip ρ' ++ (argEnts vs ss ++ τ)) st' H' → σ.length = ρ'.length → Q vs H'
def ContX (c : Cz) (K : PySem.W.Frag) : Prop := ∀ ex st' d σ' H', c.xk ex st' → c.m.ok K st' H' → Kp c.m.M c.H0 H' → ExnAt c.m.N K H' d ex → c.W ex.cls d σ' H'
def DE (X : Cx) (c : Cz) (e : Expr) (ρ : Env) (st : c.m.St) (k : Slot → Env → c.m.St → Prop) : Prop :=
  ∀ (τ : List Ent) (σ : L2.St) (H : Hp) (Q : VK), Here c.m X.K c.H0 (σ.zip ρ ++ τ) st H → σ.length = ρ.length → Cont c X.K σ τ k Q → ContX c X.K → WE X e σ H Q
def DT (X : Cx) (c : Cz) (e : Expr) (ρ : Env) (st : c.m.St) (k : Bool → Env → c.m.St → Prop) : Prop :=
  ∀ (τ : List Ent) (σ : L2.St) (H : Hp) (Q : Bool → Hp → Prop), Here c.m X.K c.H0 (σ.zip ρ ++ τ) st H → σ.length = ρ.length → ContB c X.K σ τ k Q → ContX c X.K → WT X e σ H Q
def DW (X : Cx) (c : Cz) (e : Expr) (ρ : Env) (st : c.m.St) (k : Bool → Env → c.m.St → Prop) : Prop :=
  ∀ (τ : List Ent) (σ : L2.St) (H : Hp) (Q : Bool → Hp → Prop), Here c.m X.K c.H0 (σ.zip ρ ++ τ) st H → σ.length = ρ.length → ContB c X.K σ τ k Q → ContX c X.K → WW X e σ H Q
def DA (X : Cx) (c : Cz) (es : List Expr) (ρ : Env) (st : c.m.St) (k : List Slot → Env → c.m.St → Prop) : Prop :=
  ∀ (τ : List Ent) (σ : L2.St) (H : Hp) (Q : List V → Hp → Prop), Here c.m X.K c.H0 (σ.zip ρ ++ τ) st H → σ.length = ρ.length → ContA c X.K σ τ k Q → ContX c X.K → WA X es σ H Q
/-- what is wanted behind a statement, over data -/
structure Dn (m : Mem) where
  nx : Env → m.St → Prop
  rt : Slot → m.St → Prop
  bk : Env → m.St → Prop := fun _ _ => False
  ct : Env → m.St → Prop := fun _ _ => False
/-- what is handed back -/
def Back (m : Mem) (K : PySem.W.Frag) (H0 H' : Hp) (v : V) : Slot → Prop
  | .any => True
  | .raw w => v = w
  | .dat d => Da m.N K H' v d
  | .ownX _ _ _ => False
  | .own p ds => v = .ref p ∧ Fr0 H0 p ∧ ¬ m.N p ∧ ∃ xs, H' p = some (.lst xs) ∧ DaAll (fun a => m.N a ∨ a = p) K H' xs ds
  | .obj φ => ∃ a, v = .ref a ∧ ¬ m.N a ∧ NT (φ a) ∧ H' a = some (φ a)
structure ContS (c : Cz) (K : PySem.W.Frag) (τ : List Ent) (D : Dn c.m) (De : Ends) : Prop where
  nx : ∀ ρ' st' σ' H', D.nx ρ' st' → Here c.m K c.H0 (σ'.zip ρ' ++ τ) st' H' → σ'.length = ρ'.length → De.nx σ' H'
  bk : ∀ ρ' st' σ' H', D.bk ρ' st' → Here c.m K c.H0 (σ'.zip ρ' ++ τ) st' H' → σ'.length = ρ'.length → De.bk σ' H'
  ct : ∀ ρ' st' σ' H', D.ct ρ' st' → Here c.m K c.H0 (σ'.zip ρ' ++ τ) st' H' → σ'.length = ρ'.length → De.ct σ' H'
  rt : ∀ s st' v H', D.rt s st' → c.m.ok K st' H' → Kp c.m.M c.H0 H' → Back c.m K c.H0 H' v s → De.rt v H'
def DS (X : Cx) (c : Cz) (s : Stmt) (ρ : Env) (st : c.m.St) (D : Dn c.m) : Prop :=
  ∀ (τ : List Ent) (σ : L2.St) (H : Hp) (De : Ends), Here c.m X.K c.H0 (σ.zip ρ ++ τ) st H → σ.length = ρ.length → ContS c X.K τ D De → ContX c X.K → WS X s De σ H
def DB (X : Cx) (c : Cz) (ss : List Stmt) (ρ : Env) (st : c.m.St) (D : Dn c.m) : Prop :=
  ∀ (τ : List Ent) (σ : L2.St) (H : Hp) (De : Ends), Here c.m X.K c.H0 (σ.zip ρ ++ τ) st H → σ.length = ρ.length → ContS c X.K τ D De → ContX c X.K → WB X ss De σ H

section
variable {X : Cx} {c : Cz} {e a b : Expr} {es : List Expr} {ρ : Env} {st : c.m.St} {pos : Pos} {k : Slot → Env → c.m.St → Prop} {kb : Bool → Env → c.m.St → Prop} {ka : List Slot → Env → c.m.St → Prop}

/-! ### entries at slots -/
theorem zip_get {σ : L2.St} {ρ : Env} {i : Nat} {s : Slot} (hl : σ.length = ρ.length) (h : ρ[i]? = some s) : ∃ o, σ[i]? = some o ∧ (o, s) ∈ σ.zip ρ ∧ (σ.zip ρ)[i]? = some (o, s) := by
  have hi : i < ρ.length := (List.getElem?_eq_some_iff.mp h).1
  have hi' : i < σ.length := by omega
  have e1 : σ[i]? = some σ[i] := List.getElem?_eq_getElem hi'
  have e2 : (σ.zip ρ)[i]? = some (σ[i], s) := by
    rw [List.getElem?_zip_eq_some]
    exact ⟨e1, h⟩
  exact ⟨σ[i], e1, List.mem_of_getElem? e2, e2⟩
theorem zip_set : ∀ (σ : L2.St) (ρ : Env) (i : Nat) (o : Option V) (s : Slot), (σ.set i o).zip (ρ.set i s) = (σ.zip ρ).set i (o, s)
  | [], _, _, _, _ => by simp
  | _ :: _, [], _, _, _ => by simp
  | _ :: _, _ :: _, 0, _, _ => rfl
  | x :: σ, y :: ρ, i + 1, o, s => by
    show (x, y) :: ((σ.set i o).zip (ρ.set i s)) = (x, y) :: ((σ.zip ρ).set i (o, s))
    rw [zip_set σ ρ i o s]
/-- what a slot's name gives -/
def look : Slot → Option Slot
  | .any => none
  | .raw v => some (.raw v)
  | .dat d => some (.dat d)
  | .own p _ => some (.raw (.ref p))
  | .ownX p _ _ => some (.raw (.ref p))
  | .obj φ => some (.obj φ)
theorem look_ok {m : Mem} {K : PySem.W.Frag} {H0 H : Hp} {A B : List Ent} {st : m.St} {o : Option V} {s s' : Slot} (h : Here m K H0 (A ++ B) st H) (he : (o, s) ∈ A ++ B) (hs : look s = some s') : ∃ v, o = some v ∧ Here m K H0 (A ++ (some v, s') :: B) st H := by
  have q := h.all _ he
  cases s with
  | any => cases hs
  | raw v =>
    cases hs
    exact ⟨v, q, h.put rfl rfl⟩
  | dat d =>
    cases hs
    obtain ⟨v, e, z⟩ := q
    exact ⟨v, e, h.put rfl ⟨v, rfl, z⟩⟩
  | own p ds =>
    cases hs
    exact ⟨.ref p, q.1, h.put rfl rfl⟩
  | ownX p u S =>
    cases hs
    exact ⟨.ref p, q.1, h.put rfl rfl⟩
  | obj φ =>
    cases hs
    obtain ⟨a, e, n, t, z⟩ := q
    exact ⟨.ref a, e, h.put rfl ⟨a, rfl, n, t, z⟩⟩
theorem de_var {i : Nat} {x : Str} {s s' : Slot} (hρ : ρ[i]? = some s) (hs : look s = some s') (hN : X.N[i]? = some x) (hv : Vis X.env.scope x) (h : k s' ρ st) (hd : (x == ("__debug__" : Str)) = false := by decide) (hcd : (x == ("__classdict__" : Str)) = false := by decide) : DE X c (.Name x pos) ρ st k := by
  intro τ σ H Q hh hl hk hx
  obtain ⟨o, e1, e2, _⟩ := zip_get hl hρ
  obtain ⟨v, rfl, h2⟩ := look_ok hh (List.mem_append_left _ e2) hs
  exact we_of (pe_var hN hv hd hcd) ⟨v, e1, hk _ _ _ _ _ h h2 hl⟩
/-- a value without the heap -/
def flatD : V → Option PyData
  | .non => some .none
  | .bl b => some (.bool b)
  | .int i => some (.int i)
  | .str x => some (.str x)
  | _ => none
theorem flat_da {N : Addr → Prop} {K : PySem.W.Frag} {H : Hp} {v : V} {d : PyData} (h : flatD v = some d) : Da N K H v d := by
  cases v <;> first | (cases h; constructor) | cases h
theorem da_flat {N : Addr → Prop} {K : PySem.W.Frag} {H : Hp} {v w : V} {d : PyData} (h : flatD w = some d) (q : Da N K H v d) : v = w := by
  cases w with
  | non => cases h; cases q; rfl
  | bl b => cases h; cases q; rfl
  | int i => cases h; cases q; rfl
  | str x => cases h; cases q; rfl
  | _ => cases h
theorem Here.flat {m : Mem} {K : PySem.W.Frag} {H0 H : Hp} {A B : List Ent} {st : m.St} {v : V} {d : PyData} (h : Here m K H0 (A ++ B) st H) (hv : flatD v = some d) : Here m K H0 (A ++ (some v, .dat d) :: B) st H := h.put rfl ⟨v, rfl, flat_da hv⟩
theorem Here.dat {m : Mem} {K : PySem.W.Frag} {H0 H : Hp} {L : List Ent} {st : m.St} {o : Option V} {d : PyData} (h : Here m K H0 L st H) (he : (o, .dat d) ∈ L) : ∃ v, o = some v ∧ Da (fun a => m.N a ∨ a ∈ owns L) K H v d := h.all _ he
theorem de_tC {v : V} {d : PyData} (hp : PE X e (tC v)) (hv : flatD v = some d) (h : k (.dat d) ρ st) : DE X c e ρ st k := by
  intro τ σ H Q hh hl hk hx
  exact we_of hp (hk _ _ _ _ _ h (hh.flat hv) hl)
theorem de_int {i : Int} {j} (h : k (.dat (.int i)) ρ st) : DE X c (.Constant (.int i) j pos) ρ st k := de_tC pe_int rfl h
theorem de_bl {i : Bool} {j} (h : k (.dat (.bool i)) ρ st) : DE X c (.Constant (.bool i) j pos) ρ st k := de_tC pe_bl rfl h
theorem de_non {j} (h : k (.dat .none) ρ st) : DE X c (.Constant .none j pos) ρ st k := de_tC pe_non rfl h
theorem de_str {x : Str} {j} (h : k (.dat (.str x)) ρ st) : DE X c (.Constant (.str x) j pos) ρ st k := de_tC pe_str rfl h
theorem de_imp {k' : Slot → Env → c.m.St → Prop} (h : DE X c e ρ st k') (q : ∀ s ρ st, k' s ρ st → k s ρ st) : DE X c e ρ st k := fun τ σ H Q hh hl hk hx => h τ σ H Q hh hl (fun s ρ' st' v H' hk' => hk s ρ' st' v H' (q _ _ _ hk')) hx

/-! ### operators by values -/
/-- the two operands' entries on top -/
def DOp (K : PySem.W.Frag) (c : Cz) (r : R2) (s1 s2 : Slot) (ρ : Env) (st : c.m.St) (k : Slot → Env → c.m.St → Prop) : Prop :=
  ∀ (τ : List Ent) (σ : L2.St) (H : Hp) (Q : VK) (v1 v2 : V), Here c.m K c.H0 (σ.zip ρ ++ (some v2, s2) :: (some v1, s1) :: τ) st H → σ.length = ρ.length → Cont c K σ τ k Q → r v1 v2 H Q
theorem de_two {r : R2} {t : TE → TE → TE} (ht : ∀ ta tb σ H Q, t ta tb σ H Q = ta σ H fun x H1 => tb σ H1 fun y H2 => r x y H2 Q) (hp : PE X e (t (WE X a) (WE X b)))
    (h : DE X c a ρ st fun s1 ρ1 st1 => DE X c b ρ1 st1 fun s2 ρ2 st2 => DOp X.K c r s1 s2 ρ2 st2 k) : DE X c e ρ st k := by
  intro τ σ H Q hh hl hk hx
  refine we_of hp ?_
  rw [ht]
  refine h τ σ H _ hh hl (fun s1 ρ1 st1 v1 H1 h1 hh1 hl1 => ?_) hx
  exact h1 _ σ H1 _ hh1 hl1 (fun s2 ρ2 st2 v2 H2 h2 hh2 hl2 => h2 τ σ H2 Q v1 v2 hh2 hl2 hk) hx
theorem de_bin {op : Operator} {r : R2} (ho : OpR X (binaryOp op) r) (h : DE X c a ρ st fun s1 ρ1 st1 => DE X c b ρ1 st1 fun s2 ρ2 st2 => DOp X.K c r s1 s2 ρ2 st2 k) : DE X c (.BinOp a op b pos) ρ st k :=
  de_two (t := tOp r) (fun _ _ _ _ _ => rfl) (pe_op ho pe_w pe_w) h
theorem de_cmp {op : CmpOp} {r : R2} (ho : OpR X (compareOp op) r) (hm : behindInMarks op b = false) (h : DE X c a ρ st fun s1 ρ1 st1 => DE X c b ρ1 st1 fun s2 ρ2 st2 => DOp X.K c r s1 s2 ρ2 st2 k) : DE X c (.Compare a [op] [b] pos) ρ st k :=
  de_two (t := tOp r) (fun _ _ _ _ _ => rfl) (pe_cmpR ho pe_w pe_w hm) h
theorem de_ix {r : R2} (ho : IxR X r) (h : DE X c a ρ st fun s1 ρ1 st1 => DE X c b ρ1 st1 fun s2 ρ2 st2 => DOp X.K c r s1 s2 ρ2 st2 k) (hs : PlainIx b := by exact fun _ _ => rfl) : DE X c (.Subscript a b pos) ρ st k :=
  de_two (t := tOp r) (fun _ _ _ _ _ => rfl) (pe_ix ho pe_w pe_w hs) h
section
variable {K : PySem.W.Frag} {s1 s2 : Slot} {m : Mem} {H0 H : Hp} {A B : List Ent}
/-- two temporaries go, a flat value comes -/
theorem Here.two {m : Mem} {st : m.St} {e1 e2 : Ent} {v : V} {d : PyData} (h : Here m K H0 (A ++ e1 :: e2 :: B) st H) (hv : flatD v = some d) : Here m K H0 (A ++ (some v, .dat d) :: B) st H := Here.flat (Here.cut (Here.cut h)) hv
theorem Here.one {m : Mem} {st : m.St} {e1 : Ent} {v : V} {d : PyData} (h : Here m K H0 (A ++ e1 :: B) st H) (hv : flatD v = some d) : Here m K H0 (A ++ (some v, .dat d) :: B) st H := Here.flat (Here.cut h) hv
theorem Here.int1 {m : Mem} {st : m.St} {o : Option V} {d : PyData} {w : V} (h : Here m K H0 (A ++ (o, .dat d) :: B) st H) (hw : flatD w = some d) : o = some w := by
  obtain ⟨v, rfl, q⟩ := h.dat (List.mem_append_right _ List.mem_cons_self)
  rw [da_flat hw q]
theorem Here.int2 {m : Mem} {st : m.St} {o : Option V} {d : PyData} {w : V} {e : Ent} (h : Here m K H0 (A ++ e :: (o, .dat d) :: B) st H) (hw : flatD w = some d) : o = some w := by
  obtain ⟨v, rfl, q⟩ := h.dat (List.mem_append_right _ (List.mem_cons_of_mem _ List.mem_cons_self))
  rw [da_flat hw q]
theorem dop_I0 {g : Int → Int → V} {i j : Int} {d : PyData} (hd : flatD (g i j) = some d) (h : k (.dat d) ρ st) : DOp K c (rI0 g) (.dat (.int i)) (.dat (.int j)) ρ st k := by
  intro τ σ H Q v1 v2 hh hl hk
  have e1 : v1 = .int i := Option.some.inj (hh.int2 (w := .int i) rfl)
  have e2 : v2 = .int j := Option.some.inj (hh.int1 (w := .int j) rfl)
  exact ⟨i, j, e1, e2, hk _ _ _ _ _ h (hh.two hd) hl⟩
theorem dop_I {g : Int → Int → V} {C : Int → Int → Prop} {i j : Int} {d : PyData} (hd : flatD (g i j) = some d) (hc : C i j) (h : k (.dat d) ρ st) : DOp K c (rI C g) (.dat (.int i)) (.dat (.int j)) ρ st k := by
  intro τ σ H Q v1 v2 hh hl hk
  have e1 : v1 = .int i := Option.some.inj (hh.int2 (w := .int i) rfl)
  have e2 : v2 = .int j := Option.some.inj (hh.int1 (w := .int j) rfl)
  exact ⟨i, j, e1, e2, hc, hk _ _ _ _ _ h (hh.two hd) hl⟩
/-- == of flat values of one kind -/
theorem dop_eq {x y : V} {dx dy : PyData} (hx : flatD x = some dx) (hy : flatD y = some dy) (hs : scal x y = true) (h : k (.dat (.bool (decide (x = y)))) ρ st) : DOp K c rEq (.dat dx) (.dat dy) ρ st k := by
  intro τ σ H Q v1 v2 hh hl hk
  have e1 : v1 = x := Option.some.inj (hh.int2 hx)
  have e2 : v2 = y := Option.some.inj (hh.int1 hy)
  subst e1 e2
  exact ⟨hs, hk _ _ _ _ _ h (hh.two (v := .bl _) rfl) hl⟩
theorem dop_ne {x y : V} {dx dy : PyData} (hx : flatD x = some dx) (hy : flatD y = some dy) (hs : scal x y = true) (h : k (.dat (.bool (!decide (x = y)))) ρ st) : DOp K c rNe (.dat dx) (.dat dy) ρ st k := by
  intro τ σ H Q v1 v2 hh hl hk
  have e1 : v1 = x := Option.some.inj (hh.int2 hx)
  have e2 : v2 = y := Option.some.inj (hh.int1 hy)
  subst e1 e2
  exact ⟨hs, hk _ _ _ _ _ h (hh.two (v := .bl _) rfl) hl⟩
/-- what an operand is as data: a fresh list, or an owned one by its name, is its list -/
inductive AsD (ρ : Env) : Slot → PyData → Prop
  | dat (d : PyData) : AsD ρ (.dat d) d
  | own (p : Addr) (ds : List PyData) : AsD ρ (.own p ds) (.list ds)
  | ref (p : Addr) (ds : List PyData) (i : Nat) (h : ρ[i]? = some (.own p ds)) : AsD ρ (.raw (.ref p)) (.list ds)
/-- as it lies: with the places of the owned ones -/
theorem asD_ok {m : Mem} {st : m.St} {σ : L2.St} {ρ : Env} {L : List Ent} {v : V} {s : Slot} {d : PyData} (h : Here m K H0 L st H) (hz : ∀ e ∈ σ.zip ρ, e ∈ L) (hl : σ.length = ρ.length) (hm : (some v, s) ∈ L) (a : AsD ρ s d) : Da (fun a => m.N a) K H v d := by
  have wk : ∀ {v d}, Da (fun a => m.N a ∨ a ∈ owns L) K H v d → Da (fun a => m.N a) K H v d := fun q => q.move fun a o n t e => ⟨fun z => n (.inl z), e⟩
  have wkA : ∀ {v d}, DaAll (fun a => m.N a ∨ a ∈ owns L) K H v d → DaAll (fun a => m.N a) K H v d := fun q => q.move fun a o n t e => ⟨fun z => n (.inl z), e⟩
  cases a with
  | dat d =>
    obtain ⟨v', e, q⟩ := h.dat hm
    cases e
    exact wk q
  | own p ds =>
    obtain ⟨e, xs, e2, q⟩ := h.all _ hm
    cases e
    exact .lst (.inl ⟨(h.fr p (mem_owns.mpr ⟨_, hm, rfl⟩)).1, .inl e2⟩) (wkA q)
  | ref p ds i hi =>
    have e : some v = some (V.ref p) := h.all _ hm
    cases e
    obtain ⟨o, _, e2, _⟩ := zip_get hl hi
    have e3 := hz _ e2
    obtain ⟨_, xs, e4, q⟩ := h.all _ e3
    exact .lst (.inl ⟨(h.fr p (mem_owns.mpr ⟨_, e3, rfl⟩)).1, .inl e4⟩) (wkA q)
theorem dop_eqD {d1 d2 : PyData} (a1 : AsD ρ s1 d1) (a2 : AsD ρ s2 d2) (h1 : SeqAt.shaped d1 = true) (h2 : SeqAt.shaped d2 = true) (h : k (.dat (.bool (PyData.eqv d1 d2))) ρ st) : DOp K c (rEqD K) s1 s2 ρ st k := by
  intro τ σ H Q v1 v2 hh hl hk
  have m1 := asD_ok hh (fun e he => List.mem_append_left _ he) hl (List.mem_append_right _ (List.mem_cons_of_mem _ List.mem_cons_self)) a1
  have m2 := asD_ok hh (fun e he => List.mem_append_left _ he) hl (List.mem_append_right _ List.mem_cons_self) a2
  exact ⟨d1, d2, m1.dp (SeqAt.canLay_of_shaped h1), m2.dp (SeqAt.canLay_of_shaped h2), h1, h2, hk _ _ _ _ _ h (hh.two (v := .bl _) rfl) hl⟩
theorem dop_neD {d1 d2 : PyData} (a1 : AsD ρ s1 d1) (a2 : AsD ρ s2 d2) (h1 : SeqAt.shaped d1 = true) (h2 : SeqAt.shaped d2 = true) (h : k (.dat (.bool (!PyData.eqv d1 d2))) ρ st) : DOp K c (rNeD K) s1 s2 ρ st k := by
  intro τ σ H Q v1 v2 hh hl hk
  have m1 := asD_ok hh (fun e he => List.mem_append_left _ he) hl (List.mem_append_right _ (List.mem_cons_of_mem _ List.mem_cons_self)) a1
  have m2 := asD_ok hh (fun e he => List.mem_append_left _ he) hl (List.mem_append_right _ List.mem_cons_self) a2
  exact ⟨d1, d2, m1.dp (SeqAt.canLay_of_shaped h1), m2.dp (SeqAt.canLay_of_shaped h2), h1, h2, hk _ _ _ _ _ h (hh.two (v := .bl _) rfl) hl⟩
end
end
end DL

namespace DL
open PySem PySem.Spec PyProof.Rows L2

section
variable {X : Cx} {c : Cz} {e a b t : Expr} {es : List Expr} {ρ : Env} {st : c.m.St} {pos : Pos} {k : Slot → Env → c.m.St → Prop} {kb : Bool → Env → c.m.St → Prop} {ka : List Slot → Env → c.m.St → Prop}

/-! ### tests -/
theorem bool_of {K : PySem.W.Frag} {m : Mem} {H0 H : Hp} {A B : List Ent} {st : m.St} {v : V} {x : Bool} (h : Here m K H0 (A ++ (some v, .dat (.bool x)) :: B) st H) : v = .bl x := Option.some.inj (h.int1 (w := .bl x) rfl)
theorem dt_val (h : DE X c e ρ st fun s ρ1 st1 => ∃ x, s = .dat (.bool x) ∧ kb x ρ1 st1) (he : ∀ whole, isTrue e X.env whole = (do let v ← whole; standAt e.pos; holding [v] (truthy v)) := by intro _; rfl) : DT X c e ρ st kb := by
  intro τ σ H Q hh hl hk hx
  refine wt_of (pt_val pe_w he) (h τ σ H _ hh hl (fun s ρ1 st1 v H1 h1 hh1 hl1 => ?_) hx)
  obtain ⟨x, rfl, q⟩ := h1
  exact ⟨x, bool_of hh1, hk _ _ _ _ q hh1.cut hl1⟩
theorem dt_cmp {op : CmpOp} {r : R2} (ho : OpR X (compareOp op) r) (hm : behindInMarks op b = false)
    (h : DE X c a ρ st fun s1 ρ1 st1 => DE X c b ρ1 st1 fun s2 ρ2 st2 => DOp X.K c r s1 s2 ρ2 st2 fun s ρ3 st3 => ∃ x, s = .dat (.bool x) ∧ kb x ρ3 st3) : DT X c (.Compare a [op] [b] pos) ρ st kb := by
  intro τ σ H Q hh hl hk hx
  refine wt_of (pt_cmpR ho pe_w pe_w hm) ?_
  refine h τ σ H _ hh hl (fun s1 ρ1 st1 v1 H1 h1 hh1 hl1 => ?_) hx
  refine h1 _ σ H1 _ hh1 hl1 (fun s2 ρ2 st2 v2 H2 h2 hh2 hl2 => ?_) hx
  refine h2 τ σ H2 _ v1 v2 hh2 hl2 (fun s ρ3 st3 v H3 h3 hh3 hl3 => ?_)
  obtain ⟨x, rfl, q⟩ := h3
  exact ⟨x, bool_of hh3, hk _ _ _ _ q hh3.cut hl3⟩
theorem dt_not (h : DT X c a ρ st fun x ρ1 st1 => kb (!x) ρ1 st1) : DT X c (.UnaryOp .Not a pos) ρ st kb := by
  intro τ σ H Q hh hl hk hx
  exact wt_of (pt_not pt_w) (h τ σ H _ hh hl (fun x ρ1 st1 H1 h1 hh1 hl1 => hk _ _ _ _ h1 hh1 hl1) hx)
theorem dt_w (h : DW X c e ρ st kb) : DT X c e ρ st kb := fun τ σ H Q hh hl hk hx => wt_of pw_w.pt (h τ σ H Q hh hl hk hx)
theorem dw_and1 {pos'} (h : DT X c a ρ st kb) : DW X c (.BoolOp .And [a] pos') ρ st kb := fun τ σ H Q hh hl hk hx => ww_of (pw_and1 pt_w) (h τ σ H Q hh hl hk hx)
theorem dw_or1 {pos'} (h : DT X c a ρ st kb) : DW X c (.BoolOp .Or [a] pos') ρ st kb := fun τ σ H Q hh hl hk hx => ww_of (pw_or1 pt_w) (h τ σ H Q hh hl hk hx)
theorem dw_and {rest : List Expr} {pos'} (h : DT X c a ρ st fun x ρ1 st1 => (x = true → DW X c (.BoolOp .And (b :: rest) pos') ρ1 st1 kb) ∧ (x = false → kb false ρ1 st1)) : DW X c (.BoolOp .And (a :: b :: rest) pos') ρ st kb := by
  intro τ σ H Q hh hl hk hx
  refine ww_of (pw_and pt_w pw_w) (h τ σ H _ hh hl (fun x ρ1 st1 H1 h1 hh1 hl1 => ?_) hx)
  cases x with
  | true => exact iteT (h1.1 rfl τ σ H1 Q hh1 hl1 hk hx)
  | false => exact iteF (hk _ _ _ _ (h1.2 rfl) hh1 hl1)
theorem dw_or {rest : List Expr} {pos'} (h : DT X c a ρ st fun x ρ1 st1 => (x = true → kb true ρ1 st1) ∧ (x = false → DW X c (.BoolOp .Or (b :: rest) pos') ρ1 st1 kb)) : DW X c (.BoolOp .Or (a :: b :: rest) pos') ρ st kb := by
  intro τ σ H Q hh hl hk hx
  refine ww_of (pw_or pt_w pw_w) (h τ σ H _ hh hl (fun x ρ1 st1 H1 h1 hh1 hl1 => ?_) hx)
  cases x with
  | true => exact iteT (hk _ _ _ _ (h1.1 rfl) hh1 hl1)
  | false => exact iteF (h1.2 rfl τ σ H1 Q hh1 hl1 hk hx)

/-! ### values by tests -/
theorem de_if (h : DT X c t ρ st fun x ρ1 st1 => (x = true → DE X c a ρ1 st1 k) ∧ (x = false → DE X c b ρ1 st1 k)) : DE X c (.IfExp t a b pos) ρ st k := by
  intro τ σ H Q hh hl hk hx
  refine we_of (pe_ifExp pt_w pe_w pe_w) (h τ σ H _ hh hl (fun x ρ1 st1 H1 h1 hh1 hl1 => ?_) hx)
  cases x with
  | true => exact iteT (h1.1 rfl τ σ H1 Q hh1 hl1 hk hx)
  | false => exact iteF (h1.2 rfl τ σ H1 Q hh1 hl1 hk hx)
theorem de_one {op} {pos'} (h : DE X c a ρ st k) : DE X c (.BoolOp op [a] pos') ρ st k := fun τ σ H Q hh hl hk hx => we_of (pe_one pe_w) (h τ σ H Q hh hl hk hx)
theorem de_and {rest : List Expr} {pos'} (h : DE X c a ρ st fun s ρ1 st1 => ∃ x, s = .dat (.bool x) ∧ (x = true → DE X c (.BoolOp .And (b :: rest) pos') ρ1 st1 k) ∧ (x = false → k (.dat (.bool false)) ρ1 st1)) : DE X c (.BoolOp .And (a :: b :: rest) pos') ρ st k := by
  intro τ σ H Q hh hl hk hx
  refine we_of (pe_and pe_w pe_w) (h τ σ H _ hh hl (fun s ρ1 st1 v H1 h1 hh1 hl1 => ?_) hx)
  obtain ⟨x, rfl, q1, q2⟩ := h1
  refine ⟨x, bool_of hh1, ?_⟩
  cases x with
  | true => exact iteT (q1 rfl τ σ H1 Q hh1.cut hl1 hk hx)
  | false => exact iteF (hk _ _ _ _ _ (q2 rfl) (hh1.one rfl) hl1)
theorem de_or {rest : List Expr} {pos'} (h : DE X c a ρ st fun s ρ1 st1 => ∃ x, s = .dat (.bool x) ∧ (x = true → k (.dat (.bool true)) ρ1 st1) ∧ (x = false → DE X c (.BoolOp .Or (b :: rest) pos') ρ1 st1 k)) : DE X c (.BoolOp .Or (a :: b :: rest) pos') ρ st k := by
  intro τ σ H Q hh hl hk hx
  refine we_of (pe_or pe_w pe_w) (h τ σ H _ hh hl (fun s ρ1 st1 v H1 h1 hh1 hl1 => ?_) hx)
  obtain ⟨x, rfl, q1, q2⟩ := h1
  refine ⟨x, bool_of hh1, ?_⟩
  cases x with
  | true => exact iteT (hk _ _ _ _ _ (q1 rfl) (hh1.one rfl) hl1)
  | false => exact iteF (q2 rfl τ σ H1 Q hh1.cut hl1 hk hx)
theorem de_not (h : DE X c a ρ st fun s ρ1 st1 => ∃ x, s = .dat (.bool x) ∧ k (.dat (.bool (!x))) ρ1 st1) : DE X c (.UnaryOp .Not a pos) ρ st k := by
  intro τ σ H Q hh hl hk hx
  refine we_of (pe_not pe_w) (h τ σ H _ hh hl (fun s ρ1 st1 v H1 h1 hh1 hl1 => ?_) hx)
  obtain ⟨x, rfl, q⟩ := h1
  exact ⟨x, bool_of hh1, hk _ _ _ _ _ q (hh1.one (v := .bl _) rfl) hl1⟩
theorem de_neg (h : DE X c a ρ st fun s ρ1 st1 => ∃ i, s = .dat (.int i) ∧ k (.dat (.int (-i))) ρ1 st1) : DE X c (.UnaryOp .USub a pos) ρ st k := by
  intro τ σ H Q hh hl hk hx
  refine we_of (pe_un un_neg pe_w) (h τ σ H _ hh hl (fun s ρ1 st1 v H1 h1 hh1 hl1 => ?_) hx)
  obtain ⟨i, rfl, q⟩ := h1
  exact ⟨i, Option.some.inj (hh1.int1 (w := .int i) rfl), hk _ _ _ _ _ q (hh1.one (v := .int _) rfl) hl1⟩

/-! ### arguments, displays -/
theorem da_nil (h : ka [] ρ st) : DA X c [] ρ st ka := fun τ σ H Q hh hl hk hx => wa_of pa_nil (hk _ _ _ [] _ h rfl hh hl)
theorem da_cons (h : DE X c e ρ st fun s ρ1 st1 => DA X c es ρ1 st1 fun ss ρ2 st2 => ka (s :: ss) ρ2 st2) (hs : starEach (e :: es) X.env = (false, eval e X.env) :: starEach es X.env := by rfl) : DA X c (e :: es) ρ st ka := by
  intro τ σ H Q hh hl hk hx
  refine wa_of (pa_cons pe_w pa_w hs) (h τ σ H _ hh hl (fun s ρ1 st1 v H1 h1 hh1 hl1 => ?_) hx)
  refine h1 _ σ H1 _ hh1 hl1 (fun ss ρ2 st2 vs H2 h2 hlen hh2 hl2 => ?_) hx
  refine hk _ _ _ (v :: vs) _ h2 (by rw [List.length_cons, List.length_cons, hlen]) (hh2.perm ?_) hl2
  refine List.Perm.append_left _ ?_
  show (argEnts vs ss ++ (some v, s) :: τ).Perm ((some v, s) :: (argEnts vs ss ++ τ))
  exact List.perm_middle
theorem argEnts_mem : ∀ {vs : List V} {ss : List Slot} {i : Nat} {v : V} {s : Slot}, vs[i]? = some v → ss[i]? = some s → (some v, s) ∈ argEnts vs ss
  | [], _, _, _, _, h, _ => by simp at h
  | _ :: _, [], _, _, _, _, h => by simp at h
  | _ :: _, _ :: _, 0, _, _, h1, h2 => by
    cases h1; cases h2
    exact List.mem_cons_self
  | _ :: _, _ :: _, i + 1, v, s, h1, h2 => List.mem_cons_of_mem _ (argEnts_mem (i := i) (by simpa using h1) (by simpa using h2))
/-- the arguments go -/
theorem Here.cutA {m : Mem} {K : PySem.W.Frag} {H0 H : Hp} {A B : List Ent} {st : m.St} : ∀ {M : List Ent}, Here m K H0 (A ++ (M ++ B)) st H → Here m K H0 (A ++ B) st H
  | [], h => h
  | _ :: M, h => Here.cutA (M := M) h.cut
/-- arguments that are data, all -/
inductive AllD : List Slot → List PyData → Prop
  | nil : AllD [] []
  | dat {d : PyData} {ss : List Slot} {ds : List PyData} : AllD ss ds → AllD (.dat d :: ss) (d :: ds)
  | own {p : Addr} {es ds : List PyData} {ss : List Slot} : AllD ss ds → AllD (.own p es :: ss) (.list es :: ds)
theorem owns_drop {L : List Ent} {M : List Ent} : ∀ p ∈ owns M, p ∈ owns (L ++ M) := fun p hp => by
  rw [owns_app]
  exact List.mem_append_right _ hp
/-- what the arguments are, told without their own places -/
theorem allD_da {m : Mem} {K : PySem.W.Frag} {H0 H : Hp} {A B : List Ent} {st : m.St} : ∀ {ss : List Slot} {ds : List PyData} {vs : List V}, AllD ss ds → vs.length = ss.length → Here m K H0 (A ++ (argEnts vs ss ++ B)) st H → DaAll (fun a => m.N a ∨ a ∈ owns (A ++ B)) K H vs ds
  | _, _, [], .nil, _, _ => .nil
  | _, _, v :: vs, .dat (d := d) q, hl, h => by
    have h' : Here m K H0 (A ++ (some v, .dat d) :: (argEnts vs _ ++ B)) st H := h
    obtain ⟨v', e, z⟩ := h'.dat (List.mem_append_right _ List.mem_cons_self)
    cases e
    refine .cons (z.move fun a o n t e => ⟨fun y => n (y.elim .inl fun y => .inr ?_), e⟩) (allD_da q (by simpa using hl) h'.cut)
    refine owns_sub (fun x hx => ?_) a y
    rcases List.mem_append.mp hx with hx | hx
    · exact List.mem_append_left _ hx
    · exact List.mem_append_right _ (List.mem_cons_of_mem _ (List.mem_append_right _ hx))
  | _, _, v :: vs, .own (p := p) (es := es) (ss := ss) q, hl, h => by
    have h' : Here m K H0 (A ++ (some v, .own p es) :: (argEnts vs ss ++ B)) st H := h
    have hm : (some v, Slot.own p es) ∈ A ++ (some v, .own p es) :: (argEnts vs ss ++ B) := List.mem_append_right _ List.mem_cons_self
    obtain ⟨e, xs, e2, z⟩ := h'.all _ hm
    cases e
    have hN := (h'.fr p (mem_owns.mpr ⟨_, hm, rfl⟩)).1
    have nd := (h'.perm List.perm_middle).nd
    rw [owns_cons] at nd
    have np := (List.nodup_cons.mp (show (p :: owns (A ++ (argEnts vs ss ++ B))).Nodup from nd)).1
    have sub : ∀ x ∈ owns (A ++ B), x ∈ owns (A ++ (argEnts vs ss ++ B)) := owns_sub fun x hx => (List.mem_append.mp hx).elim (List.mem_append_left _) fun z => List.mem_append_right _ (List.mem_append_right _ z)
    refine .cons (.lst (.inl ⟨fun y => y.elim hN fun y => np (sub p y), .inl e2⟩) (z.move fun a o n t e => ⟨fun y => n (y.elim .inl fun y => .inr ?_), e⟩)) (allD_da q (by simpa using hl) h'.cut)
    refine owns_sub (fun x hx => ?_) a y
    rcases List.mem_append.mp hx with hx | hx
    · exact List.mem_append_left _ hx
    · exact List.mem_append_right _ (List.mem_cons_of_mem _ (List.mem_append_right _ hx))
theorem de_tup {kk : Nat} (h : DA X c es ρ st fun ss ρ1 st1 => ∃ ds, AllD ss ds ∧ ds.length ≤ 16000000 ∧ k (.dat (.tuple ds)) ρ1 st1) : DE X c (.Tuple es kk pos) ρ st k := by
  intro τ σ H Q hh hl hk hx
  refine we_of (pe_tup pa_w) (h τ σ H _ hh hl (fun ss ρ1 st1 vs H1 h1 hlen hh1 hl1 => ?_) hx)
  obtain ⟨ds, a, hz, q⟩ := h1
  have da := allD_da a hlen hh1
  refine ⟨by rw [da.len]; exact Nat.le_trans hz (by decide), fun p hp => ?_⟩
  have h2 := hh1.cutA
  have np : ¬ (c.m.N p ∨ p ∈ owns (σ.zip ρ1 ++ τ)) := fun z => by
    rcases z with z | z
    · exact h2.freshN hp z
    · obtain ⟨x, hx, e⟩ := mem_owns.mp z
      exact (h2.all x hx).no e hp
  have h3 := h2.alloc (o := .tup vs) hp
  refine hk _ _ _ _ _ q (h3.put rfl ⟨_, rfl, .tup ⟨np, upd_same⟩ (da.move fun a o n t e => ⟨n, ?_⟩)⟩) hl1
  rw [upd_ne (ne_of_none e hp)]
  exact e
theorem de_lst (h : DA X c es ρ st fun ss ρ1 st1 => ∃ ds, AllD ss ds ∧ ds.length ≤ 16000000 ∧ ∀ p, k (.own p ds) ρ1 st1) : DE X c (.List es pos) ρ st k := by
  intro τ σ H Q hh hl hk hx
  refine we_of (pe_lst pa_w) (h τ σ H _ hh hl (fun ss ρ1 st1 vs H1 h1 hlen hh1 hl1 => ?_) hx)
  obtain ⟨ds, a, hz, q⟩ := h1
  have da := allD_da a hlen hh1
  exact ⟨by rw [da.len]; exact Nat.le_trans hz (by decide), fun p hp => hk _ _ _ _ _ (q p) (hh1.cutA.allocOwn hp da) hl1⟩

/-! ### calls of built-ins, by values -/
def DCall (K : PySem.W.Frag) (c : Cz) (r : List V → Hp → VK → Prop) (ss : List Slot) (ρ : Env) (st : c.m.St) (k : Slot → Env → c.m.St → Prop) : Prop :=
  ∀ (τ : List Ent) (σ : L2.St) (H : Hp) (Q : VK) (vs : List V), vs.length = ss.length → Here c.m K c.H0 (σ.zip ρ ++ (argEnts vs ss ++ τ)) st H → σ.length = ρ.length → Cont c K σ τ k Q → r vs H Q
theorem de_callB {r : List V → Hp → VK → Prop} {x : Str} {id : String} {p : Pos} (hc : CallR X (.builtin id) r) (hg : Gl X x) (hm : X.mg x = none) (hv : bootBuiltins x = some (.builtin id))
    (h : DA X c (e :: es) ρ st fun ss ρ1 st1 => DCall X.K c r ss ρ1 st1 k) (hn : x ≠ "__name__" := by decide) (hdb : (x == ("__debug__" : Str)) = false := by decide)
    (he : starEach (e :: es) X.env = (false, eval e X.env) :: starEach es X.env := by rfl) (hpl : (backTo pos (starEach es X.env)).any (·.1) = false := by rfl) : DE X c (.Call (.Name x p) (e :: es) [] pos) ρ st k := by
  intro τ σ H Q hh hl hk hx
  exact we_of (pe_callB hc hg hm hv pa_w hn hdb he hpl) (h τ σ H _ hh hl (fun ss ρ1 st1 vs H1 h1 hlen hh1 hl1 => h1 τ σ H1 Q vs hlen hh1 hl1 hk) hx)
theorem de_callTy {r : List V → Hp → VK → Prop} {x : Str} {id : String} {p : Pos} (hc : CallR X (.type id) r) (hg : Gl X x) (hm : X.mg x = none) (hv : bootBuiltins x = some (.type id))
    (h : DA X c (e :: es) ρ st fun ss ρ1 st1 => DCall X.K c r ss ρ1 st1 k) (hn : x ≠ "__name__" := by decide) (hdb : (x == ("__debug__" : Str)) = false := by decide)
    (he : starEach (e :: es) X.env = (false, eval e X.env) :: starEach es X.env := by rfl) (hpl : (backTo pos (starEach es X.env)).any (·.1) = false := by rfl) : DE X c (.Call (.Name x p) (e :: es) [] pos) ρ st k := by
  intro τ σ H Q hh hl hk hx
  exact we_of (pe_callTy hc hg hm hv pa_w hn hdb he hpl) (h τ σ H _ hh hl (fun ss ρ1 st1 vs H1 h1 hlen hh1 hl1 => h1 τ σ H1 Q vs hlen hh1 hl1 hk) hx)

/-! ### defs -/
def Mem.avoid (m : Mem) (A : List Addr) : Mem where
  M := m.M
  N := fun a => m.N a ∨ a ∈ A
  sub := fun a h => .inl (m.sub a h)
  St := m.St
  ok := fun K st H => m.ok K st H ∧ ∀ a ∈ A, ∃ o, Ow o ∧ H a = some o
  dom := fun h n => n.elim (fun n => m.dom h.1 n) fun n => by obtain ⟨o, _, e⟩ := h.2 _ n; rw [e]; exact fun z => nomatch z
  stab := fun h k k2 => ⟨m.stab h.1 (fun b n => k b (.inl n)) k2, fun a ha => by rw [k a (.inr ha)]; exact h.2 a ha⟩
  nt := fun h n e => n.elim (fun n => m.nt h.1 n e) fun n => by
    obtain ⟨o, w, e2⟩ := h.2 _ n
    rw [e] at e2
    exact w.2 _ (Option.some.inj e2).symm
/-- a def over data: from the arguments and the state to what follows, and to what an exception makes -/
abbrev Pd := (m : Mem) → List Slot → m.St → (Slot → m.St → Prop) → (Exn → m.St → Prop) → Prop
def spD (K : PySem.W.Frag) (F : Pd) : Sp := fun vs H Q E => ∃ (m : Mem) (ss : List Slot) (st : m.St) (k : Slot → m.St → Prop) (xk : Exn → m.St → Prop),
  m.ok K st H ∧ vs.length = ss.length ∧ (∀ x ∈ argEnts vs ss, EntOk m.N K H x ∧ ownP x = none) ∧ F m ss st k xk ∧
    (∀ s st' v H', k s st' → m.ok K st' H' → Kp m.M H H' → Back m K H H' v s → Q v H') ∧ (∀ ex st' d H', xk ex st' → m.ok K st' H' → Kp m.M H H' → ExnAt m.N K H' d ex → E ex.cls d H')
def normS : Slot → Slot
  | .own _ ds => .dat (.list ds)
  | .ownX _ _ _ => .any
  | s => s
theorem ownP_norm (o : Option V) (s : Slot) : ownP (o, normS s) = none := by cases s <;> rfl
theorem norm_ok {m : Mem} {K : PySem.W.Frag} {H0 H : Hp} {A B : List Ent} {st : m.St} : ∀ {ss : List Slot} {vs : List V}, vs.length = ss.length → Here m K H0 (A ++ (argEnts vs ss ++ B)) st H → ∀ x ∈ argEnts vs (ss.map normS), EntOk (fun a => m.N a ∨ a ∈ owns (A ++ B)) K H x ∧ ownP x = none
  | [], [], _, _, x, hx => by cases hx
  | s :: ss, v :: vs, hl, h, x, hx => by
    have h' : Here m K H0 (A ++ (some v, s) :: (argEnts vs ss ++ B)) st H := h
    have wk : ∀ a, a ∈ owns (A ++ B) → a ∈ owns (A ++ (some v, s) :: (argEnts vs ss ++ B)) := owns_sub fun x hx => (List.mem_append.mp hx).elim (List.mem_append_left _) fun z => List.mem_append_right _ (List.mem_cons_of_mem _ (List.mem_append_right _ z))
    rcases List.mem_cons.mp (show x ∈ (some v, normS s) :: argEnts vs (ss.map normS) from hx) with rfl | hx
    · refine ⟨?_, ownP_norm _ _⟩
      have k := h'.all _ (List.mem_append_right _ List.mem_cons_self)
      cases s with
      | any => trivial
      | ownX p u S => trivial
      | raw w => exact k
      | dat d =>
        obtain ⟨v', e, z⟩ := k
        exact ⟨v', e, z.move fun a o n t e => ⟨fun y => n (y.elim .inl fun y => .inr (wk a y)), e⟩⟩
      | obj φ =>
        obtain ⟨a, e, n, t, z⟩ := k
        exact ⟨a, e, fun y => n (y.elim .inl fun y => .inr (wk a y)), t, z⟩
      | own p es =>
        have := allD_da (A := A) (B := argEnts vs ss ++ B) (vs := [v]) (ss := [.own p es]) (.own .nil) rfl h'
        cases this with
        | cons q _ =>
          refine ⟨v, rfl, q.move fun a o n t e => ⟨fun y => n (y.elim .inl fun y => .inr ?_), e⟩⟩
          exact owns_sub (fun x hx => (List.mem_append.mp hx).elim (List.mem_append_left _) fun z => List.mem_append_right _ (List.mem_append_right _ z)) a y
    · exact norm_ok (by simpa using hl) h'.cut x hx
theorem argEnts_len : ∀ (vs : List V) (ss : List Slot), vs.length = (ss.map normS).length ↔ vs.length = ss.length := fun vs ss => by rw [List.length_map]
/-- behind a call, with what came -/
theorem Here.back {m : Mem} {K : PySem.W.Frag} {H0 H H' : Hp} {A B : List Ent} {st st' : m.St} {v : V} {s : Slot} (h : Here m K H0 (A ++ B) st H) (k : Kp m.M H H') (ok : m.ok K st' H') (b : Back (m.avoid (owns (A ++ B))) K H H' v s) : Here m K H0 (A ++ (some v, s) :: B) st' H' := by
  have h1 := h.step k ok
  cases s with
  | any => exact h1.put rfl trivial
  | ownX p u S => exact (show False from b).elim
  | raw w => exact h1.put rfl (by rw [show v = w from b]; rfl)
  | dat d => exact h1.put rfl ⟨v, rfl, b⟩
  | obj φ =>
    obtain ⟨a, e, n, t, q⟩ := b
    exact h1.put rfl ⟨a, by rw [e], n, t, q⟩
  | own p ds =>
    obtain ⟨rfl, hp, np, xs, e2, q⟩ := b
    have e0 : owns ((some (V.ref p), Slot.own p ds) :: (A ++ B)) = p :: owns (A ++ B) := by rw [owns_cons]; rfl
    have pA : p ∉ owns (A ++ B) := fun z => np (.inr z)
    refine Here.perm (L := (some (V.ref p), Slot.own p ds) :: (A ++ B)) ⟨ok, h1.kp, by rw [e0]; exact List.nodup_cons.mpr ⟨pA, h.nd⟩, ?_, ?_⟩ List.perm_middle.symm
    · rw [e0]
      intro x hx
      rcases List.mem_cons.mp hx with rfl | hx
      · exact ⟨fun z => np (.inl z), h.fresh0 (fun z => np (.inl z)) hp⟩
      · exact h.fr x hx
    · rw [e0]
      intro x hx
      rcases List.mem_cons.mp hx with rfl | hx
      · refine ⟨rfl, xs, e2, q.move fun a o n t e => ⟨fun z => n ?_, e⟩⟩
        rcases z with z | z
        · exact .inl (.inl z)
        · rcases List.mem_cons.mp z with z | z
          · exact .inr z
          · exact .inl (.inr z)
      · refine (h.all x hx).move (fun a o n t e => ⟨fun z => ?_, k a o (fun z => n (.inl (m.sub _ z))) t e⟩) fun q' ds' e2 u eu => k q' _ (fun z => (h.fr q' (mem_owns.mpr ⟨x, hx, e2⟩)).1 (m.sub _ z)) u eu
        rcases z with z | z
        · exact n (.inl z)
        · rcases List.mem_cons.mp z with z | z
          · exact nt_fr t hp (by rw [← z]; exact e)
          · exact n (.inr z)
/-- the promise of a def, in use -/
theorem spD_use {F : Pd} {τ : List Ent} {σ : L2.St} {H : Hp} {Q : VK} {ss : List Slot} {vs : List V} (hlen : vs.length = ss.length) (hh : Here c.m X.K c.H0 (σ.zip ρ ++ (argEnts vs ss ++ τ)) st H) (hl : σ.length = ρ.length) (hk : Cont c X.K σ τ k Q) (hx : ContX c X.K)
    (h : ∀ A, F (c.m.avoid A) (ss.map normS) st (fun s st' => k s ρ st') c.xk) : spD X.K F vs H Q (fun cls d H' => c.W cls d σ H') := by
  have h2 := hh.cutA
  have al : ∀ a ∈ owns (σ.zip ρ ++ τ), ∃ o, Ow o ∧ H a = some o := fun a ha => by
    obtain ⟨x, hx, e⟩ := mem_owns.mp ha
    exact (h2.all x hx).at e
  refine ⟨c.m.avoid (owns (σ.zip ρ ++ τ)), ss.map normS, st, _, _, ⟨h2.ok, al⟩, by rw [List.length_map]; exact hlen, norm_ok hlen hh, h _, fun s st' v H' h1 ok kp b => ?_, fun ex st' d H' h1 ok kp xa => ?_⟩
  · exact hk _ _ _ _ _ h1 (h2.back kp ok.1 b) hl
  · refine hx _ _ _ _ _ h1 ok.1 (h2.kp.trans kp) ?_
    rcases xa with xa | ⟨a, kvs, e0, e1, e2, e3, e4⟩
    · exact .inl xa
    · exact .inr ⟨a, kvs, e0, e1, e2, e3, e4.move fun a o n t e => ⟨fun z => n (.inl z), e⟩⟩
theorem de_call {F : Pd} {kk : Nat} {f : Addr} {fd : FuncData} {ps : List Str} {x : Str} {p : Pos} (Fk : FnOk X.prog X.w X.K X.mg X.base (L2.CX X.prog X.w) kk f fd ps (spD X.K F)) (hr : Room kk X.A) (hm : X.mg x = some (.ref f)) (hkp : PySem.W.keepIn X.K (.ref f) = true) (hb : Binds X.K fd ps []) (tk : Takes X c.W)
    (h : DA X c (e :: es) ρ st fun ss ρ1 st1 => ∀ A, F (c.m.avoid A) (ss.map normS) st1 (fun s st' => k s ρ1 st') c.xk) (hg : Gl X x := by rfl) (hdb : (x == ("__debug__" : Str)) = false := by decide)
    (he : starEach (e :: es) X.env = (false, eval e X.env) :: starEach es X.env := by rfl) (hpl : (backTo pos (starEach es X.env)).any (·.1) = false := by rfl) : DE X c (.Call (.Name x p) (e :: es) [] pos) ρ st k := by
  intro τ σ H Q hh hl hk hx
  refine we_of (pe_callS (E := L2.WE c.W) Fk hr hg hm hkp hb (fun σ => passAt tk σ) pa_w hdb he hpl) (h τ σ H _ hh hl (fun ss ρ1 st1 vs H1 h1 hlen hh1 hl1 => ?_) hx)
  exact spD_use hlen hh1 hl1 hk hx h1
theorem de_call0 {F : Pd} {kk : Nat} {f : Addr} {fd : FuncData} {ps : List Str} {x : Str} {p : Pos} (Fk : FnOk X.prog X.w X.K X.mg X.base (L2.CX X.prog X.w) kk f fd ps (spD X.K F)) (hr : Room kk X.A) (hm : X.mg x = some (.ref f)) (hkp : PySem.W.keepIn X.K (.ref f) = true) (hb : Binds X.K fd ps []) (tk : Takes X c.W)
    (h : ∀ A, F (c.m.avoid A) [] st (fun s st' => k s ρ st') c.xk) (hg : Gl X x := by rfl) (hdb : (x == ("__debug__" : Str)) = false := by decide) : DE X c (.Call (.Name x p) [] [] pos) ρ st k := by
  intro τ σ H Q hh hl hk hx
  intro pins s I
  refine wpAny_Call_Name_kw (ld_glob I hg hm ?_ hdb)
  refine PySem.W.callWith_K0 I.kIn hkp (run_fnS (us := []) (vs := []) (E := L2.WE c.W) Fk hr hb (passAt tk σ) I .nil ?_)
  exact spD_use (ss := []) (vs := []) rfl hh hl hk hx h
end
end DL

namespace DL
open PySem PySem.Spec PyProof.Rows L2

section
variable (X : Cx)
def WG (tg : Expr) : TG := fun v σ H Q => ∀ (pins : List (Addr × Obj)) (s : Shared) (u : Value), Inv X pins σ H s → RelV v u → wpAny (model X.prog X.w) X.A (assign tg X.env u) (fun _ s' => ∃ σ' H', Inv X pins σ' H' s' ∧ Q σ' H') X.xe s
def WGs (ts : List Expr) : TGs := fun vs σ H Q => ∀ (pins : List (Addr × Obj)) (s : Shared) (us : List Value), Inv X pins σ H s → Vals vs us → wpAny (model X.prog X.w) X.A (assignInOrder ((assignEach ts X.env).map (·.2)) us) (fun _ s' => ∃ σ' H', Inv X pins σ' H' s' ∧ Q σ' H') X.xe s
def WI (tg iter : Expr) : TI := fun σ H R => ∀ (pins : List (Addr × Obj)) (s : Shared), Inv X pins σ H s → wpAny (model X.prog X.w) X.A (eval iter X.env) (fun v s1 => wpAny (model X.prog X.w) X.A (pyIter v) (PIE X pins σ tg R) X.xe s1) X.xe s
end
section
variable {X : Cx} {σ : L2.St} {H : Hp}
theorem pg_w {tg : Expr} : PG X tg (WG X tg) := ⟨fun pins s σ H v u Q I r h => h pins s u I r⟩
theorem pgs_w {ts : List Expr} : PGs X ts (WGs X ts) := ⟨fun pins s σ H vs us Q I r h => h pins s us I r⟩
theorem pi_w {tg iter : Expr} : PI X tg iter (WI X tg iter) := ⟨fun pins s σ H R I h => h pins s I⟩
theorem wg_of {tg : Expr} {t : TG} {v : V} {Q : L2.St → Hp → Prop} (h : PG X tg t) (q : t v σ H Q) : WG X tg v σ H Q := fun pins s u I r => h.run pins s σ H v u Q I r q
theorem wgs_of {ts : List Expr} {t : TGs} {vs : List V} {Q : L2.St → Hp → Prop} (h : PGs X ts t) (q : t vs σ H Q) : WGs X ts vs σ H Q := fun pins s us I r => h.run pins s σ H vs us Q I r q
theorem wi_of {tg iter : Expr} {t : TI} {R : It → Hp → Prop} (h : PI X tg iter t) (q : t σ H R) : WI X tg iter σ H R := fun pins s I => h.run pins s σ H R I q
end

/-! ### targets, things that are walked -/
def DG (X : Cx) (c : Cz) (tg : Expr) (d : PyData) (ρ : Env) (st : c.m.St) (kk : Env → c.m.St → Prop) : Prop :=
  ∀ (τ : List Ent) (σ : L2.St) (H : Hp) (Q : L2.St → Hp → Prop) (x : V), Here c.m X.K c.H0 (σ.zip ρ ++ (some x, .dat d) :: τ) st H → σ.length = ρ.length →
    (∀ ρ' st' σ' H', kk ρ' st' → Here c.m X.K c.H0 (σ'.zip ρ' ++ τ) st' H' → σ'.length = ρ'.length → Q σ' H') → WG X tg x σ H Q
def WalkD (K : PySem.W.Frag) (c : Cz) (J : It) (E : List Ent) (ds : List PyData) : Prop :=
  ∀ (A B : List Ent) (st : c.m.St) (H : Hp), Here c.m K c.H0 (A ++ (E ++ B)) st H → ∀ i : Nat, (ds.length ≤ i → J.stop i H) ∧
    ∀ d, ds[i]? = some d → J.go i H ∧ ∀ x H', J.yld i H x H' → Here c.m K c.H0 (A ++ (some x, .dat d) :: (E ++ B)) st H'
def DI (X : Cx) (c : Cz) (tg iter : Expr) (ρ : Env) (st : c.m.St) (ki : List PyData → Env → c.m.St → Prop) : Prop :=
  ∀ (τ : List Ent) (σ : L2.St) (H : Hp) (R : It → Hp → Prop), Here c.m X.K c.H0 (σ.zip ρ ++ τ) st H → σ.length = ρ.length →
    (∀ ds ρ' st' J E H', ki ds ρ' st' → WalkD X.K c J E ds → Here c.m X.K c.H0 (σ.zip ρ' ++ (E ++ τ)) st' H' → σ.length = ρ'.length → R J H') → ContX c X.K → WI X tg iter σ H R
section
variable {X : Cx} {c : Cz} {e a b t : Expr} {es : List Expr} {ρ : Env} {st : c.m.St} {pos : Pos} {k : Slot → Env → c.m.St → Prop} {kb : Bool → Env → c.m.St → Prop} {ka : List Slot → Env → c.m.St → Prop} {kk : Env → c.m.St → Prop}
/-- a slot is stored -/
theorem Here.store {m : Mem} {K : PySem.W.Frag} {H0 H : Hp} {τ : List Ent} {σ : L2.St} {ρ : Env} {st : m.St} {v : V} {s : Slot} (h : Here m K H0 (σ.zip ρ ++ (some v, s) :: τ) st H) (i : Nat) : Here m K H0 ((σ.set i (some v)).zip (ρ.set i s) ++ τ) st H := by
  rw [zip_set]
  refine h.mono (fun x hx => ?_) (nd_set _ i _ τ h.nd)
  rcases List.mem_append.mp hx with hx | hx
  · rcases List.mem_or_eq_of_mem_set hx with hx | hx
    · exact List.mem_append_left _ hx
    · subst hx
      exact List.mem_append_right _ List.mem_cons_self
  · exact List.mem_append_right _ (List.mem_cons_of_mem _ hx)
theorem len_set {σ : L2.St} {ρ : Env} {i : Nat} {o : Option V} {s : Slot} (h : σ.length = ρ.length) : (σ.set i o).length = (ρ.set i s).length := by rw [List.length_set, List.length_set, h]
theorem dg_name {i : Nat} {x : Str} {d : PyData} (hN : X.N.Nodup) (hi : X.N[i]? = some x) (hx : Loc X.env.scope x) (h : kk (ρ.set i (.dat d)) st) (hf : X.fn x = true ∨ X.env.scope.names.lookup x = some .local := by first | exact .inl rfl | exact .inr rfl | assumption) : DG X c (.Name x pos) d ρ st kk := by
  intro τ σ H Q v hh hl hk
  exact wg_of (pg_name hN hi hx hf) (hk _ _ _ _ h (hh.store i) (len_set hl))
/-- several targets of a tuple -/
def DGs (X : Cx) (c : Cz) (ts : List Expr) (ds : List PyData) (ρ : Env) (st : c.m.St) (kk : Env → c.m.St → Prop) : Prop :=
  ∀ (τ : List Ent) (σ : L2.St) (H : Hp) (Q : L2.St → Hp → Prop) (xs : List V), Here c.m X.K c.H0 (σ.zip ρ ++ τ) st H → DaAll (fun _ => False) X.K (fun a => none) [] [] → σ.length = ρ.length →
    xs.length = ds.length → Here c.m X.K c.H0 (σ.zip ρ ++ (argEnts xs (ds.map .dat) ++ τ)) st H →
    (∀ ρ' st' σ' H', kk ρ' st' → Here c.m X.K c.H0 (σ'.zip ρ' ++ τ) st' H' → σ'.length = ρ'.length → Q σ' H') → WGs X ts xs σ H Q
theorem dgs_nil (h : kk ρ st) : DGs X c [] [] ρ st kk := by
  intro τ σ H Q xs _ _ hl hlen hh hk
  cases xs with
  | nil => exact wgs_of pgs_nil ⟨rfl, hk _ _ _ _ h hh hl⟩
  | cons x xs => cases hlen
theorem dgs_cons {ts : List Expr} {d : PyData} {ds : List PyData} (h : DG X c t d ρ st fun ρ1 st1 => DGs X c ts ds ρ1 st1 kk) (hs : (assignEach (t :: ts) X.env).map (·.2) = assign t X.env :: (assignEach ts X.env).map (·.2) := by rfl) : DGs X c (t :: ts) (d :: ds) ρ st kk := by
  intro τ σ H Q xs _ z hl hlen hh hk
  cases xs with
  | nil => cases hlen
  | cons x xs =>
    refine wgs_of (pgs_cons pg_w pgs_w hs) ⟨x, xs, rfl, ?_⟩
    refine h (argEnts xs (ds.map .dat) ++ τ) σ H _ x hh hl (fun ρ1 st1 σ1 H1 h1 hh1 hl1 => ?_)
    exact h1 τ σ1 H1 Q xs hh1.cutA z hl1 (by simpa using hlen) hh1 hk
theorem dg_tup {kt : Nat} {ds : List PyData} {n : Nat} (hc : X.calm = true) (h : DGs X c es ds ρ st kk) (hn : (assignEach es X.env).length = n := by rfl) (hst : (assignEach es X.env).findIdx? (·.1) = none := by rfl) (hds : ds.length = n := by rfl) : DG X c (.Tuple es kt pos) (.tuple ds) ρ st kk := by
  intro τ σ H Q v hh hl hk
  obtain ⟨v', e, q⟩ := hh.dat (List.mem_append_right _ List.mem_cons_self)
  cases e
  cases q with
  | tup r qa =>
    refine wg_of (pg_tup hc pgs_w hn hst) ⟨_, _, rfl, r.sq, by rw [qa.len, hds], ?_⟩
    refine h τ σ H Q _ hh.cut .nil hl qa.len ?_ hk
    have go : ∀ {xs : List V} {es : List PyData} {B : List Ent}, Here c.m X.K c.H0 (σ.zip ρ ++ B) st H → (∀ (i : Nat) (v : V), xs[i]? = some v → ∃ d, es[i]? = some d ∧ Da (fun a => c.m.N a ∨ a ∈ owns (σ.zip ρ ++ B)) X.K H v d) → xs.length = es.length → Here c.m X.K c.H0 (σ.zip ρ ++ (argEnts xs (es.map .dat) ++ B)) st H := by
      intro xs
      induction xs with
      | nil =>
        intro es B hb _ hlen
        cases es with
        | nil => exact hb
        | cons _ _ => cases hlen
      | cons x xs ih =>
        intro es B hb hq hlen
        cases es with
        | nil => cases hlen
        | cons d es =>
          obtain ⟨d', e, q⟩ := hq 0 x rfl
          cases e
          have h1 := ih (es := es) hb (fun i v hv => hq (i + 1) v hv) (by simpa using hlen)
          show Here c.m X.K c.H0 (σ.zip ρ ++ (some x, .dat d) :: (argEnts xs (es.map .dat) ++ B)) st H
          have eo : ∀ a, a ∈ owns (σ.zip ρ ++ (argEnts xs (es.map .dat) ++ B)) → a ∈ owns (σ.zip ρ ++ B) := fun a ha => by
            rw [owns_app, owns_app] at ha
            rw [owns_app]
            rcases List.mem_append.mp ha with ha | ha
            · exact List.mem_append_left _ ha
            · rcases List.mem_append.mp ha with ha | ha
              · obtain ⟨y, hy, ey⟩ := mem_owns.mp ha
                have : ∀ (xs : List V) (es : List PyData) (y : Ent), y ∈ argEnts xs (es.map .dat) → ownP y = none := by
                  intro xs
                  induction xs with
                  | nil => intro es y hy; cases hy
                  | cons x xs ih =>
                    intro es y hy
                    cases es with
                    | nil => cases hy
                    | cons d es =>
                      rcases List.mem_cons.mp hy with rfl | hy
                      · rfl
                      · exact ih es y hy
                rw [this xs es y hy] at ey
                cases ey
              · exact List.mem_append_right _ ha
          exact h1.put rfl ⟨x, rfl, q.move fun a o n t e => ⟨fun z => n (z.elim .inl fun z => .inr (eo a z)), e⟩⟩
    refine go hh.cut (fun i v hv => ?_) qa.len
    obtain ⟨d, e, q⟩ := qa.getV hv
    refine ⟨d, e, q.move fun a o n t e => ⟨fun z => n (z.elim .inl fun z => .inr ?_), e⟩⟩
    refine owns_sub (fun x hx => ?_) a z
    exact (List.mem_append.mp hx).elim (List.mem_append_left _) fun z => List.mem_append_right _ (List.mem_cons_of_mem _ z)
/-- the list that a slot is, put beside as data (the fresh one as it is) -/
theorem walk_seq {K : PySem.W.Frag} {J : It} {E : List Ent} {ds : List PyData} {p : Addr} {Sq : Hp → List V → Prop} (hE : ∀ (A B : List Ent) (st : c.m.St) (H : Hp), Here c.m K c.H0 (A ++ (E ++ B)) st H → ∃ xs, Sq H xs ∧ DaAll (fun a => c.m.N a ∨ a ∈ owns (A ++ (E ++ B))) K H xs ds)
    (hs : ∀ i H, (∃ xs, Sq H xs ∧ xs.length ≤ i) → J.stop i H) (hg : ∀ i H, (∃ xs x, Sq H xs ∧ xs[i]? = some x) → J.go i H) (hy : ∀ i H x H', J.yld i H x H' → H' = H ∧ ∀ xs, Sq H xs → xs[i]? = some x) : WalkD K c J E ds := by
  intro A B st H h i
  obtain ⟨xs, hq, da⟩ := hE A B st H h
  refine ⟨fun hi => hs i H ⟨xs, hq, by rw [da.len]; exact hi⟩, fun d hd => ?_⟩
  obtain ⟨v, hv, qv⟩ := da.get hd
  refine ⟨hg i H ⟨xs, v, hq, hv⟩, fun x H' y => ?_⟩
  obtain ⟨rfl, y⟩ := hy i H x H' y
  have := y xs hq
  rw [hv] at this
  cases this
  exact h.put rfl ⟨v, rfl, qv⟩
theorem di_list {tg : Expr} {ki : List PyData → Env → c.m.St → Prop} (h : DE X c e ρ st fun s ρ1 st1 => (∃ ds, s = .dat (.list ds) ∧ ki ds ρ1 st1) ∨ ∃ p ds, s = .own p ds ∧ ki ds ρ1 st1) : DI X c tg e ρ st ki := by
  intro τ σ H R hh hl hk hx
  refine wi_of (pi_list pe_w) (h τ σ H _ hh hl (fun s ρ1 st1 v H1 h1 hh1 hl1 => ?_) hx)
  rcases h1 with ⟨ds, rfl, q⟩ | ⟨p, ds, rfl, q⟩
  · obtain ⟨v', e, z⟩ := hh1.dat (List.mem_append_right _ List.mem_cons_self)
    cases e
    cases z with
    | lst r qa =>
      refine ⟨_, rfl, ⟨_, r.sq⟩, hk ds ρ1 st1 _ [(some _, .dat (.list ds))] _ q (walk_seq (p := 0) (Sq := fun H xs => SqL X.K H _ xs) (fun A B st H hh => ?_) (fun i H z => z) (fun i H z => z) fun i H x H' z => z) hh1 hl1⟩
      obtain ⟨v'', e, z⟩ := hh.dat (List.mem_append_right _ List.mem_cons_self)
      cases e
      cases z with
      | lst r qa => exact ⟨_, r.sq, qa⟩
  · obtain ⟨e, xs, e2, qa⟩ := hh1.all _ (List.mem_append_right _ List.mem_cons_self)
    cases e
    refine ⟨_, rfl, ⟨_, .inl (.inl e2)⟩, hk ds ρ1 st1 _ [(some _, .own p ds)] _ q (walk_seq (p := 0) (Sq := fun H xs => SqL X.K H _ xs) (fun A B st H hh => ?_) (fun i H z => z) (fun i H z => z) fun i H x H' z => z) hh1 hl1⟩
    obtain ⟨e, xs, e2, qa⟩ := hh.all _ (List.mem_append_right _ List.mem_cons_self)
    exact ⟨xs, .inl (.inl e2), qa⟩
theorem di_tup {tg : Expr} {ki : List PyData → Env → c.m.St → Prop} (h : DE X c e ρ st fun s ρ1 st1 => ∃ ds, s = .dat (.tuple ds) ∧ ki ds ρ1 st1) : DI X c tg e ρ st ki := by
  intro τ σ H R hh hl hk hx
  refine wi_of (pi_tup pe_w) (h τ σ H _ hh hl (fun s ρ1 st1 v H1 h1 hh1 hl1 => ?_) hx)
  obtain ⟨ds, rfl, q⟩ := h1
  obtain ⟨v', e, z⟩ := hh1.dat (List.mem_append_right _ List.mem_cons_self)
  cases e
  cases z with
  | tup r qa =>
    refine ⟨_, rfl, ⟨_, r.sq⟩, hk ds ρ1 st1 _ [(some _, .dat (.tuple ds))] _ q (walk_seq (p := 0) (Sq := fun H xs => SqT X.K H _ xs) (fun A B st H hh => ?_) (fun i H z => z) (fun i H z => z) fun i H x H' z => z) hh1 hl1⟩
    obtain ⟨v'', e, z⟩ := hh.dat (List.mem_append_right _ List.mem_cons_self)
    cases e
    cases z with
    | tup r qa => exact ⟨_, r.sq, qa⟩
/-- the intsD lo, lo + 1, .. -/
def intsD (lo : Int) (n : Nat) : List PyData := (List.range n).map fun i => .int (lo + (i : Nat))
theorem ints_get {lo : Int} {n i : Nat} {d : PyData} (h : (intsD lo n)[i]? = some d) : i < n ∧ d = .int (lo + (i : Nat)) := by
  unfold intsD at h
  rw [List.getElem?_map] at h
  by_cases hi : i < n
  · rw [List.getElem?_range hi] at h
    exact ⟨hi, (Option.some.inj h).symm⟩
  · rw [List.getElem?_eq_none (by rw [List.length_range]; omega)] at h
    cases h
theorem ints_len {lo : Int} {n : Nat} : (intsD lo n).length = n := by
  unfold intsD
  rw [List.length_map, List.length_range]
theorem walk_ints {K : PySem.W.Frag} {lo : Int} {n : Nat} : WalkD K c (Itr lo n) [] (intsD lo n) := by
  intro A B st H h i
  refine ⟨fun hi => by rw [ints_len] at hi; exact hi, fun d hd => ?_⟩
  obtain ⟨hi, rfl⟩ := ints_get hd
  refine ⟨hi, fun x H' y => ?_⟩
  obtain ⟨rfl, rfl⟩ := y
  exact h.put rfl ⟨_, rfl, .int _⟩
theorem di_range1 {tg : Expr} {p : Pos} {ki : List PyData → Env → c.m.St → Prop} (hm : X.mg "range" = none) (h : DE X c a ρ st fun s ρ1 st1 => ∃ j : Int, s = .dat (.int j) ∧ -(2 ^ 62) ≤ j ∧ j < 2 ^ 62 ∧ ki (intsD 0 j.toNat) ρ1 st1) (hg : Gl X "range" := by rfl) (hs : starEach [a] X.env = [(false, eval a X.env)] := by rfl) (hs0 : starEach [a] X.env = (false, eval a X.env) :: starEach [] X.env := by rfl) :
    DI X c tg (.Call (.Name "range" p) [a] [] pos) ρ st ki := by
  intro τ σ H R hh hl hk hx
  refine wi_of (pi_range1 hg hm (pa_cons pe_w pa_nil hs0) hs) (h τ σ H _ hh hl (fun s ρ1 st1 v H1 h1 hh1 hl1 => ?_) hx)
  obtain ⟨j, rfl, q1, q2, q⟩ := h1
  have e : v = .int j := Option.some.inj (hh1.int1 (w := .int j) rfl)
  exact ⟨j, by rw [e], q1, q2, hk _ _ _ _ [] _ q walk_ints hh1.cut hl1⟩
theorem di_range2 {tg : Expr} {p : Pos} {ki : List PyData → Env → c.m.St → Prop} (hm : X.mg "range" = none) (h : DE X c a ρ st fun s ρ1 st1 => ∃ i : Int, s = .dat (.int i) ∧ DE X c b ρ1 st1 fun s ρ2 st2 => ∃ j : Int, s = .dat (.int j) ∧ (-(2 ^ 62) ≤ i ∧ i < 2 ^ 62 ∧ -(2 ^ 62) ≤ j ∧ j < 2 ^ 62) ∧ ki (intsD i (j - i).toNat) ρ2 st2) (hg : Gl X "range" := by rfl)
    (hs : starEach [a, b] X.env = [(false, eval a X.env), (false, eval b X.env)] := by rfl) (hs2 : starEach [b] X.env = [(false, eval b X.env)] := by rfl) (hs3 : starEach [a, b] X.env = (false, eval a X.env) :: starEach [b] X.env := by rfl) (hs4 : starEach [b] X.env = (false, eval b X.env) :: starEach [] X.env := by rfl) : DI X c tg (.Call (.Name "range" p) [a, b] [] pos) ρ st ki := by
  intro τ σ H R hh hl hk hx
  refine wi_of (pi_range2 hg hm (pa_cons pe_w (pa_cons pe_w pa_nil hs4) hs3) hs hs2) (h τ σ H _ hh hl (fun s ρ1 st1 v H1 h1 hh1 hl1 => ?_) hx)
  obtain ⟨i, rfl, h1⟩ := h1
  refine h1 _ σ H1 _ hh1 hl1 (fun s ρ2 st2 w H2 h2 hh2 hl2 => ?_) hx
  obtain ⟨j, rfl, qb, q⟩ := h2
  have e1 : v = .int i := Option.some.inj (hh2.int2 (w := .int i) rfl)
  have e2 : w = .int j := Option.some.inj (hh2.int1 (w := .int j) rfl)
  exact ⟨i, j, by rw [e1, e2], qb, hk _ _ _ _ [] _ q walk_ints hh2.cut.cut hl2⟩

/-! ### statements -/
variable {D : Dn c.m} {s : Stmt} {ss : List Stmt}
theorem db_nil (h : D.nx ρ st) : DB X c [] ρ st D := fun τ σ H De hh hl hk hx => wb_of pss_nil (hk.nx _ _ _ _ h hh hl)
theorem ContS.seq {K : PySem.W.Frag} {τ : List Ent} {De : Ends} {R : L2.St → Hp → Prop} {Rd : Env → c.m.St → Prop} (h : ContS c K τ D De) (q : ∀ ρ' st' σ' H', Rd ρ' st' → Here c.m K c.H0 (σ'.zip ρ' ++ τ) st' H' → σ'.length = ρ'.length → R σ' H') : ContS c K τ { D with nx := Rd } { De with nx := R } := ⟨q, h.bk, h.ct, h.rt⟩
theorem db_cons (h : DS X c s ρ st { D with nx := fun ρ1 st1 => DB X c ss ρ1 st1 D }) : DB X c (s :: ss) ρ st D := by
  intro τ σ H De hh hl hk hx
  refine wb_of (pss_cons ps_w pss_w) (h τ σ H { De with nx := WB X ss De } hh hl (hk.seq fun ρ1 st1 σ1 H1 h1 hh1 hl1 => ?_) hx)
  exact h1 τ σ1 H1 De hh1 hl1 hk hx
theorem db_one (h : DS X c s ρ st D) : DB X c [s] ρ st D := fun τ σ H De hh hl hk hx => wb_of (pss_one ps_w) (h τ σ H De hh hl hk hx)
theorem ds_pass (h : D.nx ρ st) : DS X c (.Pass pos) ρ st D := fun τ σ H De hh hl hk hx => ws_of ps_pass (hk.nx _ _ _ _ h hh hl)
theorem ds_break (h : D.bk ρ st) : DS X c (.Break pos) ρ st D := fun τ σ H De hh hl hk hx => ws_of ps_break (hk.bk _ _ _ _ h hh hl)
theorem ds_continue (h : D.ct ρ st) : DS X c (.Continue pos) ρ st D := fun τ σ H De hh hl hk hx => ws_of ps_continue (hk.ct _ _ _ _ h hh hl)
theorem ds_expr (h : DE X c e ρ st fun _ ρ1 st1 => D.nx ρ1 st1) (hs : swapsWith e none pos.line X.env = pure false := by rfl) : DS X c (.Expr e pos) ρ st D := by
  intro τ σ H De hh hl hk hx
  exact ws_of (ps_expr pe_w hs) (h τ σ H _ hh hl (fun s ρ1 st1 v H1 h1 hh1 hl1 => hk.nx _ _ _ _ h1 hh1.cut hl1) hx)
theorem ds_asg {i : Nat} {x : Str} {pos' : Pos} (hN : X.N.Nodup) (hi : X.N[i]? = some x) (hx : Loc X.env.scope x) (h : DE X c e ρ st fun s ρ1 st1 => D.nx (ρ1.set i s) st1) (hs : swapsWith e (some (.Name x pos')) pos.line X.env = pure false := by rfl) (hf : X.fn x = true ∨ X.env.scope.names.lookup x = some .local := by first | exact .inl rfl | exact .inr rfl | assumption) : DS X c (.Assign [.Name x pos'] e pos) ρ st D := by
  intro τ σ H De hh hl hk hxx
  exact ws_of (ps_set hN hi hx pe_w hs hf) (h τ σ H _ hh hl (fun s ρ1 st1 v H1 h1 hh1 hl1 => hk.nx _ _ _ _ h1 (hh1.store i) (len_set hl1)) hxx)
theorem ds_par {i j : Nat} {x y : Str} {px py pt : Pos} {kt k2 pt2} (hc : X.calm = true) (hN : X.N.Nodup) (hi : X.N[i]? = some x) (hj : X.N[j]? = some y) (hij : i ≠ j) (hx : X.env.scope.names.lookup x = some .local) (hy : X.env.scope.names.lookup y = some .local)
    (hw : swappedStores [.Tuple [.Name x px, .Name y py] kt pt] (.Tuple [a, b] k2 pt2) X.env = pure (some [x, y])) (h : DE X c a ρ st fun s1 ρ1 st1 => DE X c b ρ1 st1 fun s2 ρ2 st2 => D.nx ((ρ2.set i s1).set j s2) st2)
    (hs : swapsWithSole [.Tuple [.Name x px, .Name y py] kt pt] (.Tuple [a, b] k2 pt2) pos.line X.env = pure false := by rfl) (h1s : starEach [a, b] X.env = (false, eval a X.env) :: starEach [b] X.env := by rfl) (h2s : starEach [b] X.env = (false, eval b X.env) :: starEach [] X.env := by rfl) :
    DS X c (.Assign [.Tuple [.Name x px, .Name y py] kt pt] (.Tuple [a, b] k2 pt2) pos) ρ st D := by
  intro τ σ H De hh hl hk hxx
  refine ws_of (ps_par hc hN hi hj hij hx hy (pa_cons pe_w (pa_cons pe_w pa_nil h2s) h1s) hw hs) (h τ σ H _ hh hl (fun s1 ρ1 st1 v1 H1 h1 hh1 hl1 => ?_) hxx)
  refine h1 _ σ H1 _ hh1 hl1 (fun s2 ρ2 st2 v2 H2 h2 hh2 hl2 => ?_) hxx
  refine ⟨v1, v2, rfl, hk.nx _ _ _ _ h2 ?_ (len_set (len_set hl2))⟩
  have p : Here c.m X.K c.H0 (σ.zip ρ2 ++ (some v1, s1) :: (some v2, s2) :: τ) st2 H2 := hh2.perm (List.Perm.append_left _ (List.Perm.swap _ _ _))
  exact (p.store i).store j
theorem ds_if {ta tb : List Stmt} (h : DT X c t ρ st fun x ρ1 st1 => (x = true → DB X c ta ρ1 st1 D) ∧ (x = false → DB X c tb ρ1 st1 D)) : DS X c (.If t ta tb pos) ρ st D := by
  intro τ σ H De hh hl hk hx
  refine ws_of (ps_if pt_w pss_w pss_w) (h τ σ H _ hh hl (fun x ρ1 st1 H1 h1 hh1 hl1 => ?_) hx)
  cases x with
  | true => exact iteT (h1.1 rfl τ σ H1 De hh1 hl1 hk hx)
  | false => exact iteF (h1.2 rfl τ σ H1 De hh1 hl1 hk hx)
/-- what a value may be handed back as -/
inductive Gives (ρ : Env) : Slot → Slot → Prop
  | any (s : Slot) : Gives ρ s .any
  | dat (d : PyData) : Gives ρ (.dat d) (.dat d)
  | raw (v : V) : Gives ρ (.raw v) (.raw v)
  | obj (φ : Addr → HO) : Gives ρ (.obj φ) (.obj φ)
  | lst (p : Addr) (ds : List PyData) : Gives ρ (.own p ds) (.dat (.list ds))
  | own (p : Addr) (ds : List PyData) : Gives ρ (.own p ds) (.own p ds)
  | vlst (p : Addr) (ds : List PyData) (i : Nat) (h : ρ[i]? = some (.own p ds)) : Gives ρ (.raw (.ref p)) (.dat (.list ds))
  | vown (p : Addr) (ds : List PyData) (i : Nat) (h : ρ[i]? = some (.own p ds)) : Gives ρ (.raw (.ref p)) (.own p ds)
theorem gives_back {m : Mem} {K : PySem.W.Frag} {H0 H : Hp} {σ : L2.St} {ρ : Env} {τ : List Ent} {st : m.St} {v : V} {s s' : Slot} (h : Here m K H0 (σ.zip ρ ++ (some v, s) :: τ) st H) (hl : σ.length = ρ.length) (g : Gives ρ s s') : Back m K H0 H v s' := by
  have hm : (some v, s) ∈ σ.zip ρ ++ (some v, s) :: τ := List.mem_append_right _ List.mem_cons_self
  have own : ∀ {o : Option V} {p : Addr} {ds : List PyData}, (o, Slot.own p ds) ∈ σ.zip ρ ++ (some v, s) :: τ → o = some (.ref p) ∧ Back m K H0 H (.ref p) (.own p ds) := fun {o p ds} he => by
    obtain ⟨e, xs, e2, q⟩ := h.all _ he
    have hp := mem_owns.mpr ⟨_, he, rfl⟩
    refine ⟨e, rfl, (h.fr p hp).2, (h.fr p hp).1, xs, e2, q.move fun a o n t e => ⟨fun z => n (z.elim .inl fun z => .inr (by rw [z]; exact hp)), e⟩⟩
  have lst : ∀ {p : Addr} {ds : List PyData}, Back m K H0 H (.ref p) (.own p ds) → Back m K H0 H (.ref p) (.dat (.list ds)) := fun {p ds} b => by
    obtain ⟨_, _, n, xs, e2, q⟩ := b
    exact .lst (.inl ⟨n, .inl e2⟩) (q.move fun a o n t e => ⟨fun z => n (.inl z), e⟩)
  cases g with
  | any => trivial
  | dat d =>
    obtain ⟨v', e, q⟩ := h.dat hm
    cases e
    exact q.move fun a o n t e => ⟨fun z => n (.inl z), e⟩
  | raw w => exact Option.some.inj (h.all _ hm)
  | obj φ =>
    obtain ⟨a, e, n, t, q⟩ := h.all _ hm
    exact ⟨a, Option.some.inj e, fun z => n (.inl z), t, q⟩
  | lst p ds =>
    obtain ⟨e, b⟩ := own hm
    cases e
    exact lst b
  | own p ds =>
    obtain ⟨e, b⟩ := own hm
    cases e
    exact b
  | vlst p ds i hi =>
    have e : some v = some (V.ref p) := h.all _ hm
    cases e
    obtain ⟨o, _, e2, _⟩ := zip_get hl hi
    exact lst (own (List.mem_append_left _ e2)).2
  | vown p ds i hi =>
    have e : some v = some (V.ref p) := h.all _ hm
    cases e
    obtain ⟨o, _, e2, _⟩ := zip_get hl hi
    exact (own (List.mem_append_left _ e2)).2
theorem ds_ret (h : DE X c e ρ st fun s ρ1 st1 => ∃ s', Gives ρ1 s s' ∧ D.rt s' st1) : DS X c (.Return (some e) pos) ρ st D := by
  intro τ σ H De hh hl hk hx
  refine ws_of (ps_ret pe_w) (h τ σ H _ hh hl (fun s ρ1 st1 v H1 h1 hh1 hl1 => ?_) hx)
  obtain ⟨s', g, q⟩ := h1
  exact hk.rt _ _ _ _ q hh1.ok hh1.kp (gives_back hh1 hl1 g)
theorem ds_retN (h : D.rt (.dat .none) st) : DS X c (.Return none pos) ρ st D := fun τ σ H De hh hl hk hx => ws_of ps_retN (hk.rt _ _ _ _ h hh.ok hh.kp (show Da c.m.N X.K H .non .none from .non))
theorem ds_raise {C : Addr} {bmB : List Value} {B newId initId : String} {x m : Str} {j : Nat} {p p2 pos2 : Pos} (F : ExcBaseFacts B newId initId bmB) (q : PySem.W.excIn X.K C bmB newId = true) (gC : X.mg x = some (.ref C)) (kC : PySem.W.keepIn X.K (.ref C) = true) (r : Raises X (.ref C)) (hc : X.calm = true) (tk : Takes X c.W)
    (h : c.xk ⟨.ref C, []⟩ st) (hg : Gl X x := by rfl) (hdb : (x == ("__debug__" : Str)) = false := by decide) : DS X c (.Raise (some (.Call (.Name x p) [.Constant (.str m) j p2] [] pos2)) none pos) ρ st D := by
  intro τ σ H De hh hl hk hx
  exact ws_of (ps_raise hc tk (pmk_own F q gC kC r hg hdb)) (hx _ _ _ _ _ h hh.ok hh.kp (.inl ⟨rfl, rfl⟩))

/-! ### loops -/
theorem ds_for {tg iter : Expr} {body : List Stmt} (hp : PassesOwn (model X.prog X.w) X.A X.env X.xe) (hc : X.calm = true)
    (h : DI X c tg iter ρ st fun ds ρ1 st1 => ∃ Iv : Nat → Env → c.m.St → Prop, Iv 0 ρ1 st1 ∧ (∀ i d ρ2 st2, ds[i]? = some d → Iv i ρ2 st2 → DG X c tg d ρ2 st2 fun ρ3 st3 => DB X c body ρ3 st3 { D with nx := Iv (i + 1), ct := Iv (i + 1), bk := D.nx }) ∧ ∀ ρ2 st2, Iv ds.length ρ2 st2 → D.nx ρ2 st2)
    (hs : ∀ x, foldedSetIterable iter X.env x = pure x := by intro _; rfl) : DS X c (.For tg iter body [] pos) ρ st D := by
  intro τ σ H De hh hl hk hx
  refine ws_of (ps_for hp hc pi_w pg_w pss_w hs) (h τ σ H _ hh hl (fun ds ρ1 st1 J E H1 h1 wd hh1 hl1 => ?_) hx)
  obtain ⟨Iv, i0, turn, fin⟩ := h1
  refine ⟨fun i m σ' H' => m = ds.length - i ∧ i ≤ ds.length ∧ ∃ ρ' st', Iv i ρ' st' ∧ Here c.m X.K c.H0 (σ'.zip ρ' ++ (E ++ τ)) st' H' ∧ σ'.length = ρ'.length, ⟨ds.length, by omega, Nat.zero_le _, ρ1, st1, i0, hh1, hl1⟩, ?_⟩
  rintro i m σ' H' ⟨rfl, hi, ρ', st', iv, hh', hl'⟩
  obtain ⟨w1, w2⟩ := wd _ _ _ _ hh' i
  by_cases hlt : i < ds.length
  · have hd : ds[i]? = some ds[i] := List.getElem?_eq_getElem hlt
    obtain ⟨g1, g2⟩ := w2 _ hd
    refine .inr ⟨g1, fun σ2 H2 => ∃ ρ2 st2, Iv (i + 1) ρ2 st2 ∧ Here c.m X.K c.H0 (σ2.zip ρ2 ++ (E ++ τ)) st2 H2 ∧ σ2.length = ρ2.length, fun σ2 H2 ⟨ρ2, st2, q1, q2, q3⟩ => ⟨ds.length - (i + 1), by omega, rfl, hlt, ρ2, st2, q1, q2, q3⟩, fun x H2 y => ?_⟩
    have hy := g2 x H2 y
    refine turn i _ ρ' st' hd iv (E ++ τ) σ' H2 _ x hy hl' (fun ρ3 st3 σ3 H3 h3 hh3 hl3 => ?_)
    refine h3 (E ++ τ) σ3 H3 _ hh3 hl3 ⟨fun ρ4 st4 σ4 H4 q1 q2 q3 => ⟨ρ4, st4, q1, q2, q3⟩, fun ρ4 st4 σ4 H4 q1 q2 q3 => hk.nx _ _ _ _ q1 q2.cutA q3, fun ρ4 st4 σ4 H4 q1 q2 q3 => ⟨ρ4, st4, q1, q2, q3⟩, hk.rt⟩ hx
  · have e : i = ds.length := by omega
    subst e
    exact .inl ⟨w1 (Nat.le_refl _), hk.nx _ _ _ _ (fin _ _ iv) hh'.cutA hl'⟩
theorem ds_while {body : List Stmt} (hp : PassesOwn (model X.prog X.w) X.A X.env X.xe) (Iv : Nat → Env → c.m.St → Prop) (n0 : Nat) (h0 : Iv n0 ρ st)
    (h : ∀ n ρ1 st1, Iv n ρ1 st1 → DT X c t ρ1 st1 fun x ρ2 st2 => (x = true → DB X c body ρ2 st2 { D with nx := fun ρ3 st3 => ∃ n', n' < n ∧ Iv n' ρ3 st3, ct := fun ρ3 st3 => ∃ n', n' < n ∧ Iv n' ρ3 st3, bk := D.nx }) ∧ (x = false → D.nx ρ2 st2)) : DS X c (.While t body [] pos) ρ st D := by
  intro τ σ H De hh hl hk hx
  refine ws_of (ps_while hp pt_w pss_w) ⟨fun n σ' H' => ∃ ρ' st', Iv n ρ' st' ∧ Here c.m X.K c.H0 (σ'.zip ρ' ++ τ) st' H' ∧ σ'.length = ρ'.length, ⟨n0, ρ, st, h0, hh, hl⟩, ?_⟩
  rintro n σ' H' ⟨ρ', st', iv, hh', hl'⟩
  refine h n ρ' st' iv τ σ' H' _ hh' hl' (fun x ρ2 st2 H2 h2 hh2 hl2 => ?_) hx
  cases x with
  | true =>
    refine iteT ⟨fun σ3 H3 => ∃ n', n' < n ∧ ∃ ρ3 st3, Iv n' ρ3 st3 ∧ Here c.m X.K c.H0 (σ3.zip ρ3 ++ τ) st3 H3 ∧ σ3.length = ρ3.length, fun σ3 H3 ⟨n', q1, q2⟩ => ⟨n', q1, q2⟩, ?_⟩
    refine h2.1 rfl τ σ' H2 _ hh2 hl2 ⟨fun ρ4 st4 σ4 H4 ⟨n', q0, q1⟩ q2 q3 => ⟨n', q0, ρ4, st4, q1, q2, q3⟩, fun ρ4 st4 σ4 H4 q1 q2 q3 => hk.nx _ _ _ _ q1 q2 q3, fun ρ4 st4 σ4 H4 ⟨n', q0, q1⟩ q2 q3 => ⟨n', q0, ρ4, st4, q1, q2, q3⟩, hk.rt⟩ hx
  | false => exact iteF (hk.nx _ _ _ _ (h2.2 rfl) hh2 hl2)
end

/-! ### a def keeps its promise -/
/-- the slots at the entry -/
def startD (N : List Str) (ss : List Slot) : Env := ss ++ List.replicate (N.length - ss.length) .any
theorem zip_start {N : List Str} : ∀ {vs : List V} {ss : List Slot} {n : Nat}, vs.length = ss.length → (vs.map some ++ List.replicate n none).zip (ss ++ List.replicate n Slot.any) = argEnts vs ss ++ List.replicate n (none, Slot.any)
  | [], [], n, _ => by
    show (List.replicate n none).zip (List.replicate n Slot.any) = List.replicate n (none, Slot.any)
    rw [List.zip_replicate']
  | v :: vs, s :: ss, n, h => by
    show (some v, s) :: ((vs.map some ++ List.replicate n none).zip (ss ++ List.replicate n Slot.any)) = (some v, s) :: (argEnts vs ss ++ List.replicate n (none, Slot.any))
    rw [zip_start (N := N) (by simpa using h)]
theorem fn_ok {P : Program} {w : World} {K : PySem.W.Frag} {mg : Str → Option Value} {base : Heap} {x qual : Str} {st : Stmt} {f : Addr} {fd : FuncData} {N ps : List Str} {kk : Nat} {F : Pd} (Fn : L2.Fun K x qual st f fd) (S : FnScope N ps (defScope st))
    (len : ∀ m ss s k xk, F m ss s k xk → ss.length = ps.length)
    (body : ∀ (X : Cx) (c : Cz), (∃ cdv A outer s H E, X = cxOf (L2.CX P w) P w K mg base N qual (defScope st) f cdv A outer s H E) → Room kk X.A → Takes X c.W → PassesOwn (model X.prog X.w) X.A X.env X.xe → ∀ ss s k, F c.m ss s k c.xk → DB X c (defBody st) (startD N ss) s ⟨fun _ s' => k (.dat .none) s', k, fun _ _ => False, fun _ _ => False⟩) :
    FnOk P w K mg base (L2.CX P w) (kk + 1) f fd ps (spD K F) := by
  refine Fn.okX S (fun vs H Q E h => ?_) fun cdv A outer s H vs Q E hr h => ?_
  · obtain ⟨m, ss, s, k, xk, _, hl, _, hF, _⟩ := h
    rw [hl]
    exact len _ _ _ _ _ hF
  · obtain ⟨m, ss, s0, k, xk, hok, hl, hargs, hF, hq, hE⟩ := h
    refine ⟨WB _ (defBody st), pss_w, ?_⟩
    have hlN : ss.length ≤ N.length := by
      rw [len _ _ _ _ _ hF]
      have := congrArg List.length S.pre
      rw [List.length_take] at this
      omega
    have e0 : (L2.start N vs).zip (startD N ss) = argEnts vs ss ++ List.replicate (N.length - ss.length) (none, Slot.any) := by
      unfold L2.start startD
      rw [hl]
      exact zip_start (N := N) hl
    have own0 : owns ((L2.start N vs).zip (startD N ss) ++ []) = [] := by
      rw [List.append_nil, e0]
      have : ∀ p, p ∉ owns (argEnts vs ss ++ List.replicate (N.length - ss.length) (none, Slot.any)) := fun p hp => by
        obtain ⟨y, hy, ey⟩ := mem_owns.mp hp
        rcases List.mem_append.mp hy with hy | hy
        · rw [(hargs y hy).2] at ey
          cases ey
        · rw [List.eq_of_mem_replicate hy] at ey
          cases ey
      cases e : owns (argEnts vs ss ++ List.replicate (N.length - ss.length) (none, Slot.any)) with
      | nil => rfl
      | cons p r => exact absurd (by rw [e]; exact List.mem_cons_self) (this p)
    refine body _ ⟨fun cls d _ H' => E cls d H', m, H, xk⟩ ⟨cdv, A, outer, s, H, E, rfl⟩ hr (takes_of rfl rfl rfl rfl) (passes_of rfl) ss s0 k hF [] (L2.start N vs) H _ ⟨hok, Kp.refl _ _, by rw [own0]; exact List.nodup_nil, by rw [own0]; exact fun p hp => (nomatch hp), ?_⟩ ?_ ⟨fun ρ' st' σ' H' h1 hh hl => ?_, fun _ _ _ _ h => h.elim, fun _ _ _ _ h => h.elim, fun s' st' v H' h1 ok kp b => hq _ _ _ _ h1 ok kp b⟩ ?_
    · rw [own0, List.append_nil, e0]
      intro y hy
      rcases List.mem_append.mp hy with hy | hy
      · exact (hargs y hy).1.move (fun a o n t e => ⟨fun z => z.elim n fun z => (nomatch z), e⟩) fun _ _ _ _ q => q
      · rw [List.eq_of_mem_replicate hy]
        trivial
    · unfold L2.start startD
      rw [List.length_append, List.length_append, List.length_map, List.length_replicate, List.length_replicate, hl]
    · exact hq _ _ _ _ h1 hh.ok hh.kp (show Da m.N K H' .non .none from .non)
    · exact fun ex st' d σ' H' h1 ok kp xa => hE _ _ _ _ h1 ok kp xa
end DL

namespace DL
open PySem PySem.Spec PyProof.Rows L2

/-! ### list comprehensions with one name -/
abbrev Bk (X : Cx) (scope : Scope) (s : Shared) (H : Hp) (C : Addr) (cl : List (Str × Addr)) (fp : List Addr) : Cx := X.blk s H scope (compEnvC scope cl C X.env) fp
def UE (X : Cx) (scope : Scope) (e : Expr) : TE := fun σ H Q => ∀ s H0 C cl fp, WE (Bk X scope s H0 C cl fp) e σ H Q
def UT (X : Cx) (scope : Scope) (e : Expr) : TT := fun σ H Q => ∀ s H0 C cl fp, WT (Bk X scope s H0 C cl fp) e σ H Q
def Cz.blk (c : Cz) : Cz := ⟨fun _ _ _ _ => False, c.m, c.H0, fun _ _ => False⟩
theorem contX_blk {c : Cz} {K : PySem.W.Frag} : ContX c.blk K := fun _ _ _ _ _ h => h.elim
def DEb (X : Cx) (scope : Scope) (c : Cz) (e : Expr) (ρ : Env) (st : c.m.St) (k : Slot → Env → c.m.St → Prop) : Prop := ∀ s H0 C cl fp, DE (Bk X scope s H0 C cl fp) c.blk e ρ st k
def DTb (X : Cx) (scope : Scope) (c : Cz) (ifs : List Expr) (ρ : Env) (st : c.m.St) (k : Bool → Env → c.m.St → Prop) : Prop := match ifs with
  | [] => k true ρ st
  | [t] => ∀ s H0 C cl fp, DT (Bk X scope s H0 C cl fp) c.blk t ρ st k
  | _ => False
def ttOf (X : Cx) (scope : Scope) (ifs : List Expr) : TT := match ifs with
  | [] => tYes
  | [t] => UT X scope t
  | _ => fun _ _ _ => False
theorem pts_of {X : Cx} {scope : Scope} : ∀ (ifs : List Expr), (∀ (s : Shared) (H : Hp) (C : Addr) (cl : List (Str × Addr)) (fp : List Addr), PTs (Bk X scope s H C cl fp) ifs (ttOf X scope ifs))
  | [], _, _, _, _, _ => pts_nil
  | [t], s, H, C, cl, fp => pts_one ⟨fun pins s' σ H' Q I h => h s H C cl fp pins s' I⟩
  | _ :: _ :: _, _, _, _, _, _ => ⟨fun _ _ _ _ _ _ h => h.elim⟩
section
variable {m : Mem} {K : PySem.W.Frag} {H0 H : Hp} {st : m.St} {τ : List Ent}
theorem Here.forget' {P : List Ent} : ∀ {L : List Ent} {i : Nat} {o : Option V}, Here m K H0 (P ++ (L ++ τ)) st H → Here m K H0 (P ++ (L.set i (o, .any) ++ τ)) st H
  | [], _, _, h => h
  | e :: L, 0, o, h => by
    have h' : Here m K H0 (P ++ e :: (L ++ τ)) st H := h
    exact (h'.cut).put (e := (o, .any)) rfl trivial
  | e :: L, i + 1, o, h => by
    have h' : Here m K H0 ((P ++ [e]) ++ (L ++ τ)) st H := by rw [List.append_assoc]; exact h
    have q := Here.forget' (i := i) (o := o) h'
    rw [List.append_assoc] at q
    exact q
theorem set_self : ∀ (σ : L2.St) (i : Nat), σ.set i ((σ[i]?).getD none) = σ
  | [], _ => rfl
  | _ :: _, 0 => rfl
  | x :: σ, i + 1 => by
    show x :: σ.set i ((σ[i]?).getD none) = x :: σ
    rw [set_self σ i]
theorem Here.forget {σ : L2.St} {ρ : Env} (h : Here m K H0 (σ.zip ρ ++ τ) st H) (i : Nat) : Here m K H0 (σ.zip (ρ.set i .any) ++ τ) st H := by
  have e : σ.zip (ρ.set i .any) = (σ.zip ρ).set i ((σ[i]?).getD none, .any) := by
    rw [← zip_set, set_self]
  rw [e]
  exact Here.forget' (P := []) h
theorem owns_zip : ∀ {σ σ' : L2.St} {ρ : Env}, σ.length = σ'.length → owns (σ.zip ρ) = owns (σ'.zip ρ)
  | [], [], _, _ => rfl
  | _ :: _, _ :: _, [], _ => rfl
  | a :: σ, b :: σ', s :: ρ, h => by
    show owns ((a, s) :: σ.zip ρ) = owns ((b, s) :: σ'.zip ρ)
    rw [owns_cons, owns_cons, owns_zip (by simpa using h)]
    rfl
theorem zip_any : ∀ {σ σ' : L2.St} {ρ : Env} {e : Ent}, σ.length = σ'.length → (∀ (i : Nat) (s : Slot), ρ[i]? = some s → s ≠ .any → σ[i]? = σ'[i]?) → e ∈ σ'.zip ρ → e ∈ σ.zip ρ ∨ e.2 = .any
  | [], [], _, _, _, _, h => .inl h
  | _ :: _, _ :: _, [], _, _, _, h => by cases h
  | a :: σ, b :: σ', s :: ρ, e, hl, hq, h => by
    rcases List.mem_cons.mp (show e ∈ (b, s) :: σ'.zip ρ from h) with rfl | h
    · by_cases hs : s = .any
      · exact .inr hs
      · have := hq 0 s rfl hs
        have : a = b := Option.some.inj this
        subst this
        exact .inl List.mem_cons_self
    · rcases zip_any (σ := σ) (σ' := σ') (ρ := ρ) (by simpa using hl) (fun i s' e1 e2 => hq (i + 1) s' e1 e2) h with z | z
      · exact .inl (List.mem_cons_of_mem _ z)
      · exact .inr z
/-- the slots that nothing is known of may hold what they will -/
theorem Here.swap {σ σ' : L2.St} {ρ : Env} (h : Here m K H0 (σ.zip ρ ++ τ) st H) (hl : σ.length = σ'.length) (hq : ∀ (i : Nat) (s : Slot), ρ[i]? = some s → s ≠ .any → σ[i]? = σ'[i]?) : Here m K H0 (σ'.zip ρ ++ τ) st H := by
  have eo : owns (σ'.zip ρ ++ τ) = owns (σ.zip ρ ++ τ) := by rw [owns_app, owns_app, owns_zip hl]
  refine ⟨h.ok, h.kp, by rw [eo]; exact h.nd, by rw [eo]; exact h.fr, ?_⟩
  rw [eo]
  intro e he
  rcases List.mem_append.mp he with he | he
  · rcases zip_any hl hq he with z | z
    · exact h.all e (List.mem_append_left _ z)
    · obtain ⟨o, s⟩ := e
      have : s = .any := z
      subst this
      trivial
  · exact h.all e (List.mem_append_right _ he)
theorem swap_set {σ : L2.St} {ρ : Env} {j : Nat} {o : Option V} (h : Here m K H0 (σ.zip (ρ.set j .any) ++ τ) st H) : Here m K H0 ((σ.set j o).zip (ρ.set j .any) ++ τ) st H := by
  refine h.swap (by rw [List.length_set]) fun i s e ne => ?_
  by_cases hij : j = i
  · subst hij
    rw [List.getElem?_set] at e
    split at e
    · split at e
      · exact absurd (Option.some.inj e).symm ne
      · cases e
    · exact absurd rfl (by assumption)
  · rw [List.getElem?_set_ne hij]
theorem swap_unset {σ : L2.St} {ρ : Env} {j : Nat} {o : Option V} (h : Here m K H0 ((σ.set j o).zip (ρ.set j .any) ++ τ) st H) : Here m K H0 (σ.zip (ρ.set j .any) ++ τ) st H := by
  refine h.swap (by rw [List.length_set]) fun i s e ne => ?_
  by_cases hij : j = i
  · subst hij
    rw [List.getElem?_set] at e
    split at e
    · split at e
      · exact absurd (Option.some.inj e).symm ne
      · cases e
    · exact absurd rfl (by assumption)
  · rw [List.getElem?_set_ne hij]
end
section
variable {X : Cx} {c : Cz} {ρ : Env} {st : c.m.St} {k : Slot → Env → c.m.St → Prop} {elt iter : Expr} {ifs : List Expr} {scope : Scope} {j : Nat} {x : Str} {xp : Pos}
/-- what a turn of a comprehension asks -/
def LcT (X : Cx) (c : Cz) (scope : Scope) (j : Nat) (elt : Expr) (ifs : List Expr) (ρ1 : Env) (st1 : c.m.St) (ds : List PyData) (k : Slot → Env → c.m.St → Prop) : Prop :=
  ∃ Iv : Nat → List PyData → c.m.St → Prop, Iv 0 [] st1 ∧ (∀ i d acc st2, ds[i]? = some d → Iv i acc st2 → acc.length < 16000000 ∧ DTb X scope c ifs (ρ1.set j (.dat d)) st2 fun b ρ3 st3 => (b = true → DEb X scope c elt ρ3 st3 fun s ρ4 st4 => ∃ d', AllD [s] [d'] ∧ ρ4.set j .any = ρ1.set j .any ∧ Iv (i + 1) (acc ++ [d']) st4) ∧ (b = false → ρ3.set j .any = ρ1.set j .any ∧ Iv (i + 1) acc st3)) ∧
    ∀ acc st2, Iv ds.length acc st2 → ∀ p, k (.own p acc) (ρ1.set j .any) st2
/-- the list that grows, while the walked one is known -/
theorem lc_core {τ E : List Ent} {σ : L2.St} {H H1 : Hp} {J : It} {Q : VK} {ρ1 : Env} {st1 : c.m.St} {ds : List PyData} (hh1 : Here c.m X.K c.H0 (σ.zip ρ1 ++ (E ++ τ)) st1 H1) (hl1 : σ.length = ρ1.length) (hk : Cont c X.K σ τ k Q) (h1 : LcT X c scope j elt ifs ρ1 st1 ds k)
    (wd : ∀ (D : Addr) (acc : List PyData) (st : c.m.St) (H : Hp), Here c.m X.K c.H0 ((σ.zip (ρ1.set j .any) ++ [(some (.ref D), .own D acc)]) ++ (E ++ τ)) st H → ∀ i : Nat, (ds.length ≤ i → J.stop i H) ∧ ∀ d, ds[i]? = some d → J.go i H ∧ ∀ x H', J.yld i H x H' → Here c.m X.K c.H0 ((σ.zip (ρ1.set j .any) ++ [(some (.ref D), .own D acc)]) ++ (some x, .dat d) :: (E ++ τ)) st H') (fin' : ∀ (D : Addr) (acc : List PyData) (st' : c.m.St) (H' : Hp), Here c.m X.K c.H0 ((σ.zip (ρ1.set j .any) ++ [(some (.ref D), .own D acc)]) ++ (E ++ τ)) st' H' → Here c.m X.K c.H0 (σ.zip (ρ1.set j .any) ++ (some (.ref D), .own D acc) :: τ) st' H') :
    tLc (fun _ _ R => R J H1) (gName j) (ttOf X scope ifs) (UE X scope elt) [j] σ H Q := by
  obtain ⟨Iv, i0, turn, fin⟩ := h1
  intro D hD
  have hw := hh1.forget j
  have ll : σ.length = (ρ1.set j .any).length := by rw [List.length_set]; exact hl1
  refine ⟨fun i n H' => n = ds.length - i ∧ i ≤ ds.length ∧ ∃ acc st', Iv i acc st' ∧ Here c.m X.K c.H0 (σ.zip (ρ1.set j .any) ++ (some (.ref D), .own D acc) :: (E ++ τ)) st' H', ⟨ds.length, by omega, Nat.zero_le _, [], st1, i0, hw.allocOwn hD .nil⟩, ?_⟩
  rintro i n H' ⟨rfl, hi, acc, st', iv, hh'⟩
  have hE : Here c.m X.K c.H0 ((σ.zip (ρ1.set j .any) ++ [(some (.ref D), .own D acc)]) ++ (E ++ τ)) st' H' := by rw [List.append_assoc]; exact hh'
  obtain ⟨w1, w2⟩ := wd D acc st' H' hE i
  by_cases hlt : i < ds.length
  · have hd : ds[i]? = some ds[i] := List.getElem?_eq_getElem hlt
    obtain ⟨g1, g2⟩ := w2 _ hd
    obtain ⟨hz, tq⟩ := turn i _ acc st' hd iv
    refine .inr ⟨g1, fun H2 => ∃ acc2 st2, Iv (i + 1) acc2 st2 ∧ Here c.m X.K c.H0 (σ.zip (ρ1.set j .any) ++ (some (.ref D), .own D acc2) :: (E ++ τ)) st2 H2, fun H2 ⟨acc2, st2, q1, q2⟩ => ⟨ds.length - (i + 1), by omega, rfl, hlt, acc2, st2, q1, q2⟩, fun v H2 y => ?_⟩
    have hy := g2 v H2 y
    rw [List.append_assoc] at hy
    have hy1 : Here c.m X.K c.H0 (σ.zip (ρ1.set j .any) ++ (some v, .dat ds[i]) :: (some (.ref D), .own D acc) :: (E ++ τ)) st' H2 := hy.perm (List.Perm.append_left _ (List.Perm.swap _ _ _))
    have hy2 := hy1.store j
    show wipe ((wipe σ [j]).set j (some v)) [j] = wipe σ [j] ∧ _
    refine ⟨by show ((σ.set j none).set j (some v)).set j none = σ.set j none; rw [List.set_set, List.set_set], ?_⟩
    have e1 : (wipe σ [j]).set j (some v) = σ.set j (some v) := by show (σ.set j none).set j (some v) = _; rw [List.set_set]
    rw [e1]
    have e2 : (ρ1.set j .any).set j (.dat ds[i]) = ρ1.set j (.dat ds[i]) := by rw [List.set_set]
    rw [e2] at hy2
    have l2 : (σ.set j (some v)).length = (ρ1.set j (.dat ds[i])).length := by rw [List.length_set, List.length_set]; exact hl1
    -- behind the test
    have after : ∀ {b : Bool} {ρ3 : Env} {st3 : c.m.St} {H3 : Hp}, ((b = true → DEb X scope c elt ρ3 st3 fun s ρ4 st4 => ∃ d', AllD [s] [d'] ∧ ρ4.set j .any = ρ1.set j .any ∧ Iv (i + 1) (acc ++ [d']) st4) ∧ (b = false → ρ3.set j .any = ρ1.set j .any ∧ Iv (i + 1) acc st3)) →
        Here c.m X.K c.H0 ((σ.set j (some v)).zip ρ3 ++ (some (.ref D), .own D acc) :: (E ++ τ)) st3 H3 → (σ.set j (some v)).length = ρ3.length →
        (if b = true then UE X scope elt (σ.set j (some v)) H3 fun y H4 => ∃ acc, H4 D = some (.lst acc) ∧ acc.length < sizeLine ∧ (fun H2 => ∃ acc2 st2, Iv (i + 1) acc2 st2 ∧ Here c.m X.K c.H0 (σ.zip (ρ1.set j .any) ++ (some (.ref D), .own D acc2) :: (E ++ τ)) st2 H2) (upd H4 D (.lst (acc ++ [y])))
          else (fun H2 => ∃ acc2 st2, Iv (i + 1) acc2 st2 ∧ Here c.m X.K c.H0 (σ.zip (ρ1.set j .any) ++ (some (.ref D), .own D acc2) :: (E ++ τ)) st2 H2) H3) := by
      intro b ρ3 st3 H3 hq hh3 hl3
      cases b with
      | true =>
        refine iteT fun s0 H00 C cl fp => hq.1 rfl s0 H00 C cl fp _ _ H3 _ hh3 hl3 (fun s ρ4 st4 y H4 h4 hh4 hl4 => ?_) contX_blk
        obtain ⟨d', ad, e4, iv4⟩ := h4
        have da := allD_da (vs := [y]) (A := (σ.set j (some v)).zip ρ4) ad rfl hh4
        have h5 : Here c.m X.K c.H0 ((σ.set j (some v)).zip ρ4 ++ (some (.ref D), .own D acc) :: (E ++ τ)) st4 H4 := Here.cut hh4
        obtain ⟨_, xs, eD, qD⟩ := h5.all _ (List.mem_append_right _ List.mem_cons_self)
        refine ⟨xs, eD, Nat.lt_of_lt_of_le (by rw [qD.len]; exact hz) (show 16000000 ≤ sizeLine by decide), acc ++ [d'], st4, iv4, ?_⟩
        have h6 := h5.write (ys := xs ++ [y]) (qD.app da)
        have h7 := h6.forget j
        rw [e4] at h7
        exact swap_unset h7
      | false =>
        obtain ⟨e3, iv3⟩ := hq.2 rfl
        refine iteF ⟨acc, st3, iv3, ?_⟩
        have h7 := hh3.forget j
        rw [e3] at h7
        exact swap_unset h7
    match ifs, tq with
    | [], tq => exact after tq hy2 l2
    | [t], tq => exact fun s0 H00 C cl fp => tq s0 H00 C cl fp _ _ H2 _ hy2 l2 (fun b ρ3 st3 H3 h3 hh3 hl3 => after h3 hh3 hl3) contX_blk
    | _ :: _ :: _, tq => exact tq.elim
  · have e : i = ds.length := by omega
    subst e
    exact .inl ⟨w1 (Nat.le_refl _), hk _ _ _ _ _ (fin _ _ iv D) (fin' D acc st' H' hE) ll⟩
theorem lc_read {τ : List Ent} {σ : L2.St} {H : Hp} {Q : VK} (hh : Here c.m X.K c.H0 (σ.zip ρ ++ τ) st H) (hl : σ.length = ρ.length) (hk : Cont c X.K σ τ k Q) (hx : ContX c X.K)
    (h : DI X c (.Name x xp) iter ρ st fun ds ρ1 st1 => LcT X c scope j elt ifs ρ1 st1 ds k) : tLc (WI X (.Name x xp) iter) (gName j) (ttOf X scope ifs) (UE X scope elt) [j] σ H Q := by
  refine h τ σ H _ hh hl (fun ds ρ1 st1 J E H1 h1 wd hh1 hl1 => ?_) hx
  exact lc_core (H := H) hh1 hl1 hk h1 (fun D acc st H h i => wd _ _ st H h i) fun D acc st' H' hE => by
    have h10 := hE.cutA
    rw [List.append_assoc] at h10
    exact h10
theorem de_lc {pos : Pos} (hc : X.calm = true) (hN : X.N.Nodup) (ok : BlkOk X.N X.env.scope scope [(x, j)]) (hg : ∀ (s : Shared) (H : Hp) (C : Addr) (cl : List (Str × Addr)) (fp : List Addr), PG (Bk X scope s H C cl fp) (.Name x xp) (gName j))
    (h : DI X c (.Name x xp) iter ρ st fun ds ρ1 st1 => LcT X c scope j elt ifs ρ1 st1 ds k) (hs : ∀ x, foldedSetIterable iter X.env x = pure x := by intro _; rfl) : DE X c (.ListComp elt [⟨.Name x xp, iter, ifs, 0⟩] scope pos) ρ st k := by
  intro τ σ H Q hh hl hk hx
  exact we_of (pe_lc (own := [(x, j)]) hc hN pi_w ok hg (pts_of ifs) (fun s H C cl fp => ⟨fun pins s' σ H' Q I h => h s H C cl fp pins s' I⟩) hs) (lc_read hh hl hk hx h)
theorem ds_asgLc {i : Nat} {y : Str} {py pos spos : Pos} {D : Dn c.m} (hc : X.calm = true) (hN : X.N.Nodup) (hy : X.N[i]? = some y) (hyl : X.env.scope.names.lookup y = some .local)
    (hsw : swapsWith (.ListComp elt [⟨.Name x xp, iter, ifs, 0⟩] scope pos) (some (.Name y py)) spos.line X.env = pure true) (ok : BlkOk X.N X.env.scope scope [(x, j)]) (hg : ∀ (s : Shared) (H : Hp) (C : Addr) (cl : List (Str × Addr)) (fp : List Addr), PG (Bk X scope s H C cl fp) (.Name x xp) (gName j))
    (h : DI X c (.Name x xp) iter ρ st fun ds ρ1 st1 => LcT X c scope j elt ifs ρ1 st1 ds fun s ρ2 st2 => D.nx (ρ2.set i s) st2) (hs : ∀ x, foldedSetIterable iter X.env x = pure x := by intro _; rfl) : DS X c (.Assign [.Name y py] (.ListComp elt [⟨.Name x xp, iter, ifs, 0⟩] scope pos) spos) ρ st D := by
  intro τ σ H De hh hl hk hx
  refine ws_of (ps_setLc (own := [(x, j)]) (te := UE X scope elt) hc hN hy hyl hsw pi_w ok hg (pts_of ifs) (fun s H C cl fp => ⟨fun pins s' σ H' Q I h => h s H C cl fp pins s' I⟩) hs) ?_
  exact lc_read hh hl (fun s ρ' st' v H' h1 hh1 hl1 => hk.nx _ _ _ _ h1 (hh1.store i) (len_set hl1)) hx h
end
end DL

namespace DL
open PySem PySem.Spec PyProof.Rows L2

/-! ### built-ins over data -/
def tyName : PyData → String
  | .none => "NoneType"
  | .bool _ => "bool"
  | .int _ => "int"
  | .str _ => "str"
  | .list _ => "list"
  | .tuple _ => "tuple"
  | .dict _ => "dict"
section
variable {N : Addr → Prop} {K : PySem.W.Frag} {H : Hp}
theorem da_ty {v : V} {d : PyData} (h : Da N K H v d) : TyX K H v (.type (tyName d)) := by
  cases h with
  | non => exact .base .non
  | bl b => exact .base (.bl b)
  | int i => exact .base (.int i)
  | str x => exact .base (.str x)
  | lst r q =>
    rcases r with ⟨_, r | ⟨o, r⟩⟩ | ⟨o, its, n, h1, h2, _⟩
    · exact .base (.lst r)
    · exact .base (.frz r)
    · exact .kList h1 h2
  | tup r q =>
    exact .base (.tup r.2)
  | dct n r q =>
    rcases r with r | ⟨o, r⟩
    · exact .base (.dK r)
    · exact .fDict r
end
section
variable {X : Cx} {c : Cz} {e a b t : Expr} {es : List Expr} {ρ : Env} {st : c.m.St} {pos : Pos} {k : Slot → Env → c.m.St → Prop} {kb : Bool → Env → c.m.St → Prop} {K : PySem.W.Frag} {s1 s2 : Slot}
/-- a built-in's name, a class, a def, a constant, as a value -/
theorem de_bltn {x : Str} {v : V} {u : Value} (hm : X.mg x = none) (hv : bootBuiltins x = some u) (r : RelV v u) (h : k (.raw v) ρ st) (hg : Gl X x := by rfl) (hn : x ≠ "__name__" := by decide) (hd : (x == ("__debug__" : Str)) = false := by decide) : DE X c (.Name x pos) ρ st k := by
  intro τ σ H Q hh hl hk hx
  exact we_of (pe_bltn hg hm hv r hn hd) (hk _ _ _ _ _ h (hh.put rfl rfl) hl)
theorem de_glob {x : Str} {v : V} {u : Value} (hm : X.mg x = some u) (r : RelV v u) (h : k (.raw v) ρ st) (hg : Gl X x := by rfl) (hd : (x == ("__debug__" : Str)) = false := by decide) : DE X c (.Name x pos) ρ st k := by
  intro τ σ H Q hh hl hk hx
  exact we_of (pe_glob hg hm r hd) (hk _ _ _ _ _ h (hh.put rfl rfl) hl)
/-- a constant of the module -/
theorem de_con {x : Str} {v : V} {u : Value} {d : PyData} (hm : X.mg x = some u) (r : RelV v u) (hd : ∀ N H, Da N X.K H v d) (h : k (.dat d) ρ st) (hg : Gl X x := by rfl) (hdb : (x == ("__debug__" : Str)) = false := by decide) : DE X c (.Name x pos) ρ st k := by
  intro τ σ H Q hh hl hk hx
  exact we_of (pe_glob hg hm r hdb) (hk _ _ _ _ _ h (hh.put rfl ⟨v, rfl, hd _ _⟩) hl)
theorem one_of {vs : List V} {s : Slot} (h : vs.length = [s].length) : ∃ x, vs = [x] := by
  match vs, h with
  | [x], _ => exact ⟨x, rfl⟩
theorem two_of {vs : List V} {s t : Slot} (h : vs.length = [s, t].length) : ∃ x y, vs = [x, y] := by
  match vs, h with
  | [x, y], _ => exact ⟨x, y, rfl⟩
/-- a flat argument's value -/
theorem arg_flat {m : Mem} {H0 H : Hp} {A B : List Ent} {st : m.St} {v w : V} {d : PyData} (h : Here m K H0 (A ++ (some v, .dat d) :: B) st H) (hw : flatD w = some d) : v = w := Option.some.inj (h.int1 hw)
theorem dcall_isi {d : PyData} {n : String} {x : Bool} (hb : kitB (tyName d) n = some x) (h : k (.dat (.bool x)) ρ st) : DCall K c (rIsi K) [.dat d, .raw (.ty n)] ρ st k := by
  intro τ σ H Q vs hlen hh hl hk
  obtain ⟨v, w, rfl⟩ := two_of hlen
  have h' : Here c.m K c.H0 (σ.zip ρ ++ (some v, .dat d) :: (some w, .raw (.ty n)) :: τ) st H := hh
  obtain ⟨v', e, q⟩ := h'.dat (List.mem_append_right _ List.mem_cons_self)
  cases e
  have e : some w = some (V.ty n) := h'.all _ (List.mem_append_right _ (List.mem_cons_of_mem _ List.mem_cons_self))
  cases e
  exact ⟨v, .ty n, _, .type n, x, rfl, .ty n, da_ty q, kit_ty hb, hk _ _ _ _ _ h (h'.two (v := .bl _) rfl) hl⟩
theorem dcall_abs {i : Int} (h : k (.dat (.int i.natAbs)) ρ st) : DCall K c (fun xs H Q => ∃ i, xs = [.int i] ∧ Q (.int (if i < 0 then -i else i)) H) [.dat (.int i)] ρ st k := by
  intro τ σ H Q vs hlen hh hl hk
  obtain ⟨v, rfl⟩ := one_of hlen
  have h' : Here c.m K c.H0 (σ.zip ρ ++ (some v, .dat (.int i)) :: τ) st H := hh
  have e := arg_flat h' (w := .int i) rfl
  subst e
  refine ⟨i, rfl, ?_⟩
  have e2 : (if i < 0 then -i else i) = (i.natAbs : Int) := by split <;> omega
  rw [e2]
  exact hk _ _ _ _ _ h (h'.one (v := .int _) rfl) hl
theorem dcall_int {i : Int} (h : k (.dat (.int i)) ρ st) : DCall K c (fun xs H Q => (∃ i, xs = [.int i] ∧ Q (.int i) H) ∨ ∃ k, xs = [.bl k] ∧ Q (.int (if k then 1 else 0)) H) [.dat (.int i)] ρ st k := by
  intro τ σ H Q vs hlen hh hl hk
  obtain ⟨v, rfl⟩ := one_of hlen
  have h' : Here c.m K c.H0 (σ.zip ρ ++ (some v, .dat (.int i)) :: τ) st H := hh
  have e := arg_flat h' (w := .int i) rfl
  subst e
  exact .inl ⟨i, rfl, hk _ _ _ _ _ h h' hl⟩
theorem dcall_min2 {i j : Int} (h : k (.dat (.int (min i j))) ρ st) : DCall K c (fun xs H Q => ∃ i j, xs = [.int i, .int j] ∧ Q (.int (if j < i then j else i)) H) [.dat (.int i), .dat (.int j)] ρ st k := by
  intro τ σ H Q vs hlen hh hl hk
  obtain ⟨v, w, rfl⟩ := two_of hlen
  have h' : Here c.m K c.H0 (σ.zip ρ ++ (some v, .dat (.int i)) :: (some w, .dat (.int j)) :: τ) st H := hh
  have e := arg_flat h' (w := .int i) rfl
  have e' : w = .int j := Option.some.inj (h'.int2 (w := .int j) rfl)
  subst e e'
  refine ⟨i, j, rfl, ?_⟩
  have e2 : (if j < i then j else i) = min i j := by split <;> omega
  rw [e2]
  exact hk _ _ _ _ _ h (h'.two (v := .int _) rfl) hl
theorem dcall_max2 {i j : Int} (h : k (.dat (.int (max i j))) ρ st) : DCall K c (fun xs H Q => ∃ i j, xs = [.int i, .int j] ∧ Q (.int (if j > i then j else i)) H) [.dat (.int i), .dat (.int j)] ρ st k := by
  intro τ σ H Q vs hlen hh hl hk
  obtain ⟨v, w, rfl⟩ := two_of hlen
  have h' : Here c.m K c.H0 (σ.zip ρ ++ (some v, .dat (.int i)) :: (some w, .dat (.int j)) :: τ) st H := hh
  have e := arg_flat h' (w := .int i) rfl
  have e' : w = .int j := Option.some.inj (h'.int2 (w := .int j) rfl)
  subst e e'
  refine ⟨i, j, rfl, ?_⟩
  have e2 : (if j > i then j else i) = max i j := by split <;> omega
  rw [e2]
  exact hk _ _ _ _ _ h (h'.two (v := .int _) rfl) hl
/-- a list, a tuple at an argument's place: its items, told by all that is kept -/
theorem asD_seq {m : Mem} {H0 H : Hp} {σ : L2.St} {L : List Ent} {st : m.St} {v : V} {s : Slot} {d : PyData} (h : Here m K H0 L st H) (hz : ∀ e ∈ σ.zip ρ, e ∈ L) (hl : σ.length = ρ.length) (hm : (some v, s) ∈ L) (a : AsD ρ s d) :
    (∀ ds, d = .list ds → ∃ p xs, v = .ref p ∧ SqL K H p xs ∧ DaAll (fun a => m.N a ∨ a ∈ owns L) K H xs ds) ∧ ∀ ds, d = .tuple ds → ∃ p xs, v = .ref p ∧ SqT K H p xs ∧ DaAll (fun a => m.N a ∨ a ∈ owns L) K H xs ds := by
  have own : ∀ {p : Addr} {ds : List PyData} {o : Option V}, (o, Slot.own p ds) ∈ L → o = some (.ref p) ∧ ∃ xs, SqL K H p xs ∧ DaAll (fun a => m.N a ∨ a ∈ owns L) K H xs ds := fun {p ds o} he => by
    obtain ⟨e, xs, e2, q⟩ := h.all _ he
    exact ⟨e, xs, .inl (.inl e2), q⟩
  cases a with
  | dat d =>
    obtain ⟨v', e, q⟩ := h.dat hm
    cases e
    refine ⟨fun ds e => ?_, fun ds e => ?_⟩
    · subst e
      cases q with
      | lst r qa => exact ⟨_, _, rfl, r.sq, qa⟩
    · subst e
      cases q with
      | tup r qa => exact ⟨_, _, rfl, r.sq, qa⟩
  | own p ds =>
    obtain ⟨e, xs, q1, q2⟩ := own hm
    cases e
    exact ⟨fun ds' e => by cases e; exact ⟨p, xs, rfl, q1, q2⟩, fun ds' e => by cases e⟩
  | ref p ds i hi =>
    have e : some v = some (V.ref p) := h.all _ hm
    cases e
    obtain ⟨o, _, e2, _⟩ := zip_get hl hi
    obtain ⟨_, xs, q1, q2⟩ := own (hz _ e2)
    exact ⟨fun ds' e => by cases e; exact ⟨p, xs, rfl, q1, q2⟩, fun ds' e => by cases e⟩
/-- its list or tuple -/
inductive SeqD : PyData → List PyData → Prop
  | lst (ds : List PyData) : SeqD (.list ds) ds
  | tup (ds : List PyData) : SeqD (.tuple ds) ds
theorem dcall_len {d : PyData} {ds : List PyData} (a : AsD ρ s1 d) (q : SeqD d ds) (h : k (.dat (.int ds.length)) ρ st) : DCall K c (fun xs H Q => ∃ p ys, xs = [.ref p] ∧ (SqL K H p ys ∨ SqT K H p ys) ∧ Q (.int ys.length) H) [s1] ρ st k := by
  intro τ σ H Q vs hlen hh hl hk
  obtain ⟨v, rfl⟩ := one_of hlen
  have h' : Here c.m K c.H0 (σ.zip ρ ++ (some v, s1) :: τ) st H := hh
  obtain ⟨q1, q2⟩ := asD_seq h' (fun e he => List.mem_append_left _ he) hl (List.mem_append_right _ List.mem_cons_self) a
  cases q with
  | lst =>
    obtain ⟨p, xs, rfl, q3, q4⟩ := q1 ds rfl
    exact ⟨p, xs, rfl, .inl q3, by rw [q4.len]; exact hk _ _ _ _ _ h (h'.one (v := .int _) rfl) hl⟩
  | tup =>
    obtain ⟨p, xs, rfl, q3, q4⟩ := q2 ds rfl
    exact ⟨p, xs, rfl, .inr q3, by rw [q4.len]; exact hk _ _ _ _ _ h (h'.one (v := .int _) rfl) hl⟩
theorem own_ne {m : Mem} {H0 H : Hp} {L : List Ent} {st : m.St} {p : Addr} (h : Here m K H0 L st H) (hp : H p = none) : ¬ (m.N p ∨ p ∈ owns L) := fun z => by
  rcases z with z | z
  · exact h.freshN hp z
  · obtain ⟨x, hx, e⟩ := mem_owns.mp z
    exact (h.all x hx).no e hp
/-- a new tuple of what is known -/
theorem Here.newTup {m : Mem} {H0 H : Hp} {A B : List Ent} {st : m.St} {p : Addr} {xs : List V} {ds : List PyData} (h : Here m K H0 (A ++ B) st H) (hp : H p = none) (q : DaAll (fun a => m.N a ∨ a ∈ owns (A ++ B)) K H xs ds) : Here m K H0 (A ++ (some (.ref p), .dat (.tuple ds)) :: B) st (upd H p (.tup xs)) := by
  have np := own_ne h hp
  refine (h.alloc (o := .tup xs) hp).put rfl ⟨_, rfl, .tup ⟨np, upd_same⟩ (q.move fun a o n t e => ⟨n, ?_⟩)⟩
  rw [upd_ne (ne_of_none e hp)]
  exact e
theorem wk_owns {A B : List Ent} {x : Ent} {m : Mem} : ∀ (H : Hp) (a : Addr) (o : HO), ¬ (m.N a ∨ a ∈ owns (A ++ x :: B)) → NT o → H a = some o → ¬ (m.N a ∨ a ∈ owns (A ++ B)) ∧ H a = some o := fun H a o n t e => ⟨fun z => n (z.elim .inl fun z => .inr (owns_sub (fun y hy => (List.mem_append.mp hy).elim (List.mem_append_left _) fun z => List.mem_append_right _ (List.mem_cons_of_mem _ z)) a z)), e⟩
theorem dcall_tuple {d : PyData} {ds : List PyData} (a : AsD ρ s1 d) (q : SeqD d ds) (h : k (.dat (.tuple ds)) ρ st) : DCall K c (fun xs H Q => ∃ p ys, xs = [.ref p] ∧ ((SqL K H p ys ∧ ∀ l, H l = none → Q (.ref l) (upd H l (.tup ys))) ∨ (SqT K H p ys ∧ Q (.ref p) H))) [s1] ρ st k := by
  intro τ σ H Q vs hlen hh hl hk
  obtain ⟨v, rfl⟩ := one_of hlen
  have h' : Here c.m K c.H0 (σ.zip ρ ++ (some v, s1) :: τ) st H := hh
  obtain ⟨q1, q2⟩ := asD_seq h' (fun e he => List.mem_append_left _ he) hl (List.mem_append_right _ List.mem_cons_self) a
  cases q with
  | lst =>
    obtain ⟨p, xs, rfl, q3, q4⟩ := q1 ds rfl
    exact ⟨p, xs, rfl, .inl ⟨q3, fun l hl' => hk _ _ _ _ _ h (h'.cut.newTup hl' (q4.move (wk_owns _))) hl⟩⟩
  | tup =>
    cases a with
    | dat =>
      obtain ⟨p, xs, rfl, q3, q4⟩ := q2 ds rfl
      exact ⟨p, xs, rfl, .inr ⟨q3, hk _ _ _ _ _ h h' hl⟩⟩
theorem dcall_list {d : PyData} {ds : List PyData} (a : AsD ρ s1 d) (q : SeqD d ds) (h : ∀ p, k (.own p ds) ρ st) : DCall K c (fun xs H Q => ∃ p ys, xs = [.ref p] ∧ (SqL K H p ys ∨ SqT K H p ys) ∧ ∀ l, H l = none → Q (.ref l) (upd H l (.lst ys))) [s1] ρ st k := by
  intro τ σ H Q vs hlen hh hl hk
  obtain ⟨v, rfl⟩ := one_of hlen
  have h' : Here c.m K c.H0 (σ.zip ρ ++ (some v, s1) :: τ) st H := hh
  obtain ⟨q1, q2⟩ := asD_seq h' (fun e he => List.mem_append_left _ he) hl (List.mem_append_right _ List.mem_cons_self) a
  cases q with
  | lst =>
    obtain ⟨p, xs, rfl, q3, q4⟩ := q1 ds rfl
    exact ⟨p, xs, rfl, .inl q3, fun l hl' => hk _ _ _ _ _ (h l) (h'.cut.allocOwn hl' (q4.move (wk_owns _))) hl⟩
  | tup =>
    obtain ⟨p, xs, rfl, q3, q4⟩ := q2 ds rfl
    exact ⟨p, xs, rfl, .inr q3, fun l hl' => hk _ _ _ _ _ (h l) (h'.cut.allocOwn hl' (q4.move (wk_owns _))) hl⟩

/-! ### items -/
theorem DaAll.atI {N : Addr → Prop} {H : Hp} {xs : List V} {ds : List PyData} {i : Int} {d : PyData} (q : DaAll N K H xs ds) (h : L2.atI ds i = some d) : ∃ v, L2.atI xs i = some v ∧ Da N K H v d := by
  unfold L2.atI at h ⊢
  rw [q.len]
  cases e : ixN ds.length i with
  | none => rw [e] at h; cases h
  | some j =>
    rw [e] at h
    obtain ⟨v, h1, h2⟩ := q.get (i := j) h
    exact ⟨v, h1, h2⟩
theorem dop_ixL {i : Int} {ds : List PyData} {d : PyData} (a : AsD ρ s1 (.list ds)) (hi : L2.atI ds i = some d) (h : k (.dat d) ρ st) : DOp K c (rIxL K) s1 (.dat (.int i)) ρ st k := by
  intro τ σ H Q v1 v2 hh hl hk
  have e2 : v2 = .int i := Option.some.inj (hh.int1 (w := .int i) rfl)
  obtain ⟨q1, _⟩ := asD_seq hh (fun e he => List.mem_append_left _ he) hl (List.mem_append_right _ (List.mem_cons_of_mem _ List.mem_cons_self)) a
  obtain ⟨p, xs, rfl, q3, q4⟩ := q1 ds rfl
  obtain ⟨v, hv, qv⟩ := q4.atI hi
  refine ⟨p, xs, i, v, rfl, e2, q3, hv, hk _ _ _ _ _ h (hh.cut.cut.put rfl ⟨v, rfl, ?_⟩) hl⟩
  exact (qv.move (wk_owns _)).move (wk_owns _)
theorem dop_ixT {i : Int} {ds : List PyData} {d : PyData} (hi : L2.atI ds i = some d) (h : k (.dat d) ρ st) : DOp K c (rIxT K) (.dat (.tuple ds)) (.dat (.int i)) ρ st k := by
  intro τ σ H Q v1 v2 hh hl hk
  have e2 : v2 = .int i := Option.some.inj (hh.int1 (w := .int i) rfl)
  obtain ⟨_, q2⟩ := asD_seq hh (fun e he => List.mem_append_left _ he) hl (List.mem_append_right _ (List.mem_cons_of_mem _ List.mem_cons_self)) (.dat (.tuple ds))
  obtain ⟨p, xs, rfl, q3, q4⟩ := q2 ds rfl
  obtain ⟨v, hv, qv⟩ := q4.atI hi
  refine ⟨p, xs, i, v, rfl, e2, q3, hv, hk _ _ _ _ _ h (hh.cut.cut.put rfl ⟨v, rfl, ?_⟩) hl⟩
  exact (qv.move (wk_owns _)).move (wk_owns _)
/-! ### in, of flat values -/
def flat1 : PyData → Bool
  | .none => true
  | .bool _ => true
  | .int _ => true
  | .str _ => true
  | _ => false
theorem da_flat1 {N : Addr → Prop} {H : Hp} {v : V} {d : PyData} (q : Da N K H v d) (h : flat1 d = true) : flatD v = some d ∧ flatV v = true := by
  cases q with
  | non => exact ⟨rfl, rfl⟩
  | bl b => exact ⟨rfl, rfl⟩
  | int i => exact ⟨rfl, rfl⟩
  | str x => exact ⟨rfl, rfl⟩
  | lst _ _ => cases h
  | tup _ _ => cases h
  | dct _ _ _ => cases h
theorem eqV_eqv {x y : V} {d e : PyData} (h1 : flatD x = some d) (h2 : flatD y = some e) : eqV x y = PyData.eqv d e := by
  cases x <;> cases h1 <;> cases y <;> cases h2 <;> simp [eqV, PyData.eqv]
def inD (d : PyData) (ds : List PyData) : Bool := ds.any fun e => PyData.eqv e d
theorem inV_inD {N : Addr → Prop} {H : Hp} {x : V} {d : PyData} (hx : flatD x = some d) : ∀ {xs : List V} {ds : List PyData}, DaAll N K H xs ds → ds.all flat1 = true → xs.all flatV = true ∧ inV x xs = inD d ds
  | _, _, .nil, _ => ⟨rfl, rfl⟩
  | _, _, .cons (v := v) (vs := vs) (d := e) (ds := ds) q qs, h => by
    rw [List.all_cons, Bool.and_eq_true] at h
    obtain ⟨h1, h2⟩ := inV_inD hx qs h.2
    obtain ⟨h3, h4⟩ := da_flat1 q h.1
    refine ⟨by rw [List.all_cons, h4, h1]; rfl, ?_⟩
    have h2' : (vs.any fun y => eqV y x) = (ds.any fun e => PyData.eqv e d) := h2
    show ((v :: vs).any fun y => eqV y x) = ((e :: ds).any fun e => PyData.eqv e d)
    rw [List.any_cons, List.any_cons, h2', eqV_eqv h3 hx]
theorem dop_in {neg : Bool} {d d2 : PyData} {ds : List PyData} (a : AsD ρ s2 d2) (q : SeqD d2 ds) (h1 : flat1 d = true) (h2 : ds.all flat1 = true) (h : k (.dat (.bool (if neg then !inD d ds else inD d ds))) ρ st) : DOp K c (rIn K neg) (.dat d) s2 ρ st k := by
  intro τ σ H Q v1 v2 hh hl hk
  obtain ⟨v', e, qd⟩ := hh.dat (List.mem_append_right _ (List.mem_cons_of_mem _ List.mem_cons_self))
  cases e
  obtain ⟨f1, f2⟩ := da_flat1 qd h1
  obtain ⟨q1, q2⟩ := asD_seq hh (fun e he => List.mem_append_left _ he) hl (List.mem_append_right _ List.mem_cons_self) a
  cases q with
  | lst =>
    obtain ⟨p, xs, rfl, q3, q4⟩ := q1 ds rfl
    obtain ⟨g1, g2⟩ := inV_inD f1 q4 h2
    refine ⟨p, xs, rfl, .inl q3, f2, g1, ?_⟩
    rw [g2]
    exact hk _ _ _ _ _ h (hh.two (v := .bl _) rfl) hl
  | tup =>
    obtain ⟨p, xs, rfl, q3, q4⟩ := q2 ds rfl
    obtain ⟨g1, g2⟩ := inV_inD f1 q4 h2
    refine ⟨p, xs, rfl, .inr q3, f2, g1, ?_⟩
    rw [g2]
    exact hk _ _ _ _ _ h (hh.two (v := .bl _) rfl) hl
/-! ### lists put together, so many times -/
inductive OwnD (ρ : Env) : Slot → List PyData → Prop
  | own (p : Addr) (ds : List PyData) : OwnD ρ (.own p ds) ds
  | ref (p : Addr) (ds : List PyData) (i : Nat) (h : ρ[i]? = some (.own p ds)) : OwnD ρ (.raw (.ref p)) ds
theorem ownD_ok {m : Mem} {H0 H : Hp} {σ : L2.St} {L : List Ent} {st : m.St} {v : V} {s : Slot} {ds : List PyData} (h : Here m K H0 L st H) (hz : ∀ e ∈ σ.zip ρ, e ∈ L) (hl : σ.length = ρ.length) (hm : (some v, s) ∈ L) (a : OwnD ρ s ds) :
    ∃ p xs, v = .ref p ∧ H p = some (.lst xs) ∧ DaAll (fun a => m.N a ∨ a ∈ owns L) K H xs ds := by
  cases a with
  | own p ds =>
    obtain ⟨e, xs, e2, q⟩ := h.all _ hm
    cases e
    exact ⟨p, xs, rfl, e2, q⟩
  | ref p ds i hi =>
    have e : some v = some (V.ref p) := h.all _ hm
    cases e
    obtain ⟨o, _, e2, _⟩ := zip_get hl hi
    obtain ⟨_, xs, e3, q⟩ := h.all _ (hz _ e2)
    exact ⟨p, xs, rfl, e3, q⟩
theorem dop_cat {ds es : List PyData} (a1 : OwnD ρ s1 ds) (a2 : OwnD ρ s2 es) (hz : ds.length + es.length ≤ 16000000) (h : ∀ p, k (.own p (ds ++ es)) ρ st) : DOp K c rCat s1 s2 ρ st k := by
  intro τ σ H Q v1 v2 hh hl hk
  obtain ⟨p, xs, rfl, e1, q1⟩ := ownD_ok hh (fun e he => List.mem_append_left _ he) hl (List.mem_append_right _ (List.mem_cons_of_mem _ List.mem_cons_self)) a1
  obtain ⟨p', ys, rfl, e2, q2⟩ := ownD_ok hh (fun e he => List.mem_append_left _ he) hl (List.mem_append_right _ List.mem_cons_self) a2
  refine ⟨p, p', xs, ys, rfl, rfl, e1, e2, by rw [q1.len, q2.len]; exact Nat.le_trans hz (by decide), fun l hl' => hk _ _ _ _ _ (h l) (hh.cut.cut.allocOwn hl' ?_) hl⟩
  exact ((q1.app q2).move (wk_owns _)).move (wk_owns _)
theorem da_rep {N : Addr → Prop} {H : Hp} {xs : List V} {ds : List PyData} (q : DaAll N K H xs ds) : ∀ n : Nat, DaAll N K H (List.replicate n xs).flatten (List.replicate n ds).flatten
  | 0 => .nil
  | n + 1 => by
    rw [List.replicate_succ, List.replicate_succ, List.flatten_cons, List.flatten_cons]
    exact q.app (da_rep q n)
theorem dop_rep {ds : List PyData} {n : Nat} (a1 : OwnD ρ s1 ds) (hn : n < 16000000) (hz : ds.length * n ≤ 16000000) (h : ∀ p, k (.own p (List.replicate n ds).flatten) ρ st) : DOp K c rRep s1 (.dat (.int n)) ρ st k := by
  intro τ σ H Q v1 v2 hh hl hk
  have e2 : v2 = .int n := Option.some.inj (hh.int1 (w := .int n) rfl)
  obtain ⟨p, xs, rfl, e1, q1⟩ := ownD_ok hh (fun e he => List.mem_append_left _ he) hl (List.mem_append_right _ (List.mem_cons_of_mem _ List.mem_cons_self)) a1
  refine ⟨p, n, xs, rfl, e2, e1, by omega, by omega, by rw [q1.len]; exact Nat.le_trans (by simpa using hz) (show 16000000 ≤ sizeLine by decide), fun l hl' => hk _ _ _ _ _ (h l) (hh.cut.cut.allocOwn hl' ?_) hl⟩
  have e3 : ((n : Int)).toNat = n := by omega
  rw [e3]
  exact ((da_rep q1 n).move (wk_owns _)).move (wk_owns _)
/-! ### methods of an owned list, by its name -/
theorem set_mid : ∀ {σ : L2.St} {ρ : Env} {i : Nat} {s : Slot}, σ.length = ρ.length → ρ[i]? = some s → ∃ A o B, σ.zip ρ = A ++ (o, s) :: B ∧ σ[i]? = some o ∧ ∀ s', σ.zip (ρ.set i s') = A ++ (o, s') :: B
  | _, [], _, _, _, h => by simp at h
  | [], _ :: _, _, _, hl, _ => by simp at hl
  | o :: σ, s0 :: ρ, 0, s, hl, h => by
    cases h
    exact ⟨[], o, σ.zip ρ, rfl, rfl, fun s' => rfl⟩
  | o :: σ, s0 :: ρ, i + 1, s, hl, h => by
    obtain ⟨A, o', B, h1, h2, h3⟩ := set_mid (σ := σ) (ρ := ρ) (i := i) (s := s) (by simpa using hl) (by simpa using h)
    refine ⟨(o, s0) :: A, o', B, ?_, by simpa using h2, fun s' => ?_⟩
    · show (o, s0) :: σ.zip ρ = _
      rw [h1]
      rfl
    · show (o, s0) :: σ.zip (ρ.set i s') = _
      rw [h3 s']
      rfl
theorem de_pop {i : Nat} {x : Str} {p : Addr} {ds : List PyData} {d : PyData} {np apos : Pos} (hρ : ρ[i]? = some (.own p (ds ++ [d]))) (hN : X.N[i]? = some x) (hv : Vis X.env.scope x) (h : k (.dat d) (ρ.set i (.own p ds)) st) (hd : (x == ("__debug__" : Str)) = false := by decide) (hcd : (x == ("__classdict__" : Str)) = false := by decide)
    (hbase : attributeBase (.Name x np) "pop" X.env (eval (.Name x np) X.env) = eval (.Name x np) X.env := by rfl) (hline : (apos.endLine == pos.line) = true := by rfl) : DE X c (.Call (.Attribute (.Name x np) "pop" apos) [] [] pos) ρ st k := by
  intro τ σ H Q hh hl hk hx
  obtain ⟨A, o, B, e1, e2, e3⟩ := set_mid hl hρ
  have hh' : Here c.m X.K c.H0 (A ++ (o, .own p (ds ++ [d])) :: (B ++ τ)) st H := by
    rw [e1, List.append_assoc] at hh
    exact hh
  obtain ⟨eo, xs, eH, q⟩ := hh'.all _ (List.mem_append_right _ List.mem_cons_self)
  have lx : xs.length = ds.length + 1 := by rw [q.len, List.length_append]; rfl
  obtain ⟨v, hv', qv⟩ := q.get (i := ds.length) (d := d) (by rw [List.getElem?_append_right (Nat.le_refl _), Nat.sub_self]; rfl)
  have eo' : o = some (V.ref p) := eo
  refine we_of (pe_bm0 PySem.F.plainAttrs_list PySem.F.slot_list_pop PySem.F.type_list_pop (fun pins s σ H x vs v us Q => mt_pop pins s σ H x vs v us Q) (pe_var hN hv hd hcd) hbase hline) ⟨.ref p, by rw [e2, eo'], .inl ⟨rfl, xs, .inl (.inl eH)⟩, p, xs, v, rfl, rfl, eH, ?_, ?_⟩
  · rw [lx, Nat.add_sub_cancel]
    exact hv'
  · have hdl : DaAll (fun a => c.m.N a ∨ a ∈ owns (A ++ (o, Slot.own p (ds ++ [d])) :: (B ++ τ))) X.K H xs.dropLast ds := by
      have t := q.take ds.length
      rw [List.take_left] at t
      rw [List.dropLast_eq_take, lx, Nat.add_sub_cancel]
      exact t
    have w := hh'.write (ys := xs.dropLast) hdl
    refine hk (.dat d) (ρ.set i (.own p ds)) st v _ h ?_ (by rw [List.length_set]; exact hl)
    rw [e3, List.append_assoc]
    have hp : p ∈ owns (A ++ (o, Slot.own p (ds ++ [d])) :: (B ++ τ)) := mem_owns.mpr ⟨_, List.mem_append_right _ List.mem_cons_self, rfl⟩
    have eow : owns (A ++ (o, Slot.own p ds) :: (B ++ τ)) = owns (A ++ (o, Slot.own p (ds ++ [d])) :: (B ++ τ)) := by rw [owns_app, owns_app, owns_cons, owns_cons]; rfl
    have w' : Here c.m X.K c.H0 ((A ++ (o, .own p ds) :: B) ++ τ) st (upd H p (.lst xs.dropLast)) := by rw [List.append_assoc]; exact w
    have r := w'.put (e := (some v, .dat d)) rfl ⟨v, rfl, qv.move fun a u n t e => ⟨?_, ?_⟩⟩
    · rw [List.append_assoc] at r
      exact r
    · rw [List.append_assoc]
      show ¬ (c.m.N a ∨ a ∈ owns (A ++ (o, Slot.own p ds) :: (B ++ τ)))
      rw [eow]
      exact n
    · rw [upd_ne fun z => n (.inr (by rw [z]; exact hp))]
      exact e
theorem ds_append {i : Nat} {x : Str} {p : Addr} {ds : List PyData} {np apos cpos : Pos} {D : Dn c.m} (hN : X.N[i]? = some x) (hv : Vis X.env.scope x) (hρ : ρ[i]? = some (.own p ds)) (h : DE X c e ρ st fun s ρ1 st1 => ∃ d ds', AllD [s] [d] ∧ ρ1[i]? = some (.own p ds') ∧ ds'.length < 16000000 ∧ D.nx (ρ1.set i (.own p (ds' ++ [d]))) st1)
    (hd : (x == ("__debug__" : Str)) = false := by decide) (hcd : (x == ("__classdict__" : Str)) = false := by decide)
    (hbase : attributeBase (.Name x np) "append" X.env (eval (.Name x np) X.env) = eval (.Name x np) X.env := by rfl)
    (hfew : ((backTo cpos (starEach (e :: []) X.env)).all (fun x => !x.1) && (backToKw cpos (keywordEach [] X.env)).all (fun x => x.1.isSome)
      && decide ((e :: ([] : List Expr)).length + ([] : List Keyword).length + (if ([] : List Keyword).isEmpty then 0 else 1) < 30)) = true := by rfl)
    (hline : (apos.endLine == cpos.line) = true := by rfl) (hs : starEach (e :: []) X.env = (false, eval e X.env) :: starEach [] X.env := by rfl) (hplain : (backTo cpos (starEach [] X.env)).any (·.1) = false := by rfl)
    (hsw : swapsWith (.Call (.Attribute (.Name x np) "append" apos) [e] [] cpos) none pos.line X.env = pure false := by rfl) : DS X c (.Expr (.Call (.Attribute (.Name x np) "append" apos) [e] [] cpos) pos) ρ st D := by
  intro τ σ H De hh hl hk hx
  have key : ∀ {H : Hp} {st : c.m.St} {ρ : Env} {ds : List PyData} {τ : List Ent}, Here c.m X.K c.H0 (σ.zip ρ ++ τ) st H → σ.length = ρ.length → ρ[i]? = some (.own p ds) → σ[i]? = some (some (.ref p)) := fun {H st ρ ds τ} hh hl hρ => by
    obtain ⟨o, e1, e2, _⟩ := zip_get hl hρ
    obtain ⟨eo, _⟩ := hh.all _ (List.mem_append_left _ e2)
    rw [e1]
    exact congrArg some eo
  refine ws_of (ps_expr (pe_bm PySem.F.plainAttrs_list PySem.F.slot_list_append PySem.F.type_list_append (fun pins s σ H x vs v us Q => mt_append pins s σ H x vs v us Q) (pe_var hN hv hd hcd) (pa_cons pe_w pa_nil hs) hbase hfew hline hs hplain) hsw) ?_
  have hlst : ∃ xs, SqL X.K H p xs := by
    obtain ⟨o, e1, e2, _⟩ := zip_get hl hρ
    obtain ⟨eo, xs, e3, _⟩ := hh.all _ (List.mem_append_left _ e2)
    exact ⟨xs, .inl (.inl e3)⟩
  refine ⟨.ref p, key hh hl hρ, .inl ⟨rfl, hlst⟩, ?_⟩
  refine h τ σ H _ hh hl (fun s ρ1 st1 v H1 h1 hh1 hl1 => ?_) hx
  obtain ⟨d, ds', ad, hρ1, hz, q⟩ := h1
  have da := allD_da (vs := [v]) (A := σ.zip ρ1) ad rfl hh1
  obtain ⟨A, o, B, e1, e2, e3⟩ := set_mid hl1 hρ1
  have hh2 := hh1.cut
  have hh' : Here c.m X.K c.H0 (A ++ (o, .own p ds') :: (B ++ τ)) st1 H1 := by
    rw [e1, List.append_assoc] at hh2
    exact hh2
  obtain ⟨eo, xs, eH, qx⟩ := hh'.all _ (List.mem_append_right _ List.mem_cons_self)
  rw [e1, List.append_assoc] at da
  have w := hh'.write (ys := xs ++ [v]) (qx.app da)
  refine ⟨p, xs, v, rfl, rfl, eH, Nat.lt_of_lt_of_le (by rw [qx.len]; exact hz) (show 16000000 ≤ sizeLine by decide), hk.nx _ _ _ _ q ?_ (by rw [List.length_set]; exact hl1)⟩
  rw [e3, List.append_assoc]
  exact w
/-- an owned list is only looked at from here on -/
theorem freeze_ok {m : Mem} {H0 H : Hp} {σ : L2.St} {τ : List Ent} {st : m.St} {i : Nat} {p : Addr} {ds : List PyData} (h : Here m K H0 (σ.zip ρ ++ τ) st H) (hl : σ.length = ρ.length) (hρ : ρ[i]? = some (.own p ds)) : Here m K H0 (σ.zip (ρ.set i (.dat (.list ds))) ++ τ) st H := by
  obtain ⟨A, o, B, e1, e2, e3⟩ := set_mid hl hρ
  have hh' : Here m K H0 (A ++ (o, .own p ds) :: (B ++ τ)) st H := by
    rw [e1, List.append_assoc] at h
    exact h
  have hm : (o, Slot.own p ds) ∈ A ++ (o, .own p ds) :: (B ++ τ) := List.mem_append_right _ List.mem_cons_self
  obtain ⟨eo, xs, eH, q⟩ := hh'.all _ hm
  have eo' : o = some (V.ref p) := eo
  subst eo'
  have da := allD_da (vs := [.ref p]) (ss := [.own p ds]) (A := A) (B := B ++ τ) (.own .nil) rfl hh'
  rw [e3, List.append_assoc]
  cases da with
  | cons q' _ => exact hh'.cut.put rfl ⟨.ref p, rfl, q'⟩
theorem db_freeze {ss : List Stmt} {D : Dn c.m} (i : Nat) {p : Addr} {ds : List PyData} (hρ : ρ[i]? = some (.own p ds)) (h : DB X c ss (ρ.set i (.dat (.list ds))) st D) : DB X c ss ρ st D := fun τ σ H De hh hl hk hx =>
  h τ σ H De (freeze_ok hh hl hρ) (by rw [List.length_set]; exact hl) hk hx
theorem de_freeze (i : Nat) {p : Addr} {ds : List PyData} (hρ : ρ[i]? = some (.own p ds)) (h : DE X c e (ρ.set i (.dat (.list ds))) st k) : DE X c e ρ st k := fun τ σ H Q hh hl hk hx =>
  h τ σ H Q (freeze_ok hh hl hρ) (by rw [List.length_set]; exact hl) hk hx
end
end DL

namespace DL
open PySem PySem.Spec PyProof.Rows L2

/-! ### defs by their names -/
/-- a def of the text, as it stands behind the top -/
structure Df (K : PySem.W.Frag) (mg : Str → Option Value) (x : Str) (s : Stmt) (ps : List Str) : Prop where
  ex : ∃ f fd, L2.Fun K x x s f fd ∧ mg x = some (.ref f) ∧ Binds K fd ps []
/-- a def that keeps its promise -/
structure Cal (P : Program) (w : World) (K : PySem.W.Frag) (mg : Str → Option Value) (base : Heap) (x : Str) (s : Stmt) (ps : List Str) (n : Nat) (F : Pd) : Prop where
  ex : ∃ f fd, L2.Fun K x x s f fd ∧ mg x = some (.ref f) ∧ PySem.W.keepIn K (.ref f) = true ∧ Binds K fd ps [] ∧ FnOk P w K mg base (L2.CX P w) n f fd ps (spD K F)
section
variable {P : Program} {w : World} {K : PySem.W.Frag} {mg : Str → Option Value} {base : Heap}
theorem cal_of {x : Str} {s : Stmt} {N ps : List Str} {n : Nat} {F : Pd} (D : Df K mg x s ps) (S : FnScope N ps (defScope s)) (len : ∀ m ss s k xk, F m ss s k xk → ss.length = ps.length)
    (body : ∀ (f : Addr) (cdv : Value) (A : Around) (outer : List PySem.Env) (s1 : Shared) (H : Hp) (E : XK) (c : Cz), Room n (cxOf (L2.CX P w) P w K mg base N x (defScope s) f cdv A outer s1 H E).A → Takes (cxOf (L2.CX P w) P w K mg base N x (defScope s) f cdv A outer s1 H E) c.W →
      PassesOwn (model P w) (cxOf (L2.CX P w) P w K mg base N x (defScope s) f cdv A outer s1 H E).A (cxOf (L2.CX P w) P w K mg base N x (defScope s) f cdv A outer s1 H E).env (cxOf (L2.CX P w) P w K mg base N x (defScope s) f cdv A outer s1 H E).xe →
      ∀ ss st k, F c.m ss st k c.xk → DB (cxOf (L2.CX P w) P w K mg base N x (defScope s) f cdv A outer s1 H E) c (defBody s) (startD N ss) st ⟨fun _ s' => k (.dat .none) s', k, fun _ _ => False, fun _ _ => False⟩) : Cal P w K mg base x s ps (n + 1) F := by
  obtain ⟨f, fd, Fn, hm, hb⟩ := D.ex
  refine ⟨f, fd, Fn, hm, Fn.kp, hb, fn_ok Fn S len fun X c hX hr tk hp ss st k h => ?_⟩
  obtain ⟨cdv, A, outer, s1, H, E, rfl⟩ := hX
  exact body f cdv A outer s1 H E c hr tk hp ss st k h
end
section
variable {X : Cx} {c : Cz} {e a b t : Expr} {es : List Expr} {ρ : Env} {st : c.m.St} {pos : Pos} {k : Slot → Env → c.m.St → Prop}
theorem dc_call {F : Pd} {n : Nat} {ps : List Str} {x : Str} {s : Stmt} {p : Pos} (C : Cal X.prog X.w X.K X.mg X.base x s ps n F) (hr : Room n X.A) (tk : Takes X c.W)
    (h : DA X c (e :: es) ρ st fun ss ρ1 st1 => ∀ A, F (c.m.avoid A) (ss.map normS) st1 (fun s st' => k s ρ1 st') c.xk) (hg : Gl X x := by rfl) (hdb : (x == ("__debug__" : Str)) = false := by decide)
    (he : starEach (e :: es) X.env = (false, eval e X.env) :: starEach es X.env := by rfl) (hpl : (backTo pos (starEach es X.env)).any (·.1) = false := by rfl) : DE X c (.Call (.Name x p) (e :: es) [] pos) ρ st k := by
  obtain ⟨f, fd, _, hm, hkp, hb, Fk⟩ := C.ex
  exact de_call Fk hr hm hkp hb tk h hg hdb he hpl
theorem dc_call0 {F : Pd} {n : Nat} {ps : List Str} {x : Str} {s : Stmt} {p : Pos} (C : Cal X.prog X.w X.K X.mg X.base x s ps n F) (hr : Room n X.A) (tk : Takes X c.W)
    (h : ∀ A, F (c.m.avoid A) [] st (fun s st' => k s ρ st') c.xk) (hg : Gl X x := by rfl) (hdb : (x == ("__debug__" : Str)) = false := by decide) : DE X c (.Call (.Name x p) [] [] pos) ρ st k := by
  obtain ⟨f, fd, _, hm, hkp, hb, Fk⟩ := C.ex
  exact de_call0 Fk hr hm hkp hb tk h hg hdb
/-- the name that stands in the i-th slot -/
theorem dv (i : Nat) {x : Str} {s s' : Slot} (h : k s' ρ st) (hρ : ρ[i]? = some s := by rfl) (hs : look s = some s' := by rfl) (hN : X.N[i]? = some x := by rfl) (hv : Vis X.env.scope x := by first | exact Or.inl rfl | exact Or.inr (Or.inl rfl) | exact Or.inr (Or.inr rfl))
    (hd : (x == ("__debug__" : Str)) = false := by decide) (hcd : (x == ("__classdict__" : Str)) = false := by decide) : DE X c (.Name x pos) ρ st k := de_var hρ hs hN hv h hd hcd
theorem dset (i : Nat) {x : Str} {pos' : Pos} {D : Dn c.m} (hN : X.N.Nodup) (h : DE X c e ρ st fun s ρ1 st1 => D.nx (ρ1.set i s) st1) (hi : X.N[i]? = some x := by rfl) (hx : Loc X.env.scope x := by first | exact Or.inl rfl | exact Or.inr rfl) (hs : swapsWith e (some (.Name x pos')) pos.line X.env = pure false := by rfl)
    (hf : X.fn x = true ∨ X.env.scope.names.lookup x = some .local := by first | exact .inl rfl | exact .inr rfl) : DS X c (.Assign [.Name x pos'] e pos) ρ st D := ds_asg hN hi hx h hs hf
theorem dpar (i j : Nat) {x y : Str} {px py pt : Pos} {kt k2 pt2} {D : Dn c.m} (hN : X.N.Nodup) (hw : swappedStores [.Tuple [.Name x px, .Name y py] kt pt] (.Tuple [a, b] k2 pt2) X.env = pure (some [x, y])) (h : DE X c a ρ st fun s1 ρ1 st1 => DE X c b ρ1 st1 fun s2 ρ2 st2 => D.nx ((ρ2.set i s1).set j s2) st2)
    (hc : X.calm = true := by rfl) (hi : X.N[i]? = some x := by rfl) (hj : X.N[j]? = some y := by rfl) (hij : i ≠ j := by decide) (hx : X.env.scope.names.lookup x = some .local := by rfl) (hy : X.env.scope.names.lookup y = some .local := by rfl)
    (hs : swapsWithSole [.Tuple [.Name x px, .Name y py] kt pt] (.Tuple [a, b] k2 pt2) pos.line X.env = pure false := by rfl) (h1s : starEach [a, b] X.env = (false, eval a X.env) :: starEach [b] X.env := by rfl) (h2s : starEach [b] X.env = (false, eval b X.env) :: starEach [] X.env := by rfl) :
    DS X c (.Assign [.Tuple [.Name x px, .Name y py] kt pt] (.Tuple [a, b] k2 pt2) pos) ρ st D := ds_par hc hN hi hj hij hx hy hw h hs h1s h2s
theorem dgn (i : Nat) {x : Str} {d : PyData} {kk : Env → c.m.St → Prop} (hN : X.N.Nodup) (h : kk (ρ.set i (.dat d)) st) (hi : X.N[i]? = some x := by rfl) (hx : Loc X.env.scope x := by first | exact Or.inl rfl | exact Or.inr rfl) (hf : X.fn x = true ∨ X.env.scope.names.lookup x = some .local := by first | exact .inl rfl | exact .inr rfl) : DG X c (.Name x pos) d ρ st kk := dg_name hN hi hx h hf
end
def ofInt : PyData → Bool
  | .bool _ => true
  | .int _ => true
  | _ => false
theorem kit_int : ∀ d : PyData, kitB (tyName d) "int" = some (ofInt d)
  | .none => (by decide +kernel : kitB "NoneType" "int" = some false)
  | .bool _ => (by decide +kernel : kitB "bool" "int" = some true)
  | .int _ => (by decide +kernel : kitB "int" "int" = some true)
  | .str _ => (by decide +kernel : kitB "str" "int" = some false)
  | .list _ => (by decide +kernel : kitB "list" "int" = some false)
  | .tuple _ => (by decide +kernel : kitB "tuple" "int" = some false)
  | .dict _ => (by decide +kernel : kitB "dict" "int" = some false)
def ofBool : PyData → Bool
  | .bool _ => true
  | _ => false
theorem kit_bool : ∀ d : PyData, kitB (tyName d) "bool" = some (ofBool d)
  | .none => (by decide +kernel : kitB "NoneType" "bool" = some false)
  | .bool _ => (by decide +kernel : kitB "bool" "bool" = some true)
  | .int _ => (by decide +kernel : kitB "int" "bool" = some false)
  | .str _ => (by decide +kernel : kitB "str" "bool" = some false)
  | .list _ => (by decide +kernel : kitB "list" "bool" = some false)
  | .tuple _ => (by decide +kernel : kitB "tuple" "bool" = some false)
  | .dict _ => (by decide +kernel : kitB "dict" "bool" = some false)
def ofTuple : PyData → Bool
  | .tuple _ => true
  | _ => false
theorem kit_tuple : ∀ d : PyData, kitB (tyName d) "tuple" = some (ofTuple d)
  | .none => (by decide +kernel : kitB "NoneType" "tuple" = some false)
  | .bool _ => (by decide +kernel : kitB "bool" "tuple" = some false)
  | .int _ => (by decide +kernel : kitB "int" "tuple" = some false)
  | .str _ => (by decide +kernel : kitB "str" "tuple" = some false)
  | .list _ => (by decide +kernel : kitB "list" "tuple" = some false)
  | .tuple _ => (by decide +kernel : kitB "tuple" "tuple" = some true)
  | .dict _ => (by decide +kernel : kitB "dict" "tuple" = some false)
def ofList : PyData → Bool
  | .list _ => true
  | _ => false
theorem kit_list : ∀ d : PyData, kitB (tyName d) "list" = some (ofList d)
  | .none => (by decide +kernel : kitB "NoneType" "list" = some false)
  | .bool _ => (by decide +kernel : kitB "bool" "list" = some false)
  | .int _ => (by decide +kernel : kitB "int" "list" = some false)
  | .str _ => (by decide +kernel : kitB "str" "list" = some false)
  | .list _ => (by decide +kernel : kitB "list" "list" = some true)
  | .tuple _ => (by decide +kernel : kitB "tuple" "list" = some false)
  | .dict _ => (by decide +kernel : kitB "dict" "list" = some false)
def ofDict : PyData → Bool
  | .dict _ => true
  | _ => false
theorem kit_dict : ∀ d : PyData, kitB (tyName d) "dict" = some (ofDict d)
  | .none => (by decide +kernel : kitB "NoneType" "dict" = some false)
  | .bool _ => (by decide +kernel : kitB "bool" "dict" = some false)
  | .int _ => (by decide +kernel : kitB "int" "dict" = some false)
  | .str _ => (by decide +kernel : kitB "str" "dict" = some false)
  | .list _ => (by decide +kernel : kitB "list" "dict" = some false)
  | .tuple _ => (by decide +kernel : kitB "tuple" "dict" = some false)
  | .dict _ => (by decide +kernel : kitB "dict" "dict" = some true)
def ofStr : PyData → Bool
  | .str _ => true
  | _ => false
theorem kit_str : ∀ d : PyData, kitB (tyName d) "str" = some (ofStr d)
  | .none => (by decide +kernel : kitB "NoneType" "str" = some false)
  | .bool _ => (by decide +kernel : kitB "bool" "str" = some false)
  | .int _ => (by decide +kernel : kitB "int" "str" = some false)
  | .str _ => (by decide +kernel : kitB "str" "str" = some true)
  | .list _ => (by decide +kernel : kitB "list" "str" = some false)
  | .tuple _ => (by decide +kernel : kitB "tuple" "str" = some false)
  | .dict _ => (by decide +kernel : kitB "dict" "str" = some false)
end DL

namespace DL
open PySem PySem.Spec PyProof.Rows L2

/-! ### calls by keywords alone -/
def WK (X : Cx) (kws : List Keyword) : TA := fun σ H Q => ∀ (pos : Pos) (pins : List (Addr × Obj)) (s : Shared), Inv X pins σ H s → wpAny (model X.prog X.w) X.A (evalAll ((backToKw pos (keywordEach kws X.env)).map (·.2))) (AP X pins σ Q) X.xe s
theorem pk_w {X : Cx} {kws : List Keyword} : PK X kws (WK X kws) := ⟨fun pos pins s σ H Q I h => h pos pins s I⟩
theorem wk_of {X : Cx} {kws : List Keyword} {σ : L2.St} {H : Hp} {t : TA} {Q : List V → Hp → Prop} (h : PK X kws t) (q : t σ H Q) : WK X kws σ H Q := fun pos pins s I => h.run pos pins s σ H Q I q
def DK (X : Cx) (c : Cz) (kws : List Keyword) (ρ : Env) (st : c.m.St) (k : List Slot → Env → c.m.St → Prop) : Prop :=
  ∀ (τ : List Ent) (σ : L2.St) (H : Hp) (Q : List V → Hp → Prop), Here c.m X.K c.H0 (σ.zip ρ ++ τ) st H → σ.length = ρ.length → ContA c X.K σ τ k Q → ContX c X.K → WK X kws σ H Q
section
variable {X : Cx} {c : Cz} {e a b t : Expr} {es : List Expr} {ρ : Env} {st : c.m.St} {pos kpos : Pos} {k : Slot → Env → c.m.St → Prop} {kb : Bool → Env → c.m.St → Prop} {ka : List Slot → Env → c.m.St → Prop} {kws : List Keyword} {nm : Option Str} {K : PySem.W.Frag} {D : Dn c.m}
theorem dk_nil (h : ka [] ρ st) : DK X c [] ρ st ka := fun τ σ H Q hh hl hk hx => wk_of pk_nil (hk _ _ _ [] _ h rfl hh hl)
theorem dk_cons (h : DE X c e ρ st fun s ρ1 st1 => DK X c kws ρ1 st1 fun ss ρ2 st2 => ka (s :: ss) ρ2 st2) : DK X c (⟨nm, e, kpos⟩ :: kws) ρ st ka := by
  intro τ σ H Q hh hl hk hx
  refine wk_of (pk_cons pe_w pk_w) (h τ σ H _ hh hl (fun s ρ1 st1 v H1 h1 hh1 hl1 => ?_) hx)
  refine h1 _ σ H1 _ hh1 hl1 (fun ss ρ2 st2 vs H2 h2 hlen hh2 hl2 => ?_) hx
  refine hk _ _ _ (v :: vs) _ h2 (by rw [List.length_cons, List.length_cons, hlen]) (hh2.perm ?_) hl2
  refine List.Perm.append_left _ ?_
  show (argEnts vs ss ++ (some v, s) :: τ).Perm ((some v, s) :: (argEnts vs ss ++ τ))
  exact List.perm_middle
/-- the keywords' values in the parameters' order: as they come, or the other way round -/
def ord {α : Type} (r : Bool) (l : List α) : List α := if r then l.reverse else l
theorem ord_mem {α : Type} {r : Bool} {l : List α} {x : α} : x ∈ ord r l ↔ x ∈ l := by
  cases r
  · exact Iff.rfl
  · exact List.mem_reverse
theorem argEnts_app : ∀ {vs ws : List V} {ss ts : List Slot}, vs.length = ss.length → argEnts (vs ++ ws) (ss ++ ts) = argEnts vs ss ++ argEnts ws ts
  | [], _, [], _, _ => rfl
  | v :: vs, ws, s :: ss, ts, h => by
    show (some v, s) :: argEnts (vs ++ ws) (ss ++ ts) = (some v, s) :: (argEnts vs ss ++ argEnts ws ts)
    rw [argEnts_app (by simpa using h)]
theorem argEnts_rev : ∀ {vs : List V} {ss : List Slot}, vs.length = ss.length → argEnts vs.reverse ss.reverse = (argEnts vs ss).reverse
  | [], [], _ => rfl
  | v :: vs, s :: ss, h => by
    rw [List.reverse_cons, List.reverse_cons, argEnts_app (by simpa using h), argEnts_rev (by simpa using h)]
    show _ = ((some v, s) :: argEnts vs ss).reverse
    rw [List.reverse_cons]
    rfl
theorem argEnts_ord {r : Bool} {vs : List V} {ss : List Slot} (h : vs.length = ss.length) : argEnts (ord r vs) (ord r ss) = ord r (argEnts vs ss) := by
  cases r
  · rfl
  · exact argEnts_rev h
theorem ord_len {α : Type} {r : Bool} {l : List α} : (ord r l).length = l.length := by
  cases r
  · rfl
  · exact List.length_reverse
theorem vals_ord {r : Bool} {vs : List V} {us : List Value} (h : Vals vs us) : Vals (ord r vs) (ord r us) := by
  cases r
  · exact h
  · exact h.reverse
theorem ord_perm {α : Type} {r : Bool} {l : List α} : (ord r l).Perm l := by
  cases r
  · exact List.Perm.refl _
  · exact List.reverse_perm _
theorem dc_callK (r : Bool) {F : Pd} {n : Nat} {ps ks : List Str} {x : Str} {s : Stmt} {p : Pos} (C : Cal X.prog X.w X.K X.mg X.base x s ps n F) (hr : Room n X.A) (tk : Takes X c.W)
    (hb : ∀ (kV doc pm : Value) (an : Option Addr) (cdv ct : Value) (ws : List Value), ws.length = ps.length → bindArgs (PySem.W.fnOf x x (defArgs s) (defBody s) (defScope s) .none kV doc pm an cdv ct) ⟨[], ks.zip ws⟩ = pure (ps.zip (ord r ws)))
    (h : DK X c kws ρ st fun ss ρ1 st1 => ∀ A, F (c.m.avoid A) ((ord r ss).map normS) st1 (fun s st' => k s ρ1 st') c.xk) (hg : Gl X x := by rfl) (hks : (backToKw pos (keywordEach kws X.env)).filterMap (·.1) = ks := by rfl) (hall : (backToKw pos (keywordEach kws X.env)).all (·.1.isSome) = true := by rfl)
    (hpl : ((backTo pos (starEach [] X.env)).any (·.1) || (backToKw pos (keywordEach kws X.env)).any (·.1.isNone)) = false := by rfl) (hdb : (x == ("__debug__" : Str)) = false := by decide) : DE X c (.Call (.Name x p) [] kws pos) ρ st k := by
  obtain ⟨f, fd, Fn, hm, hkp, _, Fk⟩ := C.ex
  obtain ⟨oc, od, kV, doc, pm, an, cdv, ct, osl, rfl, lk, hcd⟩ := Fn.ex
  intro τ σ H Q hh hl hk hx pins s1 I
  refine wpAny_Call_Name_kw (ld_glob I hg hm ?_ hdb)
  refine PySem.W.callWith_KW0 (h₀ := X.base) I.ok.mod.kin hkp hall (thn (h τ σ H (fun zs H2 => spD X.K F (ord r zs) H2 Q (fun cls d H' => c.W cls d σ H')) hh hl (fun ss ρ1 st1 vs H1 h1 hlen hh1 hl1 => ?_) hx pos pins s1 I) fun ws s2 hq => ?_) hpl
  · refine spD_use (ss := ord r ss) (vs := ord r vs) (ρ := ρ1) (st := st1) (τ := τ) (by rw [ord_len, ord_len]; exact hlen) ?_ hl1 hk hx h1
    rw [argEnts_ord hlen]
    exact hh1.perm (List.Perm.append_left _ (List.Perm.append_right _ ord_perm.symm))
  · obtain ⟨zs, H2, I2, rz, q2⟩ := hq
    refine ⟨I2.kIn, ?_⟩
    rw [hks]
    have r2 := vals_ord (r := r) rz
    have hlen2 : (ord r ws).length = ps.length := by rw [← r2.length]; exact Fk.len _ _ _ _ q2
    have hlen3 : ws.length = ps.length := by rw [← hlen2, ord_len]
    refine wpAny_call (codeAny_mono (Fk.run X.A X.stack s2 H2 ⟨[] ++ [], ks.zip ws⟩ (ord r ws) (ord r zs) Q (fun cls d H' => c.W cls d σ H') hr I2.env0 (.of_eq (hb _ _ _ _ _ _ ws hlen3)) r2 q2) fun r' s' hq' => ?_)
    cases r' with
    | error e => exact passAt tk σ pins H2 s2 e s' I2 hq'
    | ok fl =>
      cases fl with
      | ret u => exact I2.after hq'
      | next => exact False.elim hq'
      | brk => exact False.elim hq'
      | cont => exact False.elim hq'

/-! ### the draws: a dict of ints, of a list that is emptied, of one that stays -/
structure Dr where
  large : List Int
  rest : Int
  turn : Int
def drK (la ca : Addr) (d : Dr) : List (Key × V) := [(.inr "large", .ref la), (.inr "rest", .int d.rest), (.inr "cells", .ref ca), (.inr "turn", .int d.turn)]
structure DrawAt (H : Hp) (dr la ca : Addr) (cs : List Int) (d : Dr) : Prop where
  h1 : H dr = some (.dK (drK la ca d))
  h2 : H la = some (.lst (d.large.map V.int))
  h3 : H ca = some (.lst (cs.map V.int))
  h4 : ca ≠ la
theorem DrawAt.n1 {H : Hp} {dr la ca : Addr} {cs : List Int} {d : Dr} (y : DrawAt H dr la ca cs d) : la ≠ dr := ne_of y.h2 y.h1 (by intro z; cases z)
theorem DrawAt.n2 {H : Hp} {dr la ca : Addr} {cs : List Int} {d : Dr} (y : DrawAt H dr la ca cs d) : ca ≠ dr := ne_of y.h3 y.h1 (by intro z; cases z)
structure HasDraw (m : Mem) (dr la ca : Addr) (cs : List Int) where
  get : m.St → Dr
  put : m.St → Dr → m.St
  gp : ∀ st d, get (put st d) = d
  rd : ∀ {K st H}, m.ok K st H → DrawAt H dr la ca cs (get st)
  wr : ∀ {K st H H' d}, m.ok K st H → (∀ b, b ≠ dr → b ≠ la → H' b = H b) → DrawAt H' dr la ca cs d → m.ok K (put st d) H'
  mdr : m.M dr
  mla : m.M la
def HasDraw.avoid {m : Mem} {dr la ca : Addr} {cs : List Int} (h : HasDraw m dr la ca cs) (A : List Addr) : HasDraw (m.avoid A) dr la ca cs where
  get := h.get
  put := h.put
  gp := h.gp
  rd := fun x => h.rd x.1
  wr := fun {K st H H' d} x k y => ⟨h.wr x.1 k y, fun a ha => by
    by_cases e1 : a = dr
    · rw [e1]; exact ⟨_, ow_dK, y.h1⟩
    · by_cases e2 : a = la
      · rw [e2]; exact ⟨_, ow_lst, y.h2⟩
      · rw [k a e1 e2]
        exact x.2 a ha⟩
  mdr := h.mdr
  mla := h.mla
variable {dr la ca : Addr} {cs : List Int}
/-- the draws change -/
theorem Here.draw {m : Mem} {H0 H H' : Hp} {L : List Ent} {st : m.St} {d : Dr} (hd : HasDraw m dr la ca cs) (h : Here m K H0 L st H) (k : ∀ b, b ≠ dr → b ≠ la → H' b = H b) (y : DrawAt H' dr la ca cs d) : Here m K H0 L (hd.put st d) H' := by
  refine h.step (fun b o n t e => ?_) (hd.wr h.ok k y)
  rw [k b (fun z => n (by rw [z]; exact hd.mdr)) fun z => n (by rw [z]; exact hd.mla)]
  exact e
theorem raw_of {m : Mem} {H0 H : Hp} {σ : L2.St} {ρ : Env} {τ : List Ent} {st : m.St} {i : Nat} {v : V} (h : Here m K H0 (σ.zip ρ ++ τ) st H) (hl : σ.length = ρ.length) (hρ : ρ[i]? = some (.raw v)) : σ[i]? = some (some v) := by
  obtain ⟨o, e1, e2, _⟩ := zip_get hl hρ
  have := h.all _ (List.mem_append_left _ e2)
  rw [e1]
  exact congrArg some this
theorem nk {a b : Str} (h : a ≠ b) : ¬ (Sum.inr a : Key) = Sum.inr b := fun z => h (Sum.inr.inj z)
theorem val_large {d : Dr} : valV (drK la ca d) (.inr "large") = some (.ref la) := valV_pos rfl
theorem val_rest {d : Dr} : valV (drK la ca d) (.inr "rest") = some (.int d.rest) := (valV_neg (nk (by decide))).trans (valV_pos rfl)
theorem val_cells {d : Dr} : valV (drK la ca d) (.inr "cells") = some (.ref ca) := (valV_neg (nk (by decide))).trans ((valV_neg (nk (by decide))).trans (valV_pos rfl))
theorem val_turn {d : Dr} : valV (drK la ca d) (.inr "turn") = some (.int d.turn) := (valV_neg (nk (by decide))).trans ((valV_neg (nk (by decide))).trans ((valV_neg (nk (by decide))).trans (valV_pos rfl)))
theorem put_any {d : Dr} {x : Str} {v : V} (h : valV (drK la ca d) (.inr x) = some v) (w : V) : putK (drK la ca d) (.inr x) w = (drK la ca d).map fun kv => if kv.1 = .inr x then (kv.1, w) else kv := by
  unfold putK
  rw [if_pos (by rw [valV_any, h]; rfl)]
theorem put_rest {d : Dr} {i : Int} : putK (drK la ca d) (.inr "rest") (.int i) = drK la ca { d with rest := i } := by
  rw [put_any val_rest]
  simp only [drK, List.map_cons, List.map_nil]
  rw [if_neg (nk (show ("large" : Str) ≠ "rest" by decide)), if_neg (nk (show ("cells" : Str) ≠ "rest" by decide)), if_neg (nk (show ("turn" : Str) ≠ "rest" by decide))]
  rfl
theorem put_turn {d : Dr} {i : Int} : putK (drK la ca d) (.inr "turn") (.int i) = drK la ca { d with turn := i } := by
  rw [put_any val_turn]
  simp only [drK, List.map_cons, List.map_nil]
  rw [if_neg (nk (show ("large" : Str) ≠ "turn" by decide)), if_neg (nk (show ("rest" : Str) ≠ "turn" by decide)), if_neg (nk (show ("cells" : Str) ≠ "turn" by decide))]
  rfl
/-- draw['key'] as a value -/
theorem dr_get {i : Nat} {x key : Str} {v : V} {s : Slot} {np kp : Pos} {j : Nat} (hd : HasDraw c.m dr la ca cs) (hu : X.A.units + 1 < cLine) (hρ : ρ[i]? = some (.raw (.ref dr))) (hv : valV (drK la ca (hd.get st)) (.inr key) = some v) (hs : (∃ d, s = .dat d ∧ flatD v = some d) ∨ s = .raw v) (h : k s ρ st)
    (hN : X.N[i]? = some x := by rfl) (hvis : Vis X.env.scope x := by first | exact Or.inl rfl | exact Or.inr (Or.inl rfl) | exact Or.inr (Or.inr rfl)) (hdb : (x == ("__debug__" : Str)) = false := by decide) (hcd : (x == ("__classdict__" : Str)) = false := by decide) (hns : NoSl (.Constant (.str key) j kp) := by exact fun _ _ => rfl) :
    DE X c (.Subscript (.Name x np) (.Constant (.str key) j kp) pos) ρ st k := by
  intro τ σ H Q hh hl hk hx
  have y := hd.rd hh.ok
  refine we_of (pe_dget hu (pe_var hN hvis hdb hcd) pe_str hns) ⟨.ref dr, raw_of hh hl hρ, dr, v, rfl, by rw [← hv]; exact DGet.k (k := Sum.inr key) y.h1, hk s ρ st v H h ?_ hl⟩
  rcases hs with ⟨d, rfl, hf⟩ | rfl
  · exact hh.flat hf
  · exact hh.put rfl rfl
/-- draw['key'] = e -/
theorem dr_put {i : Nat} {x key : Str} {np kp sp : Pos} {j : Nat} {upd' : Dr → Int → Dr} (hd : HasDraw c.m dr la ca cs) (hu : X.A.units + 1 < cLine) (hp : ∀ d z, putK (drK la ca d) (.inr key) (.int z) = drK la ca (upd' d z) ∧ (upd' d z).large = d.large)
    (h : DE X c e ρ st fun s ρ1 st1 => ∃ z, s = .dat (.int z) ∧ ρ1[i]? = some (.raw (.ref dr)) ∧ D.nx ρ1 (hd.put st1 (upd' (hd.get st1) z)))
    (hN : X.N[i]? = some x := by rfl) (hvis : Vis X.env.scope x := by first | exact Or.inl rfl | exact Or.inr (Or.inl rfl) | exact Or.inr (Or.inr rfl)) (hdb : (x == ("__debug__" : Str)) = false := by decide) (hcd : (x == ("__classdict__" : Str)) = false := by decide)
    (hsw : swapsWith e (some (.Subscript (.Name x np) (.Constant (.str key) j kp) sp)) pos.line X.env = pure false := by rfl) : DS X c (.Assign [.Subscript (.Name x np) (.Constant (.str key) j kp) sp] e pos) ρ st D := by
  intro τ σ H De hh hl hk hx
  refine ws_of (ps_dput hu (pe_var hN hvis hdb hcd) pe_str pe_w hsw) (h τ σ H _ hh hl (fun s ρ1 st1 v H1 h1 hh1 hl1 => ?_) hx)
  obtain ⟨z, rfl, hρ1, q⟩ := h1
  have ev : v = .int z := arg_flat hh1 (w := .int z) rfl
  subst ev
  have hh2 := hh1.cut
  have y := hd.rd hh2.ok
  refine ⟨.ref dr, raw_of hh2 hl1 hρ1, dr, upd H1 dr (.dK (drK la ca (upd' (hd.get st1) z))), rfl, ?_, hk.nx _ _ _ _ q (hh2.draw hd (fun b b1 b2 => upd_ne b1) ⟨upd_same, ?_, ?_, y.h4⟩) hl1⟩
  · rw [← (hp (hd.get st1) z).1]
    exact DPut.k (k := Sum.inr key) y.h1 (by show 4 < sizeLine; decide)
  · rw [upd_ne y.n1, (hp _ z).2]
    exact y.h2
  · rw [upd_ne y.n2]
    exact y.h3
/-- draw['large'] against [] -/
theorem dop_large {p : Addr} (hd : HasDraw c.m dr la ca cs) (h : k (.dat (.bool (!(hd.get st).large.isEmpty))) ρ st) : DOp K c (rNeD K) (.raw (.ref la)) (.own p []) ρ st k := by
  intro τ σ H Q v1 v2 hh hl hk
  have e1 : some v1 = some (V.ref la) := hh.all _ (List.mem_append_right _ (List.mem_cons_of_mem _ List.mem_cons_self))
  cases e1
  have y := hd.rd hh.ok
  have m2 := asD_ok hh (fun e he => List.mem_append_left _ he) hl (List.mem_append_right _ List.mem_cons_self) (AsD.own (ρ := ρ) p [])
  have di : ∀ l : List Int, DpAll K H (l.map V.int) (l.map PyData.int) := by
    intro l
    induction l with
    | nil => exact .nil
    | cons i l ih => exact .cons (.int i) ih
  have cl : ∀ l : List Int, PyData.canLayAll0 (l.map PyData.int) = true := by
    intro l
    induction l with
    | nil => rfl
    | cons i l ih => rw [List.map_cons, PyData.canLayAll0, ih]; rfl
  have dp : ∀ l : List Int, PyData.depthAll (l.map PyData.int) ≤ 1 := by
    intro l
    induction l with
    | nil => simp [PyData.depthAll]
    | cons i l ih => rw [List.map_cons, PyData.depthAll]; have : PyData.depth (.int i) ≤ 1 := by simp [PyData.depth]
                     omega
  have e2 : (!PyData.eqv (.list ((hd.get st).large.map PyData.int)) (.list [])) = !(hd.get st).large.isEmpty := by
    cases (hd.get st).large with
    | nil => rfl
    | cons i l => rfl
  refine ⟨.list ((hd.get st).large.map .int), .list [], .lst (.inl (.inl y.h2)) (di _), m2.dp rfl, ?_, rfl, ?_⟩
  · unfold SeqAt.shaped
    rw [Bool.and_eq_true]
    refine ⟨by rw [PyData.canLay0]; exact cl _, decide_eq_true ?_⟩
    have := dp (hd.get st).large
    rw [PyData.depth]
    omega
  · rw [e2]
    exact hk _ _ _ _ _ h (hh.two (v := .bl _) rfl) hl
/-- draw['large'].pop(0) -/
theorem dr_pop {i : Nat} {x : Str} {np kp sp apos zp : Pos} {j zj : Nat} {n : Int} {r : List Int} (hd : HasDraw c.m dr la ca cs) (hu : X.A.units + 1 < cLine) (hρ : ρ[i]? = some (.raw (.ref dr))) (hL : (hd.get st).large = n :: r) (h : k (.dat (.int n)) ρ (hd.put st { hd.get st with large := r }))
    (hN : X.N[i]? = some x := by rfl) (hvis : Vis X.env.scope x := by first | exact Or.inl rfl | exact Or.inr (Or.inl rfl) | exact Or.inr (Or.inr rfl)) (hdb : (x == ("__debug__" : Str)) = false := by decide) (hcd : (x == ("__classdict__" : Str)) = false := by decide) (hns : NoSl (.Constant (.str "large") j kp) := by exact fun _ _ => rfl)
    (hbase : attributeBase (.Subscript (.Name x np) (.Constant (.str "large") j kp) sp) "pop" X.env (eval (.Subscript (.Name x np) (.Constant (.str "large") j kp) sp) X.env) = eval (.Subscript (.Name x np) (.Constant (.str "large") j kp) sp) X.env := by rfl)
    (hfew : ((backTo pos (starEach ((.Constant (.int 0) zj zp : Expr) :: []) X.env)).all (fun x => !x.1) && (backToKw pos (keywordEach [] X.env)).all (fun x => x.1.isSome)
      && decide (((.Constant (.int 0) zj zp : Expr) :: ([] : List Expr)).length + ([] : List Keyword).length + (if ([] : List Keyword).isEmpty then 0 else 1) < 30)) = true := by rfl)
    (hline : (apos.endLine == pos.line) = true := by rfl) (hs : starEach ((.Constant (.int 0) zj zp : Expr) :: []) X.env = (false, eval (.Constant (.int 0) zj zp) X.env) :: starEach [] X.env := by rfl) (hplain : (backTo pos (starEach [] X.env)).any (·.1) = false := by rfl) :
    DE X c (.Call (.Attribute (.Subscript (.Name x np) (.Constant (.str "large") j kp) sp) "pop" apos) [.Constant (.int 0) zj zp] [] pos) ρ st k := by
  intro τ σ H Q hh hl hk hx
  have y := hd.rd hh.ok
  have eL := y.h2
  rw [hL] at eL
  refine we_of (pe_bm PySem.F.plainAttrs_list PySem.F.slot_list_pop PySem.F.type_list_pop (fun pins s σ H x vs v us Q => mt_popAt pins s σ H x vs v us Q) (pe_dget hu (pe_var hN hvis hdb hcd) pe_str hns) (pa_cons pe_int pa_nil hs) hbase hfew hline hs hplain) ?_
  refine ⟨.ref dr, raw_of hh hl hρ, dr, .ref la, rfl, by rw [← val_large (la := la) (ca := ca) (d := hd.get st)]; exact DGet.k (k := Sum.inr "large") y.h1, .inl ⟨rfl, _, .inl (.inl y.h2)⟩, la, _, 0, 0, .int n, rfl, rfl, eL, by decide, by decide, ?_, rfl, ?_⟩
  · show seqIndex? 0 ((n :: r).map V.int).length = some 0
    rw [List.length_map, List.length_cons]
    exact (ixN_seq (n := r.length + 1) (i := 0) (j := 0) (by unfold ixN; rw [if_pos (by omega), if_pos (by omega)]; rfl)).1
  · refine hk _ _ _ _ _ h ((hh.draw hd (d := { hd.get st with large := r }) (fun b b1 b2 => upd_ne b2) ⟨?_, upd_same, ?_, y.h4⟩).flat (v := .int n) rfl) hl
    · rw [upd_ne (Ne.symm y.n1)]
      exact y.h1
    · rw [upd_ne y.h4]
      exact y.h3
end
end DL

namespace DL
open PySem PySem.Spec PyProof.Rows L2 LamX

/-! ### an exception held as a value -/
def ExV (cls : Value) (d : Option Addr) (a : Addr) : HO := .ext fun h => ∃ (oe : Obj) (vs : Array Value), h.get? a = some oe ∧ Zc cls d oe ∧ oe.data = .fields vs
theorem nt_exV {cls : Value} {d : Option Addr} {a : Addr} : NT (ExV cls d a) := fun _ z => nomatch z
section
variable {X : Cx} {pins : List (Addr × Obj)} {σ : L2.St} {H : Hp} {s : Shared}
theorem track {a : Addr} {oe : Obj} {vs : Array Value} {cls : Value} {d : Option Addr} (I : Inv X ((a, oe) :: pins) σ H s) (hz : Zc cls d oe) (hd : oe.data = .fields vs) (h0 : X.s_0.heap.get? a = none) (hp : ∀ p ∈ X.pn ++ pins, p.1 ≠ a) : Inv X pins σ (upd H a (ExV cls d a)) s := by
  obtain ⟨e1, n1, ne1, nf1, dc⟩ := I.pin (a, oe) (List.mem_append_right _ List.mem_cons_self)
  have e1 : s.heap.get? a = some oe := e1
  have n1 : H a = none := n1
  have ne0 : ∀ b o, X.s_0.heap.get? b = some o → b ≠ a := fun b o e z => by
    rw [z, h0] at e
    cases e
  refine ⟨I.ok, I.os, I.bare, ⟨I.base.keep, I.base.slot, fun b o e n hx => ?_, I.base.there, fun b xs e => ?_, fun b o u e => ?_, fun b ps e => ?_⟩, I.loc, I.cell, ?_, fun x c e => ?_, fun p hp' => ?_, ?_, I.len⟩
  · rw [upd_ne (ne0 b o e)]
    exact I.base.free b o e n hx
  · have q := I.base.tups b xs e
    rw [upd_ne (ne_of_none q n1)]
    exact q
  · have q := I.base.frzs b o u e
    rw [upd_ne (ne_of_none q n1)]
    exact q
  · obtain ⟨m, q⟩ := I.base.tbls b ps e
    exact ⟨m, by rw [upd_ne (ne_of_none q n1)]; exact q⟩
  · rw [upd_ne (Ne.symm ne1)]
    exact I.free
  · have hc : c ≠ a := fun z => by
      obtain ⟨v, o, ho, hv⟩ := I.cell x c e
      rw [z, e1] at ho
      cases ho
      exact dc v hv
    rw [upd_ne hc]
    exact I.freeC x c e
  · obtain ⟨q1, q2, q3, q4, q5⟩ := I.pin p (by
      rcases List.mem_append.mp hp' with z | z
      · exact List.mem_append_left _ z
      · exact List.mem_append_right _ (List.mem_cons_of_mem _ z))
    exact ⟨q1, by rw [upd_ne (hp p hp')]; exact q2, q3, q4, q5⟩
  · exact I.hok.laidN (fun _ _ q => q) n1 ⟨⟨oe, vs, e1, hz, hd⟩, ⟨oe, e1⟩, fun _ _ ⟨o, v, q, r⟩ k => ⟨o, v, k o q, r⟩⟩
end
/-- no frame is a record of fields -/
theorem off_frames {l : List PySem.Env} {G h : Heap} {q : Addr} {oq : Obj} {fs : Array Value} (F : h.FunFrames G l) (there : h.get? q = some oq) (rec : oq.data = .fields fs) : q ∉ frs l := by
  intro inl
  obtain ⟨_, o2, there2, no⟩ := F.mem inl
  rw [there] at there2
  cases there2
  exact no fs rec
/-- an error out of the air was not at the entry, and is pinned by none -/
theorem out_of_air {X : Cx} {pins : List (Addr × Obj)} {σ : L2.St} {H : Hp} {s : Shared} {G : Heap} {q : Addr} (I : Inv X pins σ H s) (hex : X.ex = []) (ground : ∀ b o, s.heap.get? b = some o → b ∉ frs X.stack → G.get? b = some o) (noG : G.get? q = none) (off : q ∉ frs X.stack) :
    X.s_0.heap.get? q = none ∧ ∀ p ∈ X.pn ++ pins, p.1 ≠ q := by
  refine ⟨?_, ?_⟩
  · cases e0 : X.s_0.heap.get? q with
    | none => rfl
    | some o =>
      obtain ⟨o1, e1⟩ := I.base.there q o e0 fun z => by rw [hex] at z; cases z
      have e2 := ground q o1 e1 off
      rw [noG] at e2
      cases e2
  · intro p hp e
    have e1 := (I.pin p hp).1
    have e2 := ground p.1 p.2 e1 (by rw [e]; exact off)
    rw [e, noG] at e2
    cases e2
/-- what the clause 'except x as n' wishes of an error that it takes; the error is kept -/
def wKeep (K : PySem.W.Frag) (c : Value) (i n : Nat) (ts : Addr → Value → Option Addr → TS) (D : Ends) : WX := fun cls d σ H =>
  PySem.W.exmOne K cls c = some true ∧ (σ.length = n → ∀ a, H a = none → ts a cls d ⟨fun σ' H' => D.nx (σ'.set i none) (upd H' a (ExV cls d a)), fun _ _ => False, fun _ _ => False, fun _ _ => False⟩ (σ.set i (some (.ref a))) H)
section
variable {X : Cx} {x n : Str} {c : Value} {i : Nat} {body suite : List Stmt} {b₀ : Stmt} {np pos pos' : Pos} {tb : WX → TS} {ts : Addr → Value → Option Addr → TS}
/-- the suite's end: the name goes, the error is tracked -/
theorem keep_end {pins : List (Addr × Obj)} {D : Ends} {q : Addr} {oq : Obj} {fs : Array Value} {cls : Value} {d : Option Addr} (ok : X.Ok) (hN : X.N.Nodup) (hi : X.N[i]? = some n) (hln : X.env.kindOf n = some .local) (z : Zc cls d oq) (rec : oq.data = .fields fs) (q0 : X.s_0.heap.get? q = none) (qp : ∀ p ∈ X.pn ++ pins, p.1 ≠ q) {fl : Flow} {s : Shared}
    (h : SP (X.suite q ((q, oq) :: (X.pn ++ pins))) [] ⟨fun σ' H' => D.nx (σ'.set i none) (upd H' q (ExV cls d q)), fun _ _ => False, fun _ _ => False, fun _ _ => False⟩ fl s) :
    wpAny (model X.prog X.w) X.A (do bindName X.env n .none; unbindBehindTheSuite X.env n pos') (fun _ s7 => SP X pins D fl s7) X.xe s := by
  cases fl with
  | next =>
    obtain ⟨σ6, H6, S, want⟩ := h
    have back : Inv X ((q, oq) :: pins) σ6 H6 s := by
      refine ⟨ok, S.os, S.bare, S.base, S.loc, S.cell, S.free, S.freeC, fun p hp => S.pin p (List.mem_append_left _ ?_), S.hok, S.len⟩
      rcases List.mem_append.mp hp with hp | hp
      · exact List.mem_cons_of_mem _ (List.mem_append_left _ hp)
      · rcases List.mem_cons.mp hp with rfl | hp
        · exact List.mem_cons_self
        · exact List.mem_cons_of_mem _ (List.mem_append_right _ hp)
    exact gone_ok back hN hi hln fun s7 J => ⟨_, _, track J z rec q0 qp, want⟩
  | brk => obtain ⟨_, _, _, want⟩ := h; exact want.elim
  | cont => obtain ⟨_, _, _, want⟩ := h; exact want.elim
  | ret u => obtain ⟨_, _, _, _, _, want⟩ := h; exact want.elim
theorem ps_try_keep (hs : X.stack = X.env :: X.outer) (hf : X.env.frame = some X.env.locals) (hex : X.ex = []) (hN : X.N.Nodup) (hi : X.N[i]? = some n) (hln : X.env.kindOf n = some .local) (hc : Names X x c)
    (hb : ∀ (V : WX) (pl : List (Addr × Obj)) (ye : Value → Shared → Prop), Takes (X.tr pl ye) V → PassesOwn (model X.prog X.w) X.A X.env ye → PSs (X.tr pl ye) body (tb V))
    (hsu : ∀ (q : Addr) (oq : Obj) (kl : Value) (dq : Option Addr) (pl : List (Addr × Obj)), Zc kl dq oq → (∃ fs, oq.data = .fields fs) → PSs (X.suite q ((q, oq) :: pl)) (b₀ :: suite) (ts q kl dq)) :
    PS X (.Try body [.ExceptHandler (some (.Name x np)) (some n) (b₀ :: suite) pos'] [] [] pos) (fun D σ H => tb (wKeep X.K c i X.N.length ts D) D σ H) := by
  constructor
  intro pins s σ H D I h
  have ok := I.ok
  have stk : X.A.frames = some (X.env :: X.outer) := ok.frames.trans (congrArg some hs)
  apply wpAny_Try_except
  have tried := (hb (wKeep X.K c i X.N.length ts D) (X.pn ++ pins)
    (fun u s1 => wpAny (model X.prog X.w) X.A (noteFrame u X.env) (fun _ s2 => wpAny (model X.prog X.w) X.A (setFlight u none) (fun _ s3 => wpAny (model X.prog X.w) X.A (handleBy u X.env [.ExceptHandler (some (.Name x np)) (some n) (b₀ :: suite) pos']) (SP X pins D) X.xe s3) X.xe s2) X.xe s1)
    (fun u s1 air => ?_) PassesOwn.looking).run [] s σ H D (I.toTry _) h
  · refine wpAny_mono tried (fun fl s1 sp => ?_) fun _ _ z => z
    cases fl with
    | next => obtain ⟨σ1, H1, J, w⟩ := sp; exact wpAny_execs_nil ⟨σ1, H1, J.ofTry ok, w⟩
    | brk => obtain ⟨σ1, H1, J, w⟩ := sp; exact ⟨σ1, H1, J.ofTry ok, w⟩
    | cont => obtain ⟨σ1, H1, J, w⟩ := sp; exact ⟨σ1, H1, J.ofTry ok, w⟩
    | ret u => obtain ⟨v, σ1, H1, J, r, w⟩ := sp; exact ⟨v, σ1, H1, J.ofTry ok, r, w⟩
  · obtain ⟨q, G, sI, pins1, σ1, H1, cls, d, rfl, J1, ground, up, sky, nq, os, bare, taken, yes⟩ := air
    have J : Inv X pins σ1 H1 sI := J1.ofTry ok
    have noG : G.get? q = none := by rcases sky with ⟨_, z, _⟩ | ⟨_, z, _⟩ | ⟨_, z, _⟩ <;> exact z
    have sky2 : Sky G (X.env :: X.outer) q (Zc cls d) X.env.locals s1.heap := hs ▸ sky
    refine Sky.land Zc.steady stk hf sky2 fun hA flA upA => ?_
    obtain ⟨oA, vA, atA, zA, recA⟩ := flA.there
    have off : q ∉ frs (X.env :: X.outer) := off_frames flA.2.2.1 atA recA
    have offS : q ∉ frs X.stack := by rw [hs]; exact off
    have ne1 : q ≠ X.env.locals := fun z => off (List.mem_filterMap.mpr ⟨X.env, List.mem_cons_self, by rw [hf, z]⟩)
    have ne2 : q ∉ X.fs := fun m => by
      obtain ⟨e, m1, m2⟩ := List.mem_filterMap.mp m
      exact off (List.mem_filterMap.mpr ⟨e, List.mem_cons_of_mem _ m1, m2⟩)
    obtain ⟨q0, qp⟩ := out_of_air J hex ground noG offS
    have SA := (J.landed ground flA.1 (up.trans upA) os bare : Inv X pins σ1 H1 { s1 with heap := hA }).suite atA recA nq ne1 ne2
    have kind : PySem.W.Looks (model X.prog X.w) hA (typeOf (.ref q)) cls := fun A Q E t keep w => wpAny_typeOf_ref (keep _ _ atA) (by rw [zA.1]; exact w)
    refine wpAny_handleBy_cons (codeAny_handlers_test ?_) (fun z => by cases z)
    have named : ∀ {Q E : Value → Shared → Prop}, Q c { s1 with heap := hA } → wpAny (model X.prog X.w) (X.A.mark (some (.ref q))) (eval (.Name x np) X.env) Q E { s1 with heap := hA } := by
      intro Q E w
      rcases hc with ⟨gx, dx, mx | ⟨mx, vx, nx⟩⟩
      · exact ld_glob (X := X.suite q ((q, oA) :: (X.pn ++ pins))) SA gx mx w dx
      · exact ld_blt (X := X.suite q ((q, oA) :: (X.pn ++ pins))) SA gx mx vx w nx dx
    refine named ((PySem.W.exm_one (M := model X.prog X.w) SA.kIn kind taken).here (codeAny_handlers_suite_as ?_))
    refine HandSPX.lands_againZ flA fun hB flB upB => ?_
    obtain ⟨oB, vB, atB, zB, recB⟩ := flB.there
    have SB := (J.landed ground flB.1 ((up.trans upA).trans upB) os bare : Inv X pins σ1 H1 { s1 with heap := hB }).suite atB recB nq ne1 ne2
    refine store_ok (X := X.suite q ((q, oB) :: (X.pn ++ pins))) (v := .ref q) SB hN hi (.inl hln) rfl (fun sC SC => ?_) (.inr hln)
    exact wpAny_mono ((hsu q oB cls d (X.pn ++ pins) zB ⟨_, recB⟩).run [] sC _ H1 _ SC (yes J.len q nq)) (fun fl sD sp => keep_end ok hN hi hln zB recB q0 qp sp) fun _ _ z => z.elim
end
/-! ### caught: None or the error -/
def TCau (K : PySem.W.Frag) (CS : Addr) : (XK → Hp → VK → Prop) → Hp → VK → Prop := fun tl H Q =>
  tl (fun cls d H' => ∃ b, PySem.W.exmOne K cls (.ref CS) = some b ∧ b = true ∧ ∀ a, H' a = none → Q (.ref a) (upd H' a (ExV cls d a))) H fun _ H' => ∃ v, (some (some V.non) : Option (Option V)) = some (some v) ∧ Q v H'
theorem caught_gives {X : Cx} {x a y e n q : Str} {sg : Scope} {g CS : Addr} {cdg : Value} {jn : Nat} {p0 p0' p0'' p1 p2 p3 p4 p5 p6 p7 p8 p9 p10 p11 : Pos} (hNd : [a, y, n].Nodup) (hx : Loc sg y) (hsy : sg.names.lookup y = some .local) (hln : sg.names.lookup n = some .local)
    (hge : sg.names.lookup e = some .globalImplicit) (hme : X.mg e = some (.ref CS)) (hde : (e == ("__debug__" : Str)) = false) (hyd : (y == ("__debug__" : Str)) = false) (hyc : (y == ("__classdict__" : Str)) = false) (hnd : (n == ("__debug__" : Str)) = false) (hnc : (n == ("__classdict__" : Str)) = false) :
    GivesTo X [a, y, n] x sg g cdg [.Assign [.Name y p0] (.Constant .none jn p0') p0'', .Try [.Expr (.Call (.Name a p1) [] [] p2) p3] [.ExceptHandler (some (.Name e p4)) (some n) [.Assign [.Name y p5] (.Name n p6) p7] p8] [] [] p9, .Return (some (.Name y p10)) p11] a q (TCau X.K CS) := by
  intro f c' s H Q tl act hc h
  have hgl : Gl (cxOf C8.CX0 X.prog X.w X.K X.mg X.base [a, y, n] x sg g cdg X.A X.stack s H C8.E0).nox e := hge
  refine ⟨_, pss_cons (ps_set (i := 1) hNd rfl hx pe_non) (pss_cons (ps_try_keep (i := 2) (X := (cxOf C8.CX0 X.prog X.w X.K X.mg X.base [a, y, n] x sg g cdg X.A X.stack s H C8.E0).nox) (c := .ref CS)
      (tb := fun W D σ H => ∃ Ech : XK, (∀ cls d σ' H', Ech cls d H' → W cls d σ' H') ∧ σ[0]? = some (some (.ref f)) ∧ H c' = some (CodeO c' q) ∧ tl Ech H fun _ H' => D.nx σ H')
      rfl rfl rfl hNd rfl hln ⟨hgl, hde, .inl hme⟩ (fun W pn xe tk _ => ?_) (fun a oe cls d pn _ _ => pss_one (ps_set (i := 1) hNd rfl hx (pe_var (i := 2) rfl (.inl hln) hnd hnc)))) (pss_one (ps_ret (pe_var (i := 1) rfl (.inl hsy) hyd hyc)))), ?_⟩
  · exact ⟨fun pl s1 σ1 H2 D I ⟨Ech, wish, w0, w1, w2⟩ => (pss_one (ps_expr (pos := p3) (act W pn xe Ech p1 p2 tk wish))).run pl s1 σ1 H2 D I ⟨w0, w1, w2⟩⟩
  · refine ⟨fun cls d H' => ∃ b, PySem.W.exmOne X.K cls (.ref CS) = some b ∧ b = true ∧ ∀ a, H' a = none → Q (.ref a) (upd H' a (ExV cls d a)), fun cls d σ' H' ⟨b, e1, e2, e3⟩ => ⟨by rw [← e2]; exact e1, fun hlen ad na => ?_⟩, rfl, hc, h⟩
    match σ', hlen with
    | [s0, s1, s2], _ => exact ⟨.ref ad, rfl, .ref ad, rfl, e3 ad na⟩

/-! ### x(lambda: body), x the def that catches -/
def lamS : Slot → Slot
  | .own _ _ => .any
  | .ownX _ _ _ => .any
  | s => s
theorem ownP_lam (o : Option V) (s : Slot) : ownP (o, lamS s) = none := by cases s <;> rfl
theorem owns_lam : ∀ (σ : L2.St) (ρ : Env), owns (σ.zip (ρ.map lamS)) = []
  | [], _ => rfl
  | _ :: _, [] => rfl
  | o :: σ, s :: ρ => by
    show owns ((o, lamS s) :: σ.zip (ρ.map lamS)) = []
    rw [owns_cons, ownP_lam, owns_lam σ ρ]
    rfl
theorem lam_ok {N : Addr → Prop} {K : PySem.W.Frag} {H : Hp} : ∀ {σ : L2.St} {ρ : Env}, (∀ e ∈ σ.zip ρ, EntOk N K H e) → ∀ e ∈ σ.zip (ρ.map lamS), EntOk N K H e
  | [], _, _, e, he => by cases he
  | _ :: _, [], _, e, he => by cases he
  | o :: σ, s :: ρ, h, e, he => by
    rcases List.mem_cons.mp (show e ∈ (o, lamS s) :: σ.zip (ρ.map lamS) from he) with rfl | he
    · have q := h (o, s) List.mem_cons_self
      cases s with
      | own p ds => trivial
      | ownX p u S => trivial
      | _ => exact q
    · exact lam_ok (fun e he => h e (List.mem_cons_of_mem _ he)) e he
theorem Here.owned {m : Mem} {K : PySem.W.Frag} {H0 H : Hp} {L : List Ent} {st : m.St} (h : Here m K H0 L st H) : ∀ a ∈ owns L, ∃ o, Ow o ∧ H a = some o := fun a ha => by
  obtain ⟨x, hx, e⟩ := mem_owns.mp ha
  exact (h.all x hx).at e
/-- a memory that knows the tables -/
structure HasTabs (m : Mem) (T : List (Addr × Str)) : Prop where
  rd : ∀ {K st H}, m.ok K st H → Tabs T H
  wr : ∀ {K st H H'}, m.ok K st H → ExtN H H' → Tabs T H' → m.ok K st H'
theorem HasTabs.avoid {m : Mem} {T : List (Addr × Str)} (h : HasTabs m T) (A : List Addr) : HasTabs (m.avoid A) T where
  rd := fun x => h.rd x.1
  wr := fun x e t => ⟨h.wr x.1 e t, fun a ha => by
    obtain ⟨o, n, q⟩ := x.2 a ha
    exact ⟨o, n, e a o q n.1⟩⟩
/-- a def that catches what its lambda raises -/
structure Cau (K : PySem.W.Frag) (mg : Str → Option Value) (x : Str) (CS : Addr) (f : Addr) (bg : List Stmt) (sg : Scope) (a y n : Str) : Prop where
  nd : [a, y, n].Nodup
section
variable {X : Cx} {c : Cz} {ρ : Env} {st : c.m.St} {k : Slot → Env → c.m.St → Prop}
theorem de_caughtG {T : List (Addr × Str)} {CS : Addr} {x a : Str} {g c0 P : Addr} {kk : Nat} {pg : Arguments} {bg : List Stmt} {sg : Scope} {dV kV doc pm cdv ct oc : Value} {an od : Option Addr} {osl : Array (Option Value)} {Ng : List Str}
    {params : Arguments} {body : Expr} {scope : Scope} {p lpos pos : Pos} (hg : Gl X x) (hm : X.mg x = some (.ref g)) (hk : PySem.W.keepIn X.K (.ref g) = true)
    (there : X.K.lookup g = some ⟨oc, od, .func (PySem.W.fnOf x x pg bg sg dV kV doc pm an cdv ct), osl⟩) (coded : PySem.W.codeIn X.K cdv x = true) (hb : L2.Binds X.K (PySem.W.fnOf x x pg bg sg dV kV doc pm an cdv ct) [a] []) (Sg : FnScope Ng [a] sg) (hNg : Ng[0]? = some a) (hva : Vis sg a)
    (hG : GivesTo X Ng x sg g cdv bg a (X.env.qual ++ "<lambda>") (TCau X.K CS))
    (TB : TabB X.base X.mg c0 P) (hcode : X.env.code = .ref c0) (hmT : (P, X.env.qual ++ "<lambda>") ∈ T) (hu : ∀ p ∈ T, p.1 = P → p.2 = X.env.qual ++ "<lambda>") (hr : Room (kk + 2) X.A) (L : LamS X.env.scope scope) (hdef : defaultsOf params X.env = ([], []))
    (noArg : ∀ (qn : Str) (cs : List (Str × Addr)) (v1 v2 v3 : Value), bindArgs (PySem.W.kla_fn "<lambda>" qn params body scope cs v1 v2 v3) ⟨[], []⟩ = pure [])
    (ht : HasTabs c.m T)
    (h : ∀ (A' : Around) (outer : List PySem.Env) (s : Shared) (H H0 : Hp) (E : XK) (f c' : Addr) (A : List Addr), Room kk (A'.deeper (lamEnv X scope s.heap.objs.size f c')) →
      DE (lamCx X A' outer s H E scope f c') ⟨fun cls d _ H' => E cls d H', c.m.avoid A, H0, fun ex st' => PySem.W.exmOne X.K ex.cls (.ref CS) = some true ∧ ex.fs = [] ∧ k (.obj (ExV ex.cls none)) ρ st'⟩ body (ρ.map lamS) st fun _ _ st' => k (.dat .none) ρ st')
    (nx : (x == ("__debug__" : Str)) = false := by decide) (na : (a == ("__debug__" : Str)) = false := by decide) (nc : (a == ("__classdict__" : Str)) = false := by decide) :
    DE X c (.Call (.Name x p) [.Lambda params body scope lpos] [] pos) ρ st k := by
  intro τ σ H Q hh hl hkk hx
  refine we_of (pe_lamcall (t := fun E σ H' Q' => ∀ (A' : Around) (outer : List PySem.Env) (s : Shared) (H : Hp) (f c' : Addr), Room kk (A'.deeper (lamEnv X scope s.heap.objs.size f c')) → WE (lamCx X A' outer s H E scope f c') body σ H' Q') hg hm hk there coded hb Sg hNg hva hG TB hcode hmT hu hr L hdef noArg
    (fun A' outer s H E f c' hr' => ⟨fun pins s' σ H' Q I q => q A' outer s H f c' hr' pins s' I⟩) nx na nc) ⟨ht.rd hh.ok, fun H1 eN T1 => ?_⟩
  have hh1 : Here c.m X.K c.H0 (σ.zip ρ ++ τ) st H1 := hh.step (fun b o _ t e => eN b o e t) (ht.wr hh.ok eN T1)
  intro A' outer s H2 f c' hr'
  refine h A' outer s H2 H1 _ f c' (owns (σ.zip ρ ++ τ)) hr' [] σ H1 _ ⟨⟨hh1.ok, hh1.owned⟩, Kp.refl _ _, ?_, ?_, ?_⟩ (by rw [List.length_map]; exact hl) (fun s' ρ' st' v H3 q1 q2 _ => ?_) fun ex st' d σ' H3 q1 ok kp xa => ?_
  · rw [List.append_nil, owns_lam]
    exact List.nodup_nil
  · rw [List.append_nil, owns_lam]
    exact fun p hp => (nomatch hp)
  · rw [List.append_nil, owns_lam]
    have q := lam_ok (σ := σ) (ρ := ρ) fun e he => hh1.all e (List.mem_append_left _ he)
    intro e he
    have z := q e he
    have no : ownP e = none := by
      have : ∀ (σ : L2.St) (ρ : Env), ∀ e ∈ σ.zip (ρ.map lamS), ownP e = none := by
        intro σ
        induction σ with
        | nil => intro ρ e he; cases he
        | cons o σ ih =>
          intro ρ e he
          cases ρ with
          | nil => cases he
          | cons s ρ =>
            rcases List.mem_cons.mp (show e ∈ (o, lamS s) :: σ.zip (ρ.map lamS) from he) with rfl | he
            · exact ownP_lam o s
            · exact ih ρ e he
      exact this σ ρ e he
    exact z.move (fun a o n t e => ⟨fun y => y.elim n fun y => (nomatch y), e⟩) fun p ds e2 => by
      rw [show ownP e = none from no] at e2
      cases e2
  · refine ⟨.non, rfl, hkk _ _ _ _ _ q1 ?_ hl⟩
    exact (hh1.step q2.kp q2.ok.1).flat (v := .non) rfl
  · obtain ⟨e1, e2, e3⟩ := q1
    refine ⟨true, e1, rfl, fun ad na => ?_⟩
    have hd0 : d = none := by
      rcases xa with ⟨_, z⟩ | ⟨_, _, z, _⟩
      · exact z
      · exact absurd e2 z
    subst hd0
    have h3 := hh1.step kp ok.1
    refine hkk _ _ _ _ _ e3 ((h3.alloc (o := ExV ex.cls none ad) na).put rfl ⟨ad, rfl, own_ne h3 na, nt_exV, upd_same⟩) hl
end
end DL

namespace DL
open PySem PySem.Spec PyProof.Rows L2 LamX

/-! ### isinstance of a kept error -/
def rIsX (K : PySem.W.Frag) : List V → Hp → VK → Prop := fun xs H Q => ∃ (a D : Addr) (c : V) (cv : Value) (b : Bool), xs = [.ref a, c] ∧ H a = some (ExV (.ref D) none a) ∧ ExcC K D ∧ (∀ u, RelV c u → u = cv) ∧ PySem.W.kitOne K (.ref D) cv = some b ∧ Q (.bl b) H
theorem call_isX {X : Cx} : CallR X (.builtin "isinstance") (rIsX X.K) := by
  intro pins s σ H xs us Q I r h
  obtain ⟨a, D, c, cv, b, rfl, hH, C, hcv, e, q⟩ := h
  cases r with
  | cons rx rr =>
    cases rr with
    | cons rt rr =>
      cases rr
      cases rx
      have ec := hcv _ rt
      subst ec
      obtain ⟨⟨oe, vs, hget, hz, hv⟩, _, _⟩ := I.hok a _ hH
      have inst : PySem.W.InstAt s.heap a oe D none := ⟨hget, hz.1, by unfold PySem.W.notCls; rw [hv] <;> rfl, by rw [hz.2]; trivial⟩
      refine PySem.W.kia_one (PySem.W.handS_kitx_exc C.hg C.hk C.hs C.hd C.ha C.hn C.ht C.hm) I.kIn inst e ?_ fun tk => ⟨.bl b, H, I.kept (t' := tk) fun _ _ w => w, rfl, q⟩
      exact fun w => nomatch w
section
variable {X : Cx} {c : Cz} {e a b t : Expr} {es : List Expr} {ρ : Env} {st : c.m.St} {pos : Pos} {k : Slot → Env → c.m.St → Prop} {K : PySem.W.Frag}
theorem dcall_isX {D C : Addr} {x : Bool} (hC : ExcC K D) (hk1 : PySem.W.kitOne K (.ref D) (.ref C) = some x) (h : k (.dat (.bool x)) ρ st) : DCall K c (rIsX K) [.obj (ExV (.ref D) none), .raw (.ref C)] ρ st k := by
  intro τ σ H Q vs hlen hh hl hk
  obtain ⟨v, w, rfl⟩ := two_of hlen
  have h' : Here c.m K c.H0 (σ.zip ρ ++ (some v, .obj (ExV (.ref D) none)) :: (some w, .raw (.ref C)) :: τ) st H := hh
  obtain ⟨a, e, n, tt, q⟩ := h'.all _ (List.mem_append_right _ List.mem_cons_self)
  cases e
  have e : some w = some (V.ref C) := h'.all _ (List.mem_append_right _ (List.mem_cons_of_mem _ List.mem_cons_self))
  cases e
  exact ⟨a, D, .ref C, .ref C, x, rfl, q, hC, fun u r => r, hk1, hk _ _ _ _ _ h (h'.two (v := .bl _) rfl) hl⟩
/-! ### displays of dicts -/
theorem de_dict0 (h : k (.dat (.dict [])) ρ st) : DE X c (.Dict [] [] pos) ρ st k := by
  intro τ σ H Q hh hl hk hx
  refine we_of pe_dnewK fun p hp => hk _ _ _ _ _ h ((hh.alloc (o := .dK []) hp).put rfl ⟨.ref p, rfl, ?_⟩) hl
  exact .dct (kvs := []) (ds := []) (own_ne hh hp) (.inl upd_same) .nil
theorem de_dict1 {ke ve : Expr} {x : Str} {v : V} {d : PyData} (hk1 : PE X ke (tC (.str x))) (hv1 : PE X ve (tC v)) (hv : flatD v = some d) (h : k (.dat (.dict [(.str x, d)])) ρ st) : DE X c (.Dict [some ke] [ve] pos) ρ st k := by
  intro τ σ H Q hh hl hk hx
  refine we_of (pe_disp (pps_cons hk1 hv1 pps_nil) rfl rfl (by simp) (by simp)) fun p hp => ?_
  refine ⟨upd_same, [(.inr x, v)], rfl, by simp, ?_⟩
  have e : upd (upd H p (.dK [])) p (.dK (mergeK [] [((Sum.inr x : Key), v)])) = upd H p (.dK [((Sum.inr x : Key), v)]) := by
    funext b
    unfold upd
    split <;> rfl
  rw [e]
  refine hk _ _ _ _ _ h ((hh.alloc (o := .dK [((Sum.inr x : Key), v)]) hp).put rfl ⟨.ref p, rfl, ?_⟩) hl
  exact .dct (kvs := [(.inr x, v)]) (ds := [d]) (own_ne hh hp) (.inl upd_same) (.cons (flat_da hv) .nil)
/-! ### for cell in draw['cells'] -/
theorem ints_da {N : Addr → Prop} {H : Hp} (l : List Int) : DaAll N K H (l.map V.int) (l.map PyData.int) := by
  induction l with
  | nil => exact .nil
  | cons i l ih => exact .cons (.int i) ih
theorem di_cells {tg : Expr} {dr la ca : Addr} {cs : List Int} {ki : List PyData → Env → c.m.St → Prop} (hd : HasDraw c.m dr la ca cs) (h : DE X c e ρ st fun s ρ1 st1 => s = .raw (.ref ca) ∧ ki (cs.map PyData.int) ρ1 st1) : DI X c tg e ρ st ki := by
  intro τ σ H R hh hl hk hx
  refine wi_of (pi_list pe_w) (h τ σ H _ hh hl (fun s ρ1 st1 v H1 h1 hh1 hl1 => ?_) hx)
  obtain ⟨rfl, q⟩ := h1
  have ev : v = .ref ca := Option.some.inj (hh1.all _ (List.mem_append_right _ List.mem_cons_self))
  subst ev
  have rd : ∀ (A B : List Ent) (st : c.m.St) (H : Hp), Here c.m X.K c.H0 (A ++ ([] ++ B)) st H → ∃ xs, SqL X.K H ca xs ∧ DaAll (fun a => c.m.N a ∨ a ∈ owns (A ++ ([] ++ B))) X.K H xs (cs.map PyData.int) := fun A B st H h => ⟨_, .inl (.inl (hd.rd h.ok).h3), ints_da cs⟩
  obtain ⟨xs, q1, _⟩ := rd (σ.zip ρ1) τ _ H1 hh1.cut
  exact ⟨ca, rfl, ⟨xs, q1⟩, hk _ ρ1 st1 _ [] _ q (walk_seq (p := 0) (Sq := fun H xs => SqL X.K H ca xs) rd (fun i H z => z) (fun i H z => z) fun i H x H' z => z) hh1.cut hl1⟩
end
/-! ### a def whose code object is known -/
structure DfC (K : PySem.W.Frag) (mg : Str → Option Value) (x : Str) (s : Stmt) (ps : List Str) (c0 : Addr) : Prop where
  ex : ∃ (f : Addr) (oc : Value) (od : Option Addr) (kV doc pm : Value) (an : Option Addr) (ct : Value) (osl : Array (Option Value)),
    K.lookup f = some ⟨oc, od, .func (PySem.W.fnOf x x (defArgs s) (defBody s) (defScope s) .none kV doc pm an (.ref c0) ct), osl⟩ ∧ PySem.W.codeIn K (.ref c0) x = true ∧ PySem.W.keepIn K (.ref f) = true ∧ mg x = some (.ref f) ∧ Binds K (PySem.W.fnOf x x (defArgs s) (defBody s) (defScope s) .none kV doc pm an (.ref c0) ct) ps []
section
variable {P : Program} {w : World} {K : PySem.W.Frag} {mg : Str → Option Value} {base : Heap}
/-- fn_ok where the code object is known -/
theorem fn_okC {x qual : Str} {st : Stmt} {f : Addr} {N ps : List Str} {kk : Nat} {F : Pd} {oc : Value} {od : Option Addr} {kV doc pm cdv : Value} {an : Option Addr} {ct : Value} {osl : Array (Option Value)}
    (lk : K.lookup f = some ⟨oc, od, .func (PySem.W.fnOf x qual (defArgs st) (defBody st) (defScope st) .none kV doc pm an cdv ct), osl⟩) (hcd : PySem.W.codeIn K cdv qual = true) (S : FnScope N ps (defScope st))
    (len : ∀ m ss s k xk, F m ss s k xk → ss.length = ps.length)
    (body : ∀ (X : Cx) (c : Cz), (∃ A outer s H E, X = cxOf (L2.CX P w) P w K mg base N qual (defScope st) f cdv A outer s H E) → Room kk X.A → Takes X c.W → PassesOwn (model X.prog X.w) X.A X.env X.xe → ∀ ss s k, F c.m ss s k c.xk → DB X c (defBody st) (startD N ss) s ⟨fun _ s' => k (.dat .none) s', k, fun _ _ => False, fun _ _ => False⟩) :
    FnOk P w K mg base (L2.CX P w) (kk + 1) f (PySem.W.fnOf x qual (defArgs st) (defBody st) (defScope st) .none kV doc pm an cdv ct) ps (spD K F) := by
  refine fn_of lk hcd S (fun vs H Q E h => ?_) fun A outer s H vs Q E hr h => ?_
  · obtain ⟨m, ss, s, k, xk, _, hl, _, hF, _⟩ := h
    rw [hl]
    exact len _ _ _ _ _ hF
  · obtain ⟨m, ss, s0, k, xk, hok, hl, hargs, hF, hq, hE⟩ := h
    refine ⟨WB _ (defBody st), pss_w, ?_⟩
    have e0 : (L2.start N vs).zip (startD N ss) = argEnts vs ss ++ List.replicate (N.length - ss.length) (none, Slot.any) := by
      unfold L2.start startD
      rw [hl]
      exact zip_start (N := N) hl
    have no : ∀ y ∈ (L2.start N vs).zip (startD N ss), ownP y = none := fun y hy => by
      rw [e0] at hy
      rcases List.mem_append.mp hy with hy | hy
      · exact (hargs y hy).2
      · rw [List.eq_of_mem_replicate hy]
        rfl
    have own0 : owns ((L2.start N vs).zip (startD N ss) ++ []) = [] := by
      rw [List.append_nil]
      cases e : owns ((L2.start N vs).zip (startD N ss)) with
      | nil => rfl
      | cons p r =>
        obtain ⟨y, hy, ey⟩ := mem_owns.mp (show p ∈ owns ((L2.start N vs).zip (startD N ss)) by rw [e]; exact List.mem_cons_self)
        rw [no y hy] at ey
        cases ey
    refine body _ ⟨fun cls d _ H' => E cls d H', m, H, xk⟩ ⟨A, outer, s, H, E, rfl⟩ hr (takes_of rfl rfl rfl rfl) (passes_of rfl) ss s0 k hF [] (L2.start N vs) H _ ⟨hok, Kp.refl _ _, by rw [own0]; exact List.nodup_nil, by rw [own0]; exact fun p hp => (nomatch hp), ?_⟩ ?_ ⟨fun ρ' st' σ' H' h1 hh hl => ?_, fun _ _ _ _ h => h.elim, fun _ _ _ _ h => h.elim, fun s' st' v H' h1 ok kp b => hq _ _ _ _ h1 ok kp b⟩ ?_
    · rw [own0, List.append_nil, e0]
      intro y hy
      rcases List.mem_append.mp hy with hy | hy
      · exact (hargs y hy).1.move (fun a o n t e => ⟨fun z => z.elim n fun z => (nomatch z), e⟩) fun _ _ _ _ q => q
      · rw [List.eq_of_mem_replicate hy]
        trivial
    · unfold L2.start startD
      rw [List.length_append, List.length_append, List.length_map, List.length_replicate, List.length_replicate, hl]
    · exact hq _ _ _ _ h1 hh.ok hh.kp (show Da m.N K H' .non .none from .non)
    · exact fun ex st' d σ' H' h1 ok kp xa => hE _ _ _ _ h1 ok kp xa
theorem calC_of {x : Str} {s : Stmt} {N ps : List Str} {n : Nat} {F : Pd} {c0 : Addr} (D : DfC K mg x s ps c0) (S : FnScope N ps (defScope s)) (len : ∀ m ss s k xk, F m ss s k xk → ss.length = ps.length)
    (body : ∀ (f : Addr) (A : Around) (outer : List PySem.Env) (s1 : Shared) (H : Hp) (E : XK) (c : Cz), Room n (cxOf (L2.CX P w) P w K mg base N x (defScope s) f (.ref c0) A outer s1 H E).A → Takes (cxOf (L2.CX P w) P w K mg base N x (defScope s) f (.ref c0) A outer s1 H E) c.W →
      PassesOwn (model P w) (cxOf (L2.CX P w) P w K mg base N x (defScope s) f (.ref c0) A outer s1 H E).A (cxOf (L2.CX P w) P w K mg base N x (defScope s) f (.ref c0) A outer s1 H E).env (cxOf (L2.CX P w) P w K mg base N x (defScope s) f (.ref c0) A outer s1 H E).xe →
      ∀ ss st k, F c.m ss st k c.xk → DB (cxOf (L2.CX P w) P w K mg base N x (defScope s) f (.ref c0) A outer s1 H E) c (defBody s) (startD N ss) st ⟨fun _ s' => k (.dat .none) s', k, fun _ _ => False, fun _ _ => False⟩) : Cal P w K mg base x s ps (n + 1) F := by
  obtain ⟨f, oc, od, kV, doc, pm, an, ct, osl, lk, hcd, hkp, hm, hb⟩ := D.ex
  refine ⟨f, _, ⟨⟨oc, od, kV, doc, pm, an, .ref c0, ct, osl, rfl, lk, hcd⟩, hkp⟩, hm, hkp, hb, fn_okC lk hcd S len fun X c hX hr tk hp ss st k h => ?_⟩
  obtain ⟨A, outer, s1, H, E, rfl⟩ := hX
  exact body f A outer s1 H E c hr tk hp ss st k h
end
/-! ### the def that catches, by its facts -/
structure CauF (K : PySem.W.Frag) (mg : Str → Option Value) (sc : Stmt) (CS : Addr) : Prop where
  ex : ∃ (g : Addr) (oc : Value) (od : Option Addr) (kV doc pm cdv : Value) (an : Option Addr) (ct : Value) (osl : Array (Option Value)),
    K.lookup g = some ⟨oc, od, .func (PySem.W.fnOf "_law_caught" "_law_caught" (defArgs sc) (defBody sc) (defScope sc) .none kV doc pm an cdv ct), osl⟩ ∧ PySem.W.codeIn K cdv "_law_caught" = true ∧ PySem.W.keepIn K (.ref g) = true ∧ mg "_law_caught" = some (.ref g) ∧ Binds K (PySem.W.fnOf "_law_caught" "_law_caught" (defArgs sc) (defBody sc) (defScope sc) .none kV doc pm an cdv ct) ["work"] []
  me : mg "ShapeError" = some (.ref CS)
section
variable {X : Cx} {c : Cz} {ρ : Env} {st : c.m.St} {k : Slot → Env → c.m.St → Prop}
theorem de_caught {T : List (Addr × Str)} {sc : Stmt} {CS c0 P : Addr} {kk : Nat} {params : Arguments} {body : Expr} {scope : Scope} {p lpos pos : Pos} (F : CauF X.K X.mg sc CS)
    (Sg : FnScope ["work", "caught", "error"] ["work"] (defScope sc)) (hB : ∃ (jn : Nat) (p0 p0' p0'' p1 p2 p3 p4 p5 p6 p7 p8 p9 p10 p11 : Pos), defBody sc = [.Assign [.Name "caught" p0] (.Constant .none jn p0') p0'', .Try [.Expr (.Call (.Name "work" p1) [] [] p2) p3] [.ExceptHandler (some (.Name "ShapeError" p4)) (some "error") [.Assign [.Name "caught" p5] (.Name "error" p6) p7] p8] [] [] p9, .Return (some (.Name "caught" p10)) p11])
    (hSy : (defScope sc).names.lookup ("caught" : Str) = some .local) (hSn : (defScope sc).names.lookup ("error" : Str) = some .local) (hSw : (defScope sc).names.lookup ("work" : Str) = some .local) (hSe : (defScope sc).names.lookup ("ShapeError" : Str) = some .globalImplicit)
    (TB : TabB X.base X.mg c0 P) (hcode : X.env.code = .ref c0) (hmT : (P, X.env.qual ++ "<lambda>") ∈ T) (hu : ∀ p ∈ T, p.1 = P → p.2 = X.env.qual ++ "<lambda>") (hr : Room (kk + 2) X.A) (ht : HasTabs c.m T)
    (h : ∀ (A' : Around) (outer : List PySem.Env) (s : Shared) (H H0 : Hp) (E : XK) (f c' : Addr) (A : List Addr), Room kk (lamCx X A' outer s H E scope f c').A → Takes (lamCx X A' outer s H E scope f c') (fun cls d _ H' => E cls d H') →
      DE (lamCx X A' outer s H E scope f c') ⟨fun cls d _ H' => E cls d H', c.m.avoid A, H0, fun ex st' => PySem.W.exmOne X.K ex.cls (.ref CS) = some true ∧ ex.fs = [] ∧ k (.obj (ExV ex.cls none)) ρ st'⟩ body (ρ.map lamS) st fun _ _ st' => k (.dat .none) ρ st')
    (L : lamSB X.env.scope scope = true := by rfl) (hdef : defaultsOf params X.env = ([], []) := by rfl)
    (hbind : ∀ (q : Str) (cl : List (Str × Addr)) (pm cv ctv : Value), bindArgs (PySem.W.kla_fn "<lambda>" q params body scope cl pm cv ctv) ⟨[], []⟩ = pure [] := by intro _ _ _ _ _; rfl) (hg : Gl X "_law_caught" := by rfl) :
    DE X c (.Call (.Name "_law_caught" p) [.Lambda params body scope lpos] [] pos) ρ st k := by
  obtain ⟨g, oc, od, kV, doc, pm, cdv, an, ct, osl, lk, hcd, hkp, hm, hb⟩ := F.ex
  obtain ⟨jn, p0, p0', p0'', p1, p2, p3, p4, p5, p6, p7, p8, p9, p10, p11, eB⟩ := hB
  refine de_caughtG (CS := CS) hg hm hkp lk hcd hb Sg rfl (.inl hSw) ?_ TB hcode hmT hu hr (lamS_by L) hdef hbind ht (fun A' outer s H H0 E f c' A hr' => h A' outer s H H0 E f c' A hr' (takes_of rfl rfl rfl rfl))
  rw [eB]
  exact caught_gives (by decide) (.inl hSy) hSy hSn hSe F.me (by decide) (by decide) (by decide) (by decide) (by decide)
end
end DL

namespace DL
open PySem PySem.Spec PyProof.Rows L2 LamX
/-- an own error class over ValueError: C, of the package's base CS -/
structure ErrC (K : PySem.W.Frag) (mg : Str → Option Value) (x : Str) (C CS : Addr) : Prop where
  q : PySem.W.excIn K C [.type "ValueError", .type "Exception", .type "BaseException", .type "object"] "ValueError.__new__" = true
  mg : mg x = some (.ref C)
  kp : PySem.W.keepIn K (.ref C) = true
  sub : PySem.W.subIn K (.ref C) (.type "BaseException") = some true
  ty : PySem.W.typeIn K (.ref C) = some (.type "type")
  exm : PySem.W.exmOne K (.ref C) (.ref CS) = some true
  ic : ExcC K C
section
variable {X : Cx} {c : Cz} {e a b t : Expr} {es : List Expr} {ρ : Env} {st : c.m.St} {pos : Pos} {k : Slot → Env → c.m.St → Prop} {K : PySem.W.Frag}
theorem ds_raiseE {D : Dn c.m} {x m : Str} {C CS : Addr} {j : Nat} {p p2 pos2 : Pos} (E : ErrC X.K X.mg x C CS) (hc : X.calm = true) (tk : Takes X c.W) (h : c.xk ⟨.ref C, []⟩ st) (hg : Gl X x := by rfl) (hdb : (x == ("__debug__" : Str)) = false := by decide) :
    DS X c (.Raise (some (.Call (.Name x p) [.Constant (.str m) j p2] [] pos2)) none pos) ρ st D := ds_raise PySem.F.excBase_ValueError E.q E.mg E.kp (raises_own E.sub E.ty) hc tk h hg hdb
/-- isinstance(the kept error, its class) -/
theorem dcall_isE {x : Str} {mg : Str → Option Value} {C CS : Addr} (E : ErrC K mg x C CS) (h : k (.dat (.bool true)) ρ st) : DCall K c (rIsX K) [.obj (ExV (.ref C) none), .raw (.ref C)] ρ st k := dcall_isX E.ic (by unfold PySem.W.kitOne; rw [if_pos (by simp)]) h
theorem de_cls {x : Str} {C CS : Addr} (E : ErrC X.K X.mg x C CS) (h : k (.raw (.ref C)) ρ st) (hg : Gl X x := by rfl) (hd : (x == ("__debug__" : Str)) = false := by decide) : DE X c (.Name x pos) ρ st k := de_glob (v := .ref C) E.mg rfl h hg hd
end
/-! ### list comprehensions, their facts by rfl -/
def blkB (N : List Str) (sc scope : Scope) (own : List (Str × Nat)) : Bool :=
  decide (scope.kind = .function) && scope.names.all (fun y => decide (scope.names.lookup y.1 = some y.2)) && own.all (fun p => decide (N[p.2]? = some p.1)) &&
    scope.names.all (fun y => !decide (y.2 = .free) || decide (sc.names.lookup y.1 = some .cell) || decide (sc.names.lookup y.1 = some .free)) &&
    scope.names.all fun y => !(decide (y.2 = .local) || decide (y.2 = .cell)) || decide (y.1 ∈ own.map (·.1)) || decide (y.1 ∉ N)
theorem blk_by {N : List Str} {sc scope : Scope} {own : List (Str × Nat)} (h : blkB N sc scope own = true) : BlkOk N sc scope own := by
  unfold blkB at h
  simp only [Bool.and_eq_true, Bool.or_eq_true, Bool.not_eq_true', decide_eq_true_eq, decide_eq_false_iff_not, List.all_eq_true, Bool.or_eq_false_iff] at h
  obtain ⟨⟨⟨⟨h1, h2⟩, h3⟩, h4⟩, h5⟩ := h
  refine ⟨h1, fun y hy => h2 y hy, fun p hp => h3 p hp, fun y hy e => ?_, fun y hy e => ?_⟩
  · rcases h4 y hy with (z | z) | z
    · exact absurd e z
    · exact .inl z
    · exact .inr z
  · rcases h5 y hy with (z | z) | z
    · rcases e with e | e
      · exact absurd e z.1
      · exact absurd e z.2
    · exact .inl z
    · exact .inr z
section
variable {X : Cx} {c : Cz} {ρ : Env} {st : c.m.St} {k : Slot → Env → c.m.St → Prop} {elt iter : Expr} {ifs : List Expr} {scope : Scope} {x : Str} {xp pos : Pos}
theorem dlc (j : Nat) (hN : X.N.Nodup) (h : DI X c (.Name x xp) iter ρ st fun ds ρ1 st1 => LcT X c scope j elt ifs ρ1 st1 ds k) (hc : X.calm = true := by rfl) (hb : blkB X.N X.env.scope scope [(x, j)] = true := by rfl) (hl : ∀ s H C cl fp, Loc (Bk X scope s H C cl fp).env.scope x := by intro _ _ _ _ _; first | exact Or.inl rfl | exact Or.inr rfl) (hf : ∀ s H C cl fp, (Bk X scope s H C cl fp).fn x = true ∨ (Bk X scope s H C cl fp).env.scope.names.lookup x = some .local := by intro _ _ _ _ _; first | exact Or.inr rfl | exact Or.inl rfl) (hi : X.N[j]? = some x := by rfl)
    (hs : ∀ x, foldedSetIterable iter X.env x = pure x := by intro _; rfl) : DE X c (.ListComp elt [⟨.Name x xp, iter, ifs, 0⟩] scope pos) ρ st k :=
  de_lc hc hN (blk_by hb) (fun _ _ _ _ _ => pg_name hN hi (hl _ _ _ _ _) (hf _ _ _ _ _)) h hs
/-- .. over an owned list, by its name -/
theorem dlcV (i j : Nat) {y : Str} {yp : Pos} {p : Addr} {ds : List PyData} (hN : X.N.Nodup) (h : LcT X c scope j elt ifs ρ st ds k) (hρ : ρ[i]? = some (.own p ds) := by rfl) (hij : i ≠ j := by decide) (hi' : X.N[i]? = some y := by rfl) (hv : Vis X.env.scope y := by first | exact Or.inl rfl | exact Or.inr (Or.inl rfl) | exact Or.inr (Or.inr rfl))
    (hc : X.calm = true := by rfl) (hb : blkB X.N X.env.scope scope [(x, j)] = true := by rfl) (hl : ∀ s H C cl fp, Loc (Bk X scope s H C cl fp).env.scope x := by intro _ _ _ _ _; first | exact Or.inl rfl | exact Or.inr rfl) (hf : ∀ s H C cl fp, (Bk X scope s H C cl fp).fn x = true ∨ (Bk X scope s H C cl fp).env.scope.names.lookup x = some .local := by intro _ _ _ _ _; first | exact Or.inr rfl | exact Or.inl rfl) (hi : X.N[j]? = some x := by rfl)
    (hs : ∀ x, foldedSetIterable (.Name y yp) X.env x = pure x := by intro _; rfl) (hd : (y == ("__debug__" : Str)) = false := by decide) (hcd : (y == ("__classdict__" : Str)) = false := by decide) : DE X c (.ListComp elt [⟨.Name x xp, .Name y yp, ifs, 0⟩] scope pos) ρ st k := by
  intro τ σ H Q hh hl' hk hx
  refine we_of (pe_lc (own := [(x, j)]) (te := UE X scope elt) hc hN (pi_list (pe_var hi' hv hd hcd)) (blk_by hb) (fun _ _ _ _ _ => pg_name hN hi (hl _ _ _ _ _) (hf _ _ _ _ _)) (pts_of ifs) (fun s H C cl fp => ⟨fun pins s' σ H' Q I h => h s H C cl fp pins s' I⟩) hs) ?_
  obtain ⟨o, e1, e2, _⟩ := zip_get hl' hρ
  obtain ⟨eo, xs, e3, _⟩ := hh.all _ (List.mem_append_left _ e2)
  have eo' : o = some (V.ref p) := eo
  subst eo'
  refine ⟨.ref p, e1, p, rfl, ⟨xs, .inl (.inl e3)⟩, lc_core (E := []) (H := H) hh hl' hk h (fun D acc st H hH n => ?_) fun D acc st' H' hE => by rw [List.append_assoc] at hE; exact hE⟩
  have hρ2 : (ρ.set j .any)[i]? = some (.own p ds) := by rw [List.getElem?_set_ne (Ne.symm hij)]; exact hρ
  obtain ⟨o2, f1, f2, _⟩ := zip_get (σ := σ) (ρ := ρ.set j .any) (by rw [List.length_set]; exact hl') hρ2
  obtain ⟨_, ys, f3, f4⟩ := hH.all _ (List.mem_append_left _ (List.mem_append_left _ f2))
  refine ⟨fun hle => ⟨ys, .inl (.inl f3), by rw [f4.len]; exact hle⟩, fun d hd => ?_⟩
  obtain ⟨v, g1, g2⟩ := f4.get hd
  refine ⟨⟨ys, v, .inl (.inl f3), g1⟩, fun x H' hy => ?_⟩
  obtain ⟨rfl, hy2⟩ := hy
  have ev : x = v := Option.some.inj ((hy2 ys (.inl (.inl f3))).symm.trans g1)
  subst ev
  exact hH.put rfl ⟨x, rfl, g2⟩
theorem ds_lc (i j : Nat) {y : Str} {py spos : Pos} {D : Dn c.m} (hN : X.N.Nodup) (h : DI X c (.Name x xp) iter ρ st fun ds ρ1 st1 => LcT X c scope j elt ifs ρ1 st1 ds fun s ρ2 st2 => D.nx (ρ2.set i s) st2)
    (hsw : swapsWith (.ListComp elt [⟨.Name x xp, iter, ifs, 0⟩] scope pos) (some (.Name y py)) spos.line X.env = pure true := by rfl) (hc : X.calm = true := by rfl) (hy : X.N[i]? = some y := by rfl) (hyl : X.env.scope.names.lookup y = some .local := by rfl)
    (hb : blkB X.N X.env.scope scope [(x, j)] = true := by rfl) (hl : ∀ s H C cl fp, Loc (Bk X scope s H C cl fp).env.scope x := by intro _ _ _ _ _; first | exact Or.inl rfl | exact Or.inr rfl) (hf : ∀ s H C cl fp, (Bk X scope s H C cl fp).fn x = true ∨ (Bk X scope s H C cl fp).env.scope.names.lookup x = some .local := by intro _ _ _ _ _; first | exact Or.inr rfl | exact Or.inl rfl) (hi : X.N[j]? = some x := by rfl)
    (hs : ∀ x, foldedSetIterable iter X.env x = pure x := by intro _; rfl) : DS X c (.Assign [.Name y py] (.ListComp elt [⟨.Name x xp, iter, ifs, 0⟩] scope pos) spos) ρ st D :=
  ds_asgLc hc hN hy hyl hsw (blk_by hb) (fun _ _ _ _ _ => pg_name hN hi (hl _ _ _ _ _) (hf _ _ _ _ _)) h hs
end
section
variable {X : Cx} {c : Cz} {ρ : Env} {st : c.m.St} {e tg : Expr} {pos : Pos}
/-- targets = value, the value as data -/
theorem ds_asgD {D : Dn c.m} (h : DE X c e ρ st fun s ρ1 st1 => ∃ d, s = .dat d ∧ DG X c tg d ρ1 st1 fun ρ2 st2 => D.nx ρ2 st2) (hs : swapsWithSole [tg] e pos.line X.env = pure false := by rfl) (hw : swappedStores [tg] e X.env = pure none := by rfl) (h1 : (assignEach [tg] X.env).map (·.2) = [assign tg X.env] := by rfl) : DS X c (.Assign [tg] e pos) ρ st D := by
  intro τ σ H De hh hl hk hx
  refine ws_of (ps_asg pe_w pg_w hs hw h1) (h τ σ H _ hh hl (fun s ρ1 st1 v H1 h2 hh1 hl1 => ?_) hx)
  obtain ⟨d, rfl, q⟩ := h2
  exact q τ σ H1 _ v hh1 hl1 fun ρ2 st2 σ2 H2 h2 hh2 hl2 => hk.nx _ _ _ _ h2 hh2 hl2
end
end DL

namespace DL
open PySem PySem.Spec PyProof.Rows L2
section
variable {X : Cx} {c : Cz} {e a b e3 : Expr} {es : List Expr} {ρ : Env} {st : c.m.St} {pos : Pos} {k : Slot → Env → c.m.St → Prop} {kb : Bool → Env → c.m.St → Prop} {K : PySem.W.Frag} {s1 s2 : Slot}
/-! ### a < b < c -/
theorem chain_run {r r' : R2} {τ : List Ent} {σ : L2.St} {H : Hp} {Q : VK} (hh : Here c.m X.K c.H0 (σ.zip ρ ++ τ) st H) (hl : σ.length = ρ.length) (hk : Cont c X.K σ τ k Q) (hx : ContX c X.K)
    (h : DE X c a ρ st fun s1 ρ1 st1 => DE X c b ρ1 st1 fun s2 ρ2 st2 => ∃ d, s2 = .dat d ∧ DOp X.K c r s1 (.dat d) ρ2 st2 fun s ρ3 st3 => ∃ x, s = .dat (.bool x) ∧ (x = true → DE X c e3 ρ3 st3 fun s4 ρ4 st4 => DOp X.K c r' (.dat d) s4 ρ4 st4 k) ∧ (x = false → k (.dat (.bool false)) ρ3 st3)) :
    tChain r r' (WE X a) (WE X b) (WE X e3) σ H Q := by
  refine h τ σ H _ hh hl (fun s1 ρ1 st1 v1 H1 h1 hh1 hl1 => ?_) hx
  refine h1 _ σ H1 _ hh1 hl1 (fun s2 ρ2 st2 v2 H2 h2 hh2 hl2 => ?_) hx
  obtain ⟨d, rfl, h3⟩ := h2
  obtain ⟨v', ev, qd⟩ := hh2.dat (List.mem_append_right _ List.mem_cons_self)
  cases ev
  have hd2 : Here c.m X.K c.H0 (σ.zip ρ2 ++ (some v2, .dat d) :: (some v1, s1) :: (some v2, .dat d) :: τ) st2 H2 := by
    have p1 : Here c.m X.K c.H0 ((σ.zip ρ2 ++ [(some v2, .dat d), (some v1, s1)]) ++ τ) st2 H2 := by rw [List.append_assoc]; exact hh2
    have p2 := p1.put (e := (some v2, .dat d)) rfl ⟨v2, rfl, by rw [List.append_assoc]; exact qd⟩
    rw [List.append_assoc] at p2
    exact p2
  refine h3 ((some v2, .dat d) :: τ) σ H2 _ v1 v2 hd2 hl2 (fun s ρ3 st3 v H3 h4 hh3 hl3 => ?_)
  obtain ⟨x, rfl, q1, q2⟩ := h4
  refine ⟨x, bool_of hh3, ?_⟩
  have hh4 : Here c.m X.K c.H0 (σ.zip ρ3 ++ (some v2, .dat d) :: τ) st3 H3 := hh3.cut
  cases x with
  | true =>
    refine iteT (q1 rfl _ σ H3 _ hh4 hl3 (fun s4 ρ4 st4 v4 H4 h5 hh5 hl5 => ?_) hx)
    exact h5 τ σ H4 Q v2 v4 hh5 hl5 hk
  | false => exact iteF (hk _ _ _ _ _ (q2 rfl) (hh4.one rfl) hl3)
theorem de_chain {op op' : CmpOp} {r r' : R2} (ho : OpR X (compareOp op) r) (ho' : OpR X (compareOp op') r')
    (h : DE X c a ρ st fun s1 ρ1 st1 => DE X c b ρ1 st1 fun s2 ρ2 st2 => ∃ d, s2 = .dat d ∧ DOp X.K c r s1 (.dat d) ρ2 st2 fun s ρ3 st3 => ∃ x, s = .dat (.bool x) ∧ (x = true → DE X c e3 ρ3 st3 fun s4 ρ4 st4 => DOp X.K c r' (.dat d) s4 ρ4 st4 k) ∧ (x = false → k (.dat (.bool false)) ρ3 st3))
    (hm : lastMarks [op, op'] [b, e3] = false := by with_unfolding_all rfl) : DE X c (.Compare a [op, op'] [b, e3] pos) ρ st k := fun τ σ H Q hh hl hk hx => we_of (pe_chain ho ho' pe_w pe_w pe_w hm) (chain_run hh hl hk hx h)
theorem dt_chain {op op' : CmpOp} {r r' : R2} (ho : OpR X (compareOp op) r) (ho' : OpR X (compareOp op') r')
    (h : DE X c a ρ st fun s1 ρ1 st1 => DE X c b ρ1 st1 fun s2 ρ2 st2 => ∃ d, s2 = .dat d ∧ DOp X.K c r s1 (.dat d) ρ2 st2 fun s ρ3 st3 => ∃ x, s = .dat (.bool x) ∧ (x = true → DE X c e3 ρ3 st3 fun s4 ρ4 st4 => DOp X.K c r' (.dat d) s4 ρ4 st4 fun s ρ st => ∃ x, s = .dat (.bool x) ∧ kb x ρ st) ∧ (x = false → kb false ρ3 st3))
    (hm : lastMarks [op, op'] [b, e3] = false := by with_unfolding_all rfl) : DT X c (.Compare a [op, op'] [b, e3] pos) ρ st kb := by
  intro τ σ H Q hh hl hk hx
  refine wt_of (pt_chain ho ho' pe_w pe_w pe_w hm) ?_
  refine chain_run (k := fun s ρ st => ∃ x, s = .dat (.bool x) ∧ kb x ρ st) (Q := fun x H' => ∃ k, x = .bl k ∧ Q k H') hh hl (fun s ρ' st' v H' h1 hh1 hl1 => ?_) hx ?_
  · obtain ⟨x, rfl, q⟩ := h1
    exact ⟨x, bool_of hh1, hk _ _ _ _ q hh1.cut hl1⟩
  · refine de_imp h fun s1 ρ1 st1 q => de_imp q fun s2 ρ2 st2 q => ?_
    obtain ⟨d, rfl, q⟩ := q
    refine ⟨d, rfl, fun τ σ H Q v1 v2 hh hl hk => q τ σ H Q v1 v2 hh hl fun s ρ' st' v H' h1 hh1 hl1 => hk s ρ' st' v H' ?_ hh1 hl1⟩
    obtain ⟨x, rfl, q1, q2⟩ := h1
    exact ⟨x, rfl, q1, fun e => ⟨false, rfl, q2 e⟩⟩
/-! ### sum, all, any of lists -/
theorem daI {N : Addr → Prop} {H : Hp} : ∀ {l : List Int} {xs : List V}, DaAll N K H xs (l.map PyData.int) → xs = l.map V.int
  | [], _, .nil => rfl
  | i :: l, _, .cons q qs => by
    rw [da_flat (w := .int i) rfl q, daI qs]
    rfl
theorem daB {N : Addr → Prop} {H : Hp} : ∀ {l : List Bool} {xs : List V}, DaAll N K H xs (l.map PyData.bool) → xs = l.map V.bl
  | [], _, .nil => rfl
  | i :: l, _, .cons q qs => by
    rw [da_flat (w := .bl i) rfl q, daB qs]
    rfl
theorem dcall_sum {ns : List Int} (q : AsD ρ s1 (.list (ns.map .int))) (h : k (.dat (.int ns.sum)) ρ st) : DCall K c (rSum K) [s1] ρ st k := by
  intro τ σ H Q vs hlen hh hl hk
  obtain ⟨v, rfl⟩ := one_of hlen
  have h' : Here c.m K c.H0 (σ.zip ρ ++ (some v, s1) :: τ) st H := hh
  obtain ⟨q1, _⟩ := asD_seq h' (fun e he => List.mem_append_left _ he) hl (List.mem_append_right _ List.mem_cons_self) q
  obtain ⟨p, xs, rfl, q3, q4⟩ := q1 _ rfl
  have := daI q4
  subst this
  exact ⟨p, ns, rfl, q3, hk _ _ _ _ _ h (h'.one (v := .int _) rfl) hl⟩
theorem dcall_all {bs : List Bool} (q : AsD ρ s1 (.list (bs.map .bool))) (h : k (.dat (.bool (bs.all id))) ρ st) : DCall K c (rAll K) [s1] ρ st k := by
  intro τ σ H Q vs hlen hh hl hk
  obtain ⟨v, rfl⟩ := one_of hlen
  have h' : Here c.m K c.H0 (σ.zip ρ ++ (some v, s1) :: τ) st H := hh
  obtain ⟨q1, _⟩ := asD_seq h' (fun e he => List.mem_append_left _ he) hl (List.mem_append_right _ List.mem_cons_self) q
  obtain ⟨p, xs, rfl, q3, q4⟩ := q1 _ rfl
  have := daB q4
  subst this
  exact ⟨p, bs, rfl, q3, hk _ _ _ _ _ h (h'.one (v := .bl _) rfl) hl⟩
theorem dcall_any {bs : List Bool} (q : AsD ρ s1 (.list (bs.map .bool))) (h : k (.dat (.bool (bs.any id))) ρ st) : DCall K c (rAny K) [s1] ρ st k := by
  intro τ σ H Q vs hlen hh hl hk
  obtain ⟨v, rfl⟩ := one_of hlen
  have h' : Here c.m K c.H0 (σ.zip ρ ++ (some v, s1) :: τ) st H := hh
  obtain ⟨q1, _⟩ := asD_seq h' (fun e he => List.mem_append_left _ he) hl (List.mem_append_right _ List.mem_cons_self) q
  obtain ⟨p, xs, rfl, q3, q4⟩ := q1 _ rfl
  have := daB q4
  subst this
  exact ⟨p, bs, rfl, q3, hk _ _ _ _ _ h (h'.one (v := .bl _) rfl) hl⟩
/-! ### tuples put together -/
theorem dop_catA {ds es : List PyData} (hz : ds.length + es.length ≤ 16000000) (h : k (.dat (.tuple (ds ++ es))) ρ st) : DOp K c (rCatA K) (.dat (.tuple ds)) (.dat (.tuple es)) ρ st k := by
  intro τ σ H Q v1 v2 hh hl hk
  obtain ⟨_, q1⟩ := asD_seq hh (fun e he => List.mem_append_left _ he) hl (List.mem_append_right _ (List.mem_cons_of_mem _ List.mem_cons_self)) (.dat (.tuple ds))
  obtain ⟨_, q2⟩ := asD_seq hh (fun e he => List.mem_append_left _ he) hl (List.mem_append_right _ List.mem_cons_self) (.dat (.tuple es))
  obtain ⟨p, xs, rfl, r1, d1⟩ := q1 ds rfl
  obtain ⟨p', ys, rfl, r2, d2⟩ := q2 es rfl
  have nilO : ∀ {l : List PyData}, DaAll (fun a => c.m.N a ∨ a ∈ owns (σ.zip ρ ++ (some (.ref p'), .dat (.tuple es)) :: (some (.ref p), .dat (.tuple ds)) :: τ)) K H [] l → l = [] := fun q => by cases q; rfl
  refine ⟨p, p', xs, ys, rfl, rfl, r1, r2, by rw [d1.len, d2.len]; exact Nat.le_trans hz (by decide), fun e => ?_, fun _ e => ?_, fun _ _ l hl' => ?_⟩
  · subst e
    have e2 := nilO d1
    subst e2
    exact hk _ _ _ _ _ h (hh.perm (List.Perm.append_left _ (List.Perm.swap _ _ _))).cut hl
  · subst e
    have e2 := nilO d2
    subst e2
    rw [List.append_nil] at h
    exact hk _ _ _ _ _ h hh.cut hl
  · exact hk _ _ _ _ _ h (hh.cut.cut.newTup hl' (((d1.app d2).move (wk_owns _)).move (wk_owns _))) hl
/-! ### isinstance(e, (list, tuple)) -/
theorem kit_lt {d : PyData} : PySem.W.kitAny K (.type (tyName d)) [.type "list", .type "tuple"] = some (ofList d || ofTuple d) :=
  kitAny_cons (kit_ty (kit_list d)) (fun e => by
    refine kitAny_cons (kit_ty (kit_tuple d)) (fun e2 => ?_) fun e2 => by rw [e2, Bool.or_true]
    rw [e, e2]
    rfl) fun e => by rw [e]; rfl
theorem de_isiLT {p : Pos} {kk : Nat} {tpos p1 p2 : Pos} (m1 : X.mg "isinstance" = none) (m2 : X.mg "list" = none) (m3 : X.mg "tuple" = none)
    (h : DE X c e ρ st fun s ρ1 st1 => ∃ d, s = .dat d ∧ k (.dat (.bool (ofList d || ofTuple d))) ρ1 st1)
    (g1 : Gl X "isinstance" := by rfl) (g2 : Gl X "list" := by rfl) (g3 : Gl X "tuple" := by rfl)
    (he1 : starEach [e, .Tuple [.Name "list" p1, .Name "tuple" p2] kk tpos] X.env = (false, eval e X.env) :: starEach [.Tuple [.Name "list" p1, .Name "tuple" p2] kk tpos] X.env := by rfl) (he2 : starEach [.Tuple [.Name "list" p1, .Name "tuple" p2] kk tpos] X.env = (false, eval (.Tuple [.Name "list" p1, .Name "tuple" p2] kk tpos) X.env) :: starEach [] X.env := by rfl)
    (he3 : starEach [.Name "list" p1, .Name "tuple" p2] X.env = (false, eval (.Name "list" p1) X.env) :: starEach [.Name "tuple" p2] X.env := by rfl) (he4 : starEach [.Name "tuple" p2] X.env = (false, eval (.Name "tuple" p2) X.env) :: starEach [] X.env := by rfl)
    (hpl : (backTo pos (starEach [.Tuple [.Name "list" p1, .Name "tuple" p2] kk tpos] X.env)).any (·.1) = false := by rfl) : DE X c (.Call (.Name "isinstance" p) [e, .Tuple [.Name "list" p1, .Name "tuple" p2] kk tpos] [] pos) ρ st k := by
  intro τ σ H Q hh hl hk hx
  refine we_of (pe_callB (call_isiT (X := X)) g1 m1 boot_isinstance (pa_cons pe_w (pa_cons (pe_tup (pa_cons (pe_bltn g2 m2 boot_list (v := .ty "list") rfl) (pa_cons (pe_bltn g3 m3 boot_tuple (v := .ty "tuple") rfl) pa_nil he4) he3)) pa_nil he2) he1) (by decide) (by decide) he1 hpl) ?_
  refine h τ σ H _ hh hl (fun s ρ1 st1 v H1 h1 hh1 hl1 => ?_) hx
  obtain ⟨d, rfl, q⟩ := h1
  refine ⟨by show 2 ≤ sizeLine; decide, fun T hT => ?_⟩
  have hh2 := hh1.alloc (o := .tup [.ty "list", .ty "tuple"]) hT
  obtain ⟨v', ev, qd⟩ := hh2.dat (List.mem_append_right _ List.mem_cons_self)
  cases ev
  exact ⟨v, T, _, _, _, _, rfl, upd_same, .cons (.ty "list") (.cons (.ty "tuple") .nil), da_ty qd, kit_lt, hk _ _ _ _ _ q (hh2.one (v := .bl _) rfl) hl1⟩
/-! ### enumerate, zip -/
def enumD : Nat → List PyData → List PyData
  | _, [] => []
  | n, d :: ds => .tuple [.int n, d] :: enumD (n + 1) ds
theorem enumD_len : ∀ (n : Nat) (ds : List PyData), (enumD n ds).length = ds.length
  | _, [] => rfl
  | n, d :: ds => by rw [enumD, List.length_cons, List.length_cons, enumD_len]
theorem enumD_get : ∀ {n i : Nat} {ds : List PyData} {d : PyData}, (enumD n ds)[i]? = some d → ∃ x, ds[i]? = some x ∧ d = .tuple [.int ((n + i : Nat) : Int), x]
  | _, _, [], _, h => by simp [enumD] at h
  | n, 0, x :: ds, d, h => by
    simp [enumD] at h
    exact ⟨x, rfl, h.symm⟩
  | n, i + 1, x :: ds, d, h => by
    obtain ⟨y, h1, h2⟩ := enumD_get (n := n + 1) (i := i) (ds := ds) (by simpa [enumD] using h)
    exact ⟨y, by simpa using h1, by rw [h2]; congr 4; omega⟩
def zipD : List PyData → List PyData → List PyData
  | x :: xs, y :: ys => .tuple [x, y] :: zipD xs ys
  | _, _ => []
theorem zipD_len : ∀ (xs ys : List PyData), (zipD xs ys).length = min xs.length ys.length
  | [], _ => by simp [zipD]
  | _ :: _, [] => by simp [zipD]
  | x :: xs, y :: ys => by rw [zipD, List.length_cons, List.length_cons, List.length_cons, zipD_len]; omega
theorem zipD_get : ∀ {i : Nat} {xs ys : List PyData} {d : PyData}, (zipD xs ys)[i]? = some d → ∃ x y, xs[i]? = some x ∧ ys[i]? = some y ∧ d = .tuple [x, y]
  | _, [], _, _, h => by simp [zipD] at h
  | _, _ :: _, [], _, h => by simp [zipD] at h
  | 0, x :: xs, y :: ys, d, h => by
    simp [zipD] at h
    exact ⟨x, y, rfl, rfl, h.symm⟩
  | i + 1, x :: xs, y :: ys, d, h => by
    obtain ⟨a, b, h1, h2, h3⟩ := zipD_get (i := i) (xs := xs) (ys := ys) (by simpa [zipD] using h)
    exact ⟨a, b, by simpa using h1, by simpa using h2, h3⟩
/-- enumerate of a list of data -/
theorem di_enum {elts : List Expr} {kk : Nat} {tpos p : Pos} {ki : List PyData → Env → c.m.St → Prop} (hm : X.mg "enumerate" = none)
    (h : DE X c e ρ st fun s ρ1 st1 => ∃ ds, s = .dat (.list ds) ∧ ki (enumD 0 ds) ρ1 st1) (hg : Gl X "enumerate" := by rfl) (hs : starEach [e] X.env = [(false, eval e X.env)] := by rfl) (hs0 : starEach [e] X.env = (false, eval e X.env) :: starEach [] X.env := by rfl) :
    DI X c (.Tuple elts kk tpos) (.Call (.Name "enumerate" p) [e] [] pos) ρ st ki := by
  intro τ σ H R hh hl hk hx
  refine wi_of (pi_enum hg hm (pa_cons pe_w pa_nil hs0) hs) ?_
  refine h τ σ H _ hh hl (fun s ρ1 st1 v H1 h1 hh1 hl1 => ?_) hx
  obtain ⟨ds, rfl, q⟩ := h1
  obtain ⟨v', e', z⟩ := hh1.dat (List.mem_append_right _ List.mem_cons_self)
  cases e'
  cases z with
  | lst r qa =>
    rename_i a xs0
    refine ⟨a, _, rfl, r.sq, hk (enumD 0 ds) ρ1 st1 _ [(some (.ref a), .dat (.list ds))] _ q (fun A B st H hh i => ?_) hh1 hl1⟩
    obtain ⟨v'', e'', z⟩ := hh.dat (List.mem_append_right _ List.mem_cons_self)
    cases e''
    cases z with
    | lst r qa =>
      refine ⟨fun hle => ⟨_, r.sq, by rw [qa.len, ← enumD_len 0 ds]; exact hle⟩, fun d hd => ?_⟩
      obtain ⟨x, hx1, rfl⟩ := enumD_get hd
      obtain ⟨w, hw1, hw2⟩ := qa.get hx1
      refine ⟨⟨_, w, r.sq, hw1⟩, fun y H' hy => ?_⟩
      obtain ⟨T, x2, rfl, hT, rfl, hx2⟩ := hy
      have ex : x2 = w := Option.some.inj ((hx2 _ r.sq).symm.trans hw1)
      subst ex
      rw [show ((0 + i : Nat) : Int) = (i : Int) by omega]
      exact hh.newTup hT (.cons (.int _) (.cons hw2 .nil))
end
end DL

namespace DL
open PySem PySem.Spec PyProof.Rows L2
/-! ### list comprehensions with a pair of names: [.. for x, y in ..] -/
theorem set_ne_any {ρ : Env} {j1 j2 i : Nat} {s : Slot} (e : ((ρ.set j1 .any).set j2 .any)[i]? = some s) (ne : s ≠ .any) : i ≠ j1 ∧ i ≠ j2 := by
  have h2 : i ≠ j2 := fun z => by
    subst z
    rw [List.getElem?_set] at e
    split at e
    · split at e
      · exact ne (Option.some.inj e).symm
      · cases e
    · exact absurd rfl (by assumption)
  refine ⟨fun z => ?_, h2⟩
  subst z
  rw [List.getElem?_set_ne (Ne.symm h2), List.getElem?_set] at e
  split at e
  · split at e
    · exact ne (Option.some.inj e).symm
    · cases e
  · exact absurd rfl (by assumption)
theorem swap2 {m : Mem} {K : PySem.W.Frag} {H0 H : Hp} {st : m.St} {τ : List Ent} {σ : L2.St} {ρ : Env} {j1 j2 : Nat} {o1 o2 : Option V} (h : Here m K H0 (((σ.set j1 o1).set j2 o2).zip ((ρ.set j1 .any).set j2 .any) ++ τ) st H) : Here m K H0 (σ.zip ((ρ.set j1 .any).set j2 .any) ++ τ) st H := by
  refine h.swap (by rw [List.length_set, List.length_set]) fun i s e ne => ?_
  obtain ⟨n1, n2⟩ := set_ne_any e ne
  rw [List.getElem?_set_ne (Ne.symm n2), List.getElem?_set_ne (Ne.symm n1)]
section
variable {X : Cx} {c : Cz} {ρ : Env} {st : c.m.St} {k : Slot → Env → c.m.St → Prop} {elt iter : Expr} {ifs : List Expr} {scope : Scope} {j1 j2 : Nat} {x y : Str} {xp yp tp pos : Pos} {kt : Nat}
def LcT2 (X : Cx) (c : Cz) (scope : Scope) (j1 j2 : Nat) (elt : Expr) (ifs : List Expr) (ρ1 : Env) (st1 : c.m.St) (ds : List PyData) (k : Slot → Env → c.m.St → Prop) : Prop :=
  (∀ (i : Nat) (d : PyData), ds[i]? = some d → ∃ d1 d2, d = .tuple [d1, d2]) ∧ ∃ Iv : Nat → List PyData → c.m.St → Prop, Iv 0 [] st1 ∧
    (∀ i d1 d2 acc st2, ds[i]? = some (.tuple [d1, d2]) → Iv i acc st2 → acc.length < 16000000 ∧ DTb X scope c ifs ((ρ1.set j1 (.dat d1)).set j2 (.dat d2)) st2 fun b ρ3 st3 => (b = true → DEb X scope c elt ρ3 st3 fun s ρ4 st4 => ∃ d', AllD [s] [d'] ∧ (ρ4.set j1 .any).set j2 .any = (ρ1.set j1 .any).set j2 .any ∧ Iv (i + 1) (acc ++ [d']) st4) ∧ (b = false → (ρ3.set j1 .any).set j2 .any = (ρ1.set j1 .any).set j2 .any ∧ Iv (i + 1) acc st3)) ∧
    ∀ acc st2, Iv ds.length acc st2 → ∀ p, k (.own p acc) ((ρ1.set j1 .any).set j2 .any) st2
theorem lc_core2 {τ E : List Ent} {σ : L2.St} {H H1 : Hp} {J : It} {Q : VK} {ρ1 : Env} {st1 : c.m.St} {ds : List PyData} (hj : j1 ≠ j2) (hh1 : Here c.m X.K c.H0 (σ.zip ρ1 ++ (E ++ τ)) st1 H1) (hl1 : σ.length = ρ1.length) (hk : Cont c X.K σ τ k Q) (h1 : LcT2 X c scope j1 j2 elt ifs ρ1 st1 ds k) (wd : WalkD X.K c J E ds) :
    tLc (fun _ _ R => R J H1) (gTup X.K 2 (gCons (gName j1) (gCons (gName j2) gNil))) (ttOf X scope ifs) (UE X scope elt) [j1, j2] σ H Q := by
  obtain ⟨pairs, Iv, i0, turn, fin⟩ := h1
  intro D hD
  have hw := (hh1.forget j1).forget j2
  have ll : σ.length = ((ρ1.set j1 .any).set j2 .any).length := by rw [List.length_set, List.length_set]; exact hl1
  refine ⟨fun i n H' => n = ds.length - i ∧ i ≤ ds.length ∧ ∃ acc st', Iv i acc st' ∧ Here c.m X.K c.H0 (σ.zip ((ρ1.set j1 .any).set j2 .any) ++ (some (.ref D), .own D acc) :: (E ++ τ)) st' H', ⟨ds.length, by omega, Nat.zero_le _, [], st1, i0, hw.allocOwn hD .nil⟩, ?_⟩
  rintro i n H' ⟨rfl, hi, acc, st', iv, hh'⟩
  have hE : Here c.m X.K c.H0 ((σ.zip ((ρ1.set j1 .any).set j2 .any) ++ [(some (.ref D), .own D acc)]) ++ (E ++ τ)) st' H' := by rw [List.append_assoc]; exact hh'
  obtain ⟨w1, w2⟩ := wd _ _ st' H' hE i
  by_cases hlt : i < ds.length
  · have hd : ds[i]? = some ds[i] := List.getElem?_eq_getElem hlt
    obtain ⟨g1, g2⟩ := w2 _ hd
    obtain ⟨d1, d2, ed⟩ := pairs i _ hd
    rw [ed] at hd g2
    obtain ⟨hz, tq⟩ := turn i d1 d2 acc st' hd iv
    refine .inr ⟨g1, fun H2 => ∃ acc2 st2, Iv (i + 1) acc2 st2 ∧ Here c.m X.K c.H0 (σ.zip ((ρ1.set j1 .any).set j2 .any) ++ (some (.ref D), .own D acc2) :: (E ++ τ)) st2 H2, fun H2 ⟨acc2, st2, q1, q2⟩ => ⟨ds.length - (i + 1), by omega, rfl, hlt, acc2, st2, q1, q2⟩, fun v H2 y => ?_⟩
    have hy := g2 v H2 y
    rw [List.append_assoc] at hy
    have hy1 : Here c.m X.K c.H0 (σ.zip ((ρ1.set j1 .any).set j2 .any) ++ (some v, .dat (.tuple [d1, d2])) :: (some (.ref D), .own D acc) :: (E ++ τ)) st' H2 := hy.perm (List.Perm.append_left _ (List.Perm.swap _ _ _))
    obtain ⟨v', ev, qd⟩ := hy1.dat (List.mem_append_right _ List.mem_cons_self)
    cases ev
    cases qd with
    | tup r qa =>
      rename_i a xs
      cases qa with
      | cons qa1 qa2 =>
        cases qa2 with
        | cons qa2 qa3 =>
          cases qa3
          rename_i x1 x2
          have p2 := hy1.cut.put (e := (some x2, .dat d2)) rfl ⟨x2, rfl, qa2.move (wk_owns _)⟩
          have p1 := p2.put (A := σ.zip ((ρ1.set j1 .any).set j2 .any)) (B := (some x2, .dat d2) :: (some (.ref D), .own D acc) :: (E ++ τ)) (e := (some x1, .dat d1)) rfl ⟨x1, rfl, qa1.move fun a o n t e => ⟨fun z => n (z.elim .inl fun z => .inr (by
            rw [owns_app, owns_cons] at z ⊢
            exact z)), e⟩⟩
          have hs := (p1.store j1).store j2
          have eR : ((((ρ1.set j1 .any).set j2 .any).set j1 (.dat d1)).set j2 (.dat d2)) = (ρ1.set j1 (.dat d1)).set j2 (.dat d2) := by
            rw [List.set_comm (a := Slot.any) (b := Slot.dat d1) (l := ρ1.set j1 .any) (Ne.symm hj), List.set_set, List.set_set]
          rw [eR] at hs
          have eS : ((wipe σ [j1, j2]).set j1 (some x1)).set j2 (some x2) = (σ.set j1 (some x1)).set j2 (some x2) := by
            show ((((σ.set j2 none).set j1 none).set j1 (some x1)).set j2 (some x2)) = _
            rw [List.set_set, List.set_comm (a := (none : Option V)) (b := some x1) (l := σ) (Ne.symm hj), List.set_set]
          have eW : wipe ((σ.set j1 (some x1)).set j2 (some x2)) [j1, j2] = wipe σ [j1, j2] := by
            show ((((σ.set j1 (some x1)).set j2 (some x2)).set j2 none).set j1 none) = (σ.set j2 none).set j1 none
            rw [List.set_set, List.set_comm (a := some x1) (b := (none : Option V)) (l := σ) hj, List.set_set]
          refine ⟨a, [x1, x2], rfl, r.sq, rfl, x1, [x2], rfl, x2, [], rfl, rfl, ?_⟩
          rw [eS]
          refine ⟨eW, ?_⟩
          have l2 : ((σ.set j1 (some x1)).set j2 (some x2)).length = ((ρ1.set j1 (.dat d1)).set j2 (.dat d2)).length := by rw [List.length_set, List.length_set, List.length_set, List.length_set]; exact hl1
          have after : ∀ {b : Bool} {ρ3 : Env} {st3 : c.m.St} {H3 : Hp}, ((b = true → DEb X scope c elt ρ3 st3 fun s ρ4 st4 => ∃ d', AllD [s] [d'] ∧ (ρ4.set j1 .any).set j2 .any = (ρ1.set j1 .any).set j2 .any ∧ Iv (i + 1) (acc ++ [d']) st4) ∧ (b = false → (ρ3.set j1 .any).set j2 .any = (ρ1.set j1 .any).set j2 .any ∧ Iv (i + 1) acc st3)) →
              Here c.m X.K c.H0 (((σ.set j1 (some x1)).set j2 (some x2)).zip ρ3 ++ (some (.ref D), .own D acc) :: (E ++ τ)) st3 H3 → ((σ.set j1 (some x1)).set j2 (some x2)).length = ρ3.length →
              (if b = true then UE X scope elt ((σ.set j1 (some x1)).set j2 (some x2)) H3 fun y H4 => ∃ acc, H4 D = some (.lst acc) ∧ acc.length < sizeLine ∧ (fun H2 => ∃ acc2 st2, Iv (i + 1) acc2 st2 ∧ Here c.m X.K c.H0 (σ.zip ((ρ1.set j1 .any).set j2 .any) ++ (some (.ref D), .own D acc2) :: (E ++ τ)) st2 H2) (upd H4 D (.lst (acc ++ [y])))
                else (fun H2 => ∃ acc2 st2, Iv (i + 1) acc2 st2 ∧ Here c.m X.K c.H0 (σ.zip ((ρ1.set j1 .any).set j2 .any) ++ (some (.ref D), .own D acc2) :: (E ++ τ)) st2 H2) H3) := by
            intro b ρ3 st3 H3 hq hh3 hl3
            cases b with
            | true =>
              refine iteT fun s0 H00 C cl fp => hq.1 rfl s0 H00 C cl fp _ _ H3 _ hh3 hl3 (fun s ρ4 st4 y H4 h4 hh4 hl4 => ?_) contX_blk
              obtain ⟨d', ad, e4, iv4⟩ := h4
              have da := allD_da (vs := [y]) (A := ((σ.set j1 (some x1)).set j2 (some x2)).zip ρ4) ad rfl hh4
              have h5 : Here c.m X.K c.H0 (((σ.set j1 (some x1)).set j2 (some x2)).zip ρ4 ++ (some (.ref D), .own D acc) :: (E ++ τ)) st4 H4 := Here.cut hh4
              obtain ⟨_, xs, eD, qD⟩ := h5.all _ (List.mem_append_right _ List.mem_cons_self)
              refine ⟨xs, eD, Nat.lt_of_lt_of_le (by rw [qD.len]; exact hz) (show 16000000 ≤ sizeLine by decide), acc ++ [d'], st4, iv4, ?_⟩
              have h6 := h5.write (ys := xs ++ [y]) (qD.app da)
              have h7 := (h6.forget j1).forget j2
              rw [e4] at h7
              exact swap2 h7
            | false =>
              obtain ⟨e3, iv3⟩ := hq.2 rfl
              refine iteF ⟨acc, st3, iv3, ?_⟩
              have h7 := (hh3.forget j1).forget j2
              rw [e3] at h7
              exact swap2 h7
          match ifs, tq with
          | [], tq => exact after tq hs l2
          | [t], tq => exact fun s0 H00 C cl fp => tq s0 H00 C cl fp _ _ H2 _ hs l2 (fun b ρ3 st3 H3 h3 hh3 hl3 => after h3 hh3 hl3) contX_blk
          | _ :: _ :: _, tq => exact tq.elim
  · have e : i = ds.length := by omega
    subst e
    refine .inl ⟨w1 (Nat.le_refl _), hk _ _ _ _ _ (fin _ _ iv D) ?_ ll⟩
    have h10 := hE.cutA
    rw [List.append_assoc] at h10
    exact h10
theorem dlc2 (j1 j2 : Nat) (hN : X.N.Nodup) (h : DI X c (.Tuple [.Name x xp, .Name y yp] kt tp) iter ρ st fun ds ρ1 st1 => LcT2 X c scope j1 j2 elt ifs ρ1 st1 ds k) (hj : j1 ≠ j2 := by decide) (hc : X.calm = true := by rfl) (hb : blkB X.N X.env.scope scope [(x, j1), (y, j2)] = true := by rfl)
    (hl1 : ∀ s H C cl fp, Loc (Bk X scope s H C cl fp).env.scope x := by intro _ _ _ _ _; first | exact Or.inl rfl | exact Or.inr rfl) (hf1 : ∀ s H C cl fp, (Bk X scope s H C cl fp).fn x = true ∨ (Bk X scope s H C cl fp).env.scope.names.lookup x = some .local := by intro _ _ _ _ _; first | exact Or.inr rfl | exact Or.inl rfl) (hl2 : ∀ s H C cl fp, Loc (Bk X scope s H C cl fp).env.scope y := by intro _ _ _ _ _; first | exact Or.inl rfl | exact Or.inr rfl) (hf2 : ∀ s H C cl fp, (Bk X scope s H C cl fp).fn y = true ∨ (Bk X scope s H C cl fp).env.scope.names.lookup y = some .local := by intro _ _ _ _ _; first | exact Or.inr rfl | exact Or.inl rfl) (hi1 : X.N[j1]? = some x := by rfl) (hi2 : X.N[j2]? = some y := by rfl)
    (hs : ∀ x, foldedSetIterable iter X.env x = pure x := by intro _; rfl) (hn : ∀ s H C cl fp, (assignEach [.Name x xp, .Name y yp] (Bk X scope s H C cl fp).env).length = 2 := by intro _ _ _ _ _; rfl) (hst : ∀ s H C cl fp, (assignEach [.Name x xp, .Name y yp] (Bk X scope s H C cl fp).env).findIdx? (·.1) = none := by intro _ _ _ _ _; rfl)
    (ha1 : ∀ s H C cl fp, (assignEach [.Name x xp, .Name y yp] (Bk X scope s H C cl fp).env).map (·.2) = assign (.Name x xp) (Bk X scope s H C cl fp).env :: (assignEach [.Name y yp] (Bk X scope s H C cl fp).env).map (·.2) := by intro _ _ _ _ _; rfl) (ha2 : ∀ s H C cl fp, (assignEach [.Name y yp] (Bk X scope s H C cl fp).env).map (·.2) = assign (.Name y yp) (Bk X scope s H C cl fp).env :: (assignEach [] (Bk X scope s H C cl fp).env).map (·.2) := by intro _ _ _ _ _; rfl) :
    DE X c (.ListComp elt [⟨.Tuple [.Name x xp, .Name y yp] kt tp, iter, ifs, 0⟩] scope pos) ρ st k := by
  intro τ σ H Q hh hl hk hx
  refine we_of (pe_lc (own := [(x, j1), (y, j2)]) (g := gTup X.K 2 (gCons (gName j1) (gCons (gName j2) gNil))) (te := UE X scope elt) hc hN (pi_w (X := X)) (blk_by hb) (fun s H C cl fp => pg_tup (X := Bk X scope s H C cl fp) hc (pgs_cons (pg_name (X := Bk X scope s H C cl fp) hN hi1 (hl1 s H C cl fp) (hf1 s H C cl fp)) (pgs_cons (pg_name (X := Bk X scope s H C cl fp) hN hi2 (hl2 s H C cl fp) (hf2 s H C cl fp)) pgs_nil (ha2 s H C cl fp)) (ha1 s H C cl fp)) (hn s H C cl fp) (hst s H C cl fp)) (pts_of ifs) (fun s H C cl fp => ⟨fun pins s' σ H' Q I h => h s H C cl fp pins s' I⟩) hs) ?_
  refine h τ σ H _ hh hl (fun ds ρ1 st1 J E H1 h1 wd hh1 hl1 => ?_) hx
  exact lc_core2 (H := H) hj hh1 hl1 hk h1 wd
end
end DL

namespace DL
open PySem PySem.Spec PyProof.Rows L2
/-! ### slices -/
def cutD (ds : List PyData) (lo hi : Option Int) : List PyData := (ds.drop (HT.sIx ds.length 0 lo)).take (HT.sIx ds.length ds.length hi - HT.sIx ds.length 0 lo)
theorem DaAll.cutA {N : Addr → Prop} {K : PySem.W.Frag} {H : Hp} {xs : List V} {ds : List PyData} (q : DaAll N K H xs ds) (lo hi : Option Int) : DaAll N K H (cutV xs lo hi) (cutD ds lo hi) := by
  unfold cutV cutD
  rw [q.len]
  exact (q.drop _).take _
theorem cutD_whole {ds : List PyData} {lo hi : Option Int} (h : HT.sIx ds.length 0 lo = 0 ∧ HT.sIx ds.length ds.length hi = ds.length) : cutD ds lo hi = ds := by
  unfold cutD
  rw [h.1, h.2]
  simp
def woOf (X : Cx) : Option Expr → TO
  | none => tNoPart
  | some e => tPart (WE X e)
theorem po_w {X : Cx} : ∀ lo : Option Expr, PO X lo (woOf X lo)
  | none => po_none
  | some _ => po_some pe_w
/-- a bound of a slice -/
def DP (X : Cx) (c : Cz) (lo : Option Expr) (ρ : Env) (st : c.m.St) (k : Option Int → Env → c.m.St → Prop) : Prop :=
  ∀ (τ : List Ent) (σ : L2.St) (H : Hp) (Q : Option Int → Hp → Prop), Here c.m X.K c.H0 (σ.zip ρ ++ τ) st H → σ.length = ρ.length →
    (∀ o ρ' st' H', k o ρ' st' → Here c.m X.K c.H0 (σ.zip ρ' ++ τ) st' H' → σ.length = ρ'.length → Q o H') → ContX c X.K → woOf X lo σ H Q
section
variable {X : Cx} {c : Cz} {e a b : Expr} {lo hi : Option Expr} {ρ : Env} {st : c.m.St} {pos p2 : Pos} {k : Slot → Env → c.m.St → Prop} {ko : Option Int → Env → c.m.St → Prop}
theorem dp_none (h : ko none ρ st) : DP X c none ρ st ko := fun τ σ H Q hh hl hk hx => hk _ _ _ _ h hh hl
theorem dp_some (h : DE X c e ρ st fun s ρ1 st1 => ∃ i, s = .dat (.int i) ∧ ko (some i) ρ1 st1) : DP X c (some e) ρ st ko := by
  intro τ σ H Q hh hl hk hx
  refine h τ σ H _ hh hl (fun s ρ1 st1 v H1 h1 hh1 hl1 => ?_) hx
  obtain ⟨i, rfl, q⟩ := h1
  exact ⟨i, arg_flat hh1 (w := .int i) rfl, hk _ _ _ _ q hh1.cut hl1⟩
theorem de_slT (h : DE X c e ρ st fun s ρ1 st1 => ∃ ds, s = .dat (.tuple ds) ∧ DP X c lo ρ1 st1 fun l ρ2 st2 => DP X c hi ρ2 st2 fun u ρ3 st3 => k (.dat (.tuple (cutD ds l u))) ρ3 st3) : DE X c (.Subscript e (.Slice lo hi none p2) pos) ρ st k := by
  intro τ σ H Q hh hl hk hx
  refine we_of (pe_slice sl_tupA pe_w (po_w lo) (po_w hi)) ?_
  refine h τ σ H _ hh hl (fun s ρ1 st1 v H1 h1 hh1 hl1 => ?_) hx
  obtain ⟨ds, rfl, h2⟩ := h1
  refine h2 _ σ H1 _ hh1 hl1 (fun l ρ2 st2 H2 h3 hh2 hl2 => ?_) hx
  refine h3 _ σ H2 _ hh2 hl2 (fun u ρ3 st3 H3 h4 hh3 hl3 => ?_) hx
  obtain ⟨_, q2⟩ := asD_seq hh3 (fun e he => List.mem_append_left _ he) hl3 (List.mem_append_right _ List.mem_cons_self) (.dat (.tuple ds))
  obtain ⟨p, xs, rfl, r, d⟩ := q2 ds rfl
  refine ⟨p, xs, rfl, r, fun hw => ?_, fun _ l hl' => ?_⟩
  · rw [d.len] at hw
    have h4 : k (.dat (.tuple (cutD ds l u))) ρ3 st3 := h4
    rw [cutD_whole hw] at h4
    exact hk _ _ _ _ _ h4 hh3 hl3
  · exact hk _ _ _ _ _ h4 (hh3.cut.newTup hl' ((d.cutA _ _).move (wk_owns _))) hl3
theorem de_slL (h : DE X c e ρ st fun s ρ1 st1 => DP X c lo ρ1 st1 fun l ρ2 st2 => DP X c hi ρ2 st2 fun u ρ3 st3 => ∃ ds, AsD ρ3 s (.list ds) ∧ ∀ p, k (.own p (cutD ds l u)) ρ3 st3) : DE X c (.Subscript e (.Slice lo hi none p2) pos) ρ st k := by
  intro τ σ H Q hh hl hk hx
  refine we_of (pe_slice sl_list pe_w (po_w lo) (po_w hi)) ?_
  refine h τ σ H _ hh hl (fun s ρ1 st1 v H1 h2 hh1 hl1 => ?_) hx
  refine h2 _ σ H1 _ hh1 hl1 (fun l ρ2 st2 H2 h3 hh2 hl2 => ?_) hx
  refine h3 _ σ H2 _ hh2 hl2 (fun u ρ3 st3 H3 h4 hh3 hl3 => ?_) hx
  obtain ⟨ds, q, h5⟩ := h4
  obtain ⟨q1, _⟩ := asD_seq hh3 (fun e he => List.mem_append_left _ he) hl3 (List.mem_append_right _ List.mem_cons_self) q
  obtain ⟨p, xs, rfl, r, d⟩ := q1 ds rfl
  exact ⟨p, xs, rfl, r, fun l hl' => hk _ _ _ _ _ (h5 l) (hh3.cut.allocOwn hl' ((d.cutA _ _).move (wk_owns _))) hl3⟩
/-! ### zip of two tuples, of two lists -/
theorem di_zipT {elts : List Expr} {kk : Nat} {tpos p : Pos} {ki : List PyData → Env → c.m.St → Prop} (hm : X.mg "zip" = none)
    (h : DE X c a ρ st fun s1 ρ1 st1 => DE X c b ρ1 st1 fun s2 ρ2 st2 => ∃ ds es, s1 = .dat (.tuple ds) ∧ s2 = .dat (.tuple es) ∧ ki (zipD ds es) ρ2 st2) (hg : Gl X "zip" := by rfl)
    (hs : starEach [a, b] X.env = (false, eval a X.env) :: starEach [b] X.env := by rfl) (hs0 : starEach [b] X.env = (false, eval b X.env) :: starEach [] X.env := by rfl) (hpl : (backTo pos (starEach [b] X.env)).any (·.1) = false := by rfl) :
    DI X c (.Tuple elts kk tpos) (.Call (.Name "zip" p) [a, b] [] pos) ρ st ki := by
  intro τ σ H R hh hl hk hx
  refine wi_of (RZ.pi_zipA hg hm (pa_cons pe_w (pa_cons pe_w pa_nil hs0) hs) hs hpl) ?_
  refine h τ σ H _ hh hl (fun s1 ρ1 st1 v1 H1 h1 hh1 hl1 => ?_) hx
  refine h1 _ σ H1 _ hh1 hl1 (fun s2 ρ2 st2 v2 H2 h2 hh2 hl2 => ?_) hx
  obtain ⟨ds, es, rfl, rfl, q⟩ := h2
  have get : ∀ (A B : List Ent) (st : c.m.St) (H : Hp), Here c.m X.K c.H0 (A ++ ([(some v2, .dat (.tuple es)), (some v1, .dat (.tuple ds))] ++ B)) st H → ∃ p1 p2 xs ys, v1 = .ref p1 ∧ v2 = .ref p2 ∧ SqT X.K H p1 xs ∧ SqT X.K H p2 ys ∧ DaAll (fun a => c.m.N a ∨ a ∈ owns (A ++ ([(some v2, .dat (.tuple es)), (some v1, .dat (.tuple ds))] ++ B))) X.K H xs ds ∧ DaAll (fun a => c.m.N a ∨ a ∈ owns (A ++ ([(some v2, .dat (.tuple es)), (some v1, .dat (.tuple ds))] ++ B))) X.K H ys es := fun A B st H hh => by
    obtain ⟨w1, e1, d1⟩ := hh.dat (List.mem_append_right _ (List.mem_cons_of_mem _ List.mem_cons_self))
    obtain ⟨w2, e2, d2⟩ := hh.dat (List.mem_append_right _ List.mem_cons_self)
    cases e1
    cases e2
    cases d1 with
    | tup r1 q1 =>
      cases d2 with
      | tup r2 q2 => exact ⟨_, _, _, _, rfl, rfl, r1.sq, r2.sq, q1, q2⟩
  obtain ⟨p1, p2, xs0, ys0, rfl, rfl, r1, r2, _, _⟩ := get (σ.zip ρ2) τ st2 H2 hh2
  refine ⟨p1, p2, xs0, ys0, rfl, .inr ⟨r1, r2, hk (zipD ds es) ρ2 st2 _ [(some (.ref p2), .dat (.tuple es)), (some (.ref p1), .dat (.tuple ds))] _ q (fun A B st H hh i => ?_) hh2 hl2⟩⟩
  obtain ⟨_, _, xs, ys, e1, e2, g1, g2, d1, d2⟩ := get A B st H hh
  cases e1
  cases e2
  refine ⟨fun hle => ⟨xs, ys, g1, g2, ?_⟩, fun d hd => ?_⟩
  · rw [zipD_len] at hle
    rw [d1.len, d2.len]
    omega
  · obtain ⟨x, y, hx1, hy1, rfl⟩ := zipD_get hd
    obtain ⟨u1, hu1, du1⟩ := d1.get hx1
    obtain ⟨u2, hu2, du2⟩ := d2.get hy1
    refine ⟨⟨xs, ys, u1, u2, g1, g2, hu1, hu2⟩, fun z H' hz => ?_⟩
    obtain ⟨T, z1, z2, rfl, hT, rfl, f1, f2⟩ := hz
    have ez1 : z1 = u1 := Option.some.inj ((f1 _ g1).symm.trans hu1)
    have ez2 : z2 = u2 := Option.some.inj ((f2 _ g2).symm.trans hu2)
    subst ez1 ez2
    exact hh.newTup hT (.cons du1 (.cons du2 .nil))
theorem di_zipL {elts : List Expr} {kk : Nat} {tpos p : Pos} {ki : List PyData → Env → c.m.St → Prop} (hm : X.mg "zip" = none)
    (h : DE X c a ρ st fun s1 ρ1 st1 => DE X c b ρ1 st1 fun s2 ρ2 st2 => ∃ ds es, s1 = .dat (.list ds) ∧ s2 = .dat (.list es) ∧ ki (zipD ds es) ρ2 st2) (hg : Gl X "zip" := by rfl)
    (hs : starEach [a, b] X.env = (false, eval a X.env) :: starEach [b] X.env := by rfl) (hs0 : starEach [b] X.env = (false, eval b X.env) :: starEach [] X.env := by rfl) (hpl : (backTo pos (starEach [b] X.env)).any (·.1) = false := by rfl) :
    DI X c (.Tuple elts kk tpos) (.Call (.Name "zip" p) [a, b] [] pos) ρ st ki := by
  intro τ σ H R hh hl hk hx
  refine wi_of (RZ.pi_zipA hg hm (pa_cons pe_w (pa_cons pe_w pa_nil hs0) hs) hs hpl) ?_
  refine h τ σ H _ hh hl (fun s1 ρ1 st1 v1 H1 h1 hh1 hl1 => ?_) hx
  refine h1 _ σ H1 _ hh1 hl1 (fun s2 ρ2 st2 v2 H2 h2 hh2 hl2 => ?_) hx
  obtain ⟨ds, es, rfl, rfl, q⟩ := h2
  have get : ∀ (A B : List Ent) (st : c.m.St) (H : Hp), Here c.m X.K c.H0 (A ++ ([(some v2, .dat (.list es)), (some v1, .dat (.list ds))] ++ B)) st H → ∃ p1 p2 xs ys, v1 = .ref p1 ∧ v2 = .ref p2 ∧ SqL X.K H p1 xs ∧ SqL X.K H p2 ys ∧ DaAll (fun a => c.m.N a ∨ a ∈ owns (A ++ ([(some v2, .dat (.list es)), (some v1, .dat (.list ds))] ++ B))) X.K H xs ds ∧ DaAll (fun a => c.m.N a ∨ a ∈ owns (A ++ ([(some v2, .dat (.list es)), (some v1, .dat (.list ds))] ++ B))) X.K H ys es := fun A B st H hh => by
    obtain ⟨w1, e1, d1⟩ := hh.dat (List.mem_append_right _ (List.mem_cons_of_mem _ List.mem_cons_self))
    obtain ⟨w2, e2, d2⟩ := hh.dat (List.mem_append_right _ List.mem_cons_self)
    cases e1
    cases e2
    cases d1 with
    | lst r1 q1 =>
      cases d2 with
      | lst r2 q2 => exact ⟨_, _, _, _, rfl, rfl, r1.sq, r2.sq, q1, q2⟩
  obtain ⟨p1, p2, xs0, ys0, rfl, rfl, r1, r2, _, _⟩ := get (σ.zip ρ2) τ st2 H2 hh2
  refine ⟨p1, p2, xs0, ys0, rfl, .inl ⟨r1, r2, hk (zipD ds es) ρ2 st2 _ [(some (.ref p2), .dat (.list es)), (some (.ref p1), .dat (.list ds))] _ q (fun A B st H hh i => ?_) hh2 hl2⟩⟩
  obtain ⟨_, _, xs, ys, e1, e2, g1, g2, d1, d2⟩ := get A B st H hh
  cases e1
  cases e2
  refine ⟨fun hle => ⟨xs, ys, g1, g2, ?_⟩, fun d hd => ?_⟩
  · rw [zipD_len] at hle
    rw [d1.len, d2.len]
    omega
  · obtain ⟨x, y, hx1, hy1, rfl⟩ := zipD_get hd
    obtain ⟨u1, hu1, du1⟩ := d1.get hx1
    obtain ⟨u2, hu2, du2⟩ := d2.get hy1
    refine ⟨⟨xs, ys, u1, u2, g1, g2, hu1, hu2⟩, fun z H' hz => ?_⟩
    obtain ⟨T, z1, z2, rfl, hT, rfl, f1, f2⟩ := hz
    have ez1 : z1 = u1 := Option.some.inj ((f1 _ g1).symm.trans hu1)
    have ez2 : z2 = u2 := Option.some.inj ((f2 _ g2).symm.trans hu2)
    subst ez1 ez2
    exact hh.newTup hT (.cons du1 (.cons du2 .nil))
end
end DL

namespace DL
open PySem PySem.Spec PyProof.Rows L2
section
variable {X : Cx} {c : Cz} {e a b : Expr} {ρ : Env} {st : c.m.St} {pos : Pos} {k : Slot → Env → c.m.St → Prop} {K : PySem.W.Frag} {s1 : Slot}
/-- sorted(a list of numbers) -/
theorem dcall_sorted {ns : List Int} (q : AsD ρ s1 (.list (ns.map .int))) (h : ∀ (ms : List Int) (p : Addr), ms.Perm ns → ms.Pairwise (· ≤ ·) → k (.own p (ms.map .int)) ρ st) : DCall K c (rSortedI K) [s1] ρ st k := by
  intro τ σ H Q vs hlen hh hl hk
  obtain ⟨v, rfl⟩ := one_of hlen
  have h' : Here c.m K c.H0 (σ.zip ρ ++ (some v, s1) :: τ) st H := hh
  obtain ⟨q1, _⟩ := asD_seq h' (fun e he => List.mem_append_left _ he) hl (List.mem_append_right _ List.mem_cons_self) q
  obtain ⟨p, xs, rfl, q3, q4⟩ := q1 _ rfl
  have := daI q4
  subst this
  exact ⟨p, ns, rfl, q3, fun ms l hp hs hl' => hk _ _ _ _ _ (h ms l hp hs) (h'.cut.allocOwn hl' (ints_da ms)) hl⟩
/-- xs[::-1], a list -/
theorem de_revL {kk : Nat} {p1 p2 p3 : Pos} (h : DE X c e ρ st fun s ρ1 st1 => ∃ ds, AsD ρ1 s (.list ds) ∧ ∀ p, k (.own p ds.reverse) ρ1 st1) : DE X c (.Subscript e (.Slice none none (some (.UnaryOp .USub (.Constant (.int 1) kk p1) p2)) p3) pos) ρ st k := by
  intro τ σ H Q hh hl hk hx
  refine we_of (pe_revL pe_w) (h τ σ H _ hh hl (fun s ρ1 st1 v H1 h1 hh1 hl1 => ?_) hx)
  obtain ⟨ds, q, h2⟩ := h1
  obtain ⟨q1, _⟩ := asD_seq hh1 (fun e he => List.mem_append_left _ he) hl1 (List.mem_append_right _ List.mem_cons_self) q
  obtain ⟨p, xs, rfl, r, d⟩ := q1 ds rfl
  have rev : ∀ {N : Addr → Prop} {xs : List V} {ds : List PyData}, DaAll N X.K H1 xs ds → DaAll N X.K H1 xs.reverse ds.reverse := by
    intro N xs
    induction xs with
    | nil => intro ds q; cases q; exact .nil
    | cons x xs ih =>
      intro ds q
      cases q with
      | cons q1 q2 =>
        rw [List.reverse_cons, List.reverse_cons]
        exact (ih q2).app (.cons q1 .nil)
  exact ⟨p, xs, rfl, r, fun l hl' => hk _ _ _ _ _ (h2 l) (hh1.cut.allocOwn hl' ((rev d).move (wk_owns _))) hl1⟩
/-- xs.pop(at), xs an owned list, by its name -/
theorem de_popAt {i : Nat} {x : Str} {p : Addr} {ds0 : List PyData} {np apos : Pos} (hN : X.N[i]? = some x) (hv : Vis X.env.scope x) (hρ : ρ[i]? = some (.own p ds0))
    (h : DE X c e ρ st fun s ρ1 st1 => ∃ (j : Int) (n : Nat) (ds : List PyData) (d : PyData), s = .dat (.int j) ∧ ρ1[i]? = some (.own p ds) ∧ -(2 ^ 63) ≤ j ∧ j < 2 ^ 63 ∧ seqIndex? j ds.length = some n ∧ ds[n]? = some d ∧ k (.dat d) (ρ1.set i (.own p (ds.eraseIdx n))) st1)
    (hd : (x == ("__debug__" : Str)) = false := by decide) (hcd : (x == ("__classdict__" : Str)) = false := by decide)
    (hbase : attributeBase (.Name x np) "pop" X.env (eval (.Name x np) X.env) = eval (.Name x np) X.env := by rfl)
    (hfew : ((backTo pos (starEach (e :: []) X.env)).all (fun x => !x.1) && (backToKw pos (keywordEach [] X.env)).all (fun x => x.1.isSome)
      && decide ((e :: ([] : List Expr)).length + ([] : List Keyword).length + (if ([] : List Keyword).isEmpty then 0 else 1) < 30)) = true := by rfl)
    (hline : (apos.endLine == pos.line) = true := by rfl) (hs : starEach (e :: []) X.env = (false, eval e X.env) :: starEach [] X.env := by rfl) (hplain : (backTo pos (starEach [] X.env)).any (·.1) = false := by rfl) :
    DE X c (.Call (.Attribute (.Name x np) "pop" apos) [e] [] pos) ρ st k := by
  intro τ σ H Q hh hl hk hx
  obtain ⟨o0, e1, e2, _⟩ := zip_get hl hρ
  obtain ⟨eo, xs0, e3, _⟩ := hh.all _ (List.mem_append_left _ e2)
  have eo' : o0 = some (V.ref p) := eo
  refine we_of (pe_bm PySem.F.plainAttrs_list PySem.F.slot_list_pop PySem.F.type_list_pop (fun pins s σ H x vs v us Q => mt_popAt pins s σ H x vs v us Q) (pe_var hN hv hd hcd) (pa_cons pe_w pa_nil hs) hbase hfew hline hs hplain) ?_
  refine ⟨.ref p, by rw [e1, eo'], .inl ⟨rfl, xs0, .inl (.inl e3)⟩, ?_⟩
  refine h τ σ H _ hh hl (fun s ρ1 st1 v H1 h1 hh1 hl1 => ?_) hx
  obtain ⟨j, n, ds, d, rfl, hρ1, hj1, hj2, hseq, hdn, q⟩ := h1
  have ev : v = .int j := arg_flat hh1 (w := .int j) rfl
  subst ev
  obtain ⟨A, o, B, f1, f2, f3⟩ := set_mid hl1 hρ1
  have hh' : Here c.m X.K c.H0 (A ++ (o, .own p ds) :: (B ++ τ)) st1 H1 := by
    have z := hh1.cut
    rw [f1, List.append_assoc] at z
    exact z
  obtain ⟨_, xs, eH, qx⟩ := hh'.all _ (List.mem_append_right _ List.mem_cons_self)
  obtain ⟨y, hy1, hy2⟩ := qx.get hdn
  refine ⟨p, xs, j, n, y, rfl, rfl, eH, hj1, hj2, by rw [qx.len]; exact hseq, hy1, ?_⟩
  have w := hh'.write (ys := xs.eraseIdx n) (qx.erase n)
  refine hk (.dat d) _ st1 y _ q ?_ (by rw [List.length_set]; exact hl1)
  rw [f3, List.append_assoc]
  have hp : p ∈ owns (A ++ (o, Slot.own p ds) :: (B ++ τ)) := mem_owns.mpr ⟨_, List.mem_append_right _ List.mem_cons_self, rfl⟩
  have eow : owns (A ++ (o, Slot.own p (ds.eraseIdx n)) :: (B ++ τ)) = owns (A ++ (o, Slot.own p ds) :: (B ++ τ)) := by rw [owns_app, owns_app, owns_cons, owns_cons]; rfl
  have w' : Here c.m X.K c.H0 ((A ++ (o, .own p (ds.eraseIdx n)) :: B) ++ τ) st1 (upd H1 p (.lst (xs.eraseIdx n))) := by rw [List.append_assoc]; exact w
  have r := w'.put (e := (some y, .dat d)) rfl ⟨y, rfl, hy2.move fun a u n' t e' => ⟨?_, ?_⟩⟩
  · rw [List.append_assoc] at r
    exact r
  · rw [List.append_assoc]
    show ¬ (c.m.N a ∨ a ∈ owns (A ++ (o, Slot.own p (ds.eraseIdx n)) :: (B ++ τ)))
    rw [eow]
    exact n'
  · rw [upd_ne fun z => n' (.inr (by rw [z]; exact hp))]
    exact e'
end
end DL

namespace PySem
open PySem.Sem (wp)
open AutoSeq1 (wpAny_loadPart')
/-! ### enumerate of a tuple -/
theorem tup_enum_new (q : Addr) (xs : Array Value) (n : Nat) (dd : Option Addr) (sl : Array (Option Value)) :
    Meets (Builtin.«enumerate.__new__» ⟨[.type "enumerate", .ref q], []⟩) (fun _ R s => s.heap.get? q = some { cls := .type "tuple", dict := dd, data := .seq xs n, slots := sl } ∧
      R (.ok (.ret (.ref (s.heap.push { cls := .type "tuple_iterator", data := .fields #[.ref q, .int 0 0] }).objs.size)))
        { s with heap := (s.heap.push { cls := .type "tuple_iterator", data := .fields #[.ref q, .int 0 0] }).push { cls := .type "enumerate", data := .fields #[.none, .bool false, .ref s.heap.objs.size, rawInt 0, .none, .none] } }) := by
  refine .of_wp fun prog w A R s h => ?_
  obtain ⟨hp, gs, dr, tk, os⟩ := s
  obtain ⟨there, want⟩ := h
  have isub := sub_enumerate
  have isT : Heap.IsTuple (Shared.heap ⟨hp, gs, dr, tk, os⟩) q xs := ⟨_, there, rfl, n, rfl⟩
  wp_walk using wpAny_loadPart' there
  refine wpAny_stack_any fun st => wpAny_pure ?_
  split
  · rename_i c _ _ _ _ _
    cases (c == Value.type "enumerate") <;> (wp_walk using wpAny_loadPart' there, wpAny_pyIter_tuple isT; exact ⟨_, rfl, want⟩)
  · wp_walk using wpAny_loadPart' there, wpAny_pyIter_tuple isT
    exact ⟨_, rfl, want⟩
section
variable {prog : Program} {w : World} {A : Around} {E : Value → Shared → Prop} {s : Shared}
theorem tup_enum_call {q : Addr} {xs : Array Value} {Q : Value → Shared → Prop} (isT : s.heap.IsTuple q xs)
    (h : ∀ g, IsEnum g (s.heap.objs.size + 1) s.heap.objs.size 0 .none → g.IsTupleIter s.heap.objs.size q 0 → (∀ b o, s.heap.get? b = some o → g.get? b = some o) → Q (.ref (s.heap.objs.size + 1)) { s with heap := g }) :
    wpAny (model prog w) A (call (.type "enumerate") [.ref q]) Q E s := by
  obtain ⟨⟨c, dd, dt, sl⟩, there, hc, n, hd⟩ := isT
  replace hc : c = .type "tuple" := hc
  replace hd : dt = .seq xs n := hd
  subst hc hd
  have size1 : (s.heap.push { cls := .type "tuple_iterator", data := .fields #[.ref q, .int 0 0] }).objs.size = s.heap.objs.size + 1 := Heap.size_push ..
  have isE : IsEnum ((s.heap.push { cls := .type "tuple_iterator", data := .fields #[.ref q, .int 0 0] }).push { cls := .type "enumerate", data := .fields #[.none, .bool false, .ref s.heap.objs.size, rawInt 0, .none, .none] }) (s.heap.objs.size + 1) s.heap.objs.size 0 .none := by
    have z := Heap.get?_push_size (s.heap.push { cls := .type "tuple_iterator", data := .fields #[.ref q, .int 0 0] }) (o := { cls := .type "enumerate", data := .fields #[.none, .bool false, .ref s.heap.objs.size, rawInt 0, .none, .none] }) rfl
    rw [size1] at z
    exact z
  refine callType_new F.called_enumerate (by decide) (F.typeCall_enumerate_1 _) (F.newCall_enumerate_1 _) (fun obj => F.args_object_init_2 obj _) F.entry_enumerate_new (tup_enum_new q xs n dd sl) ⟨there, ?_⟩
  show _ ∧ _
  rw [size1]
  exact ⟨⟨_, isE, rfl⟩, h _ isE ⟨_, Heap.get?_push_of_some _ (Heap.get?_push_size _ rfl), rfl, rfl⟩ fun b o e => Heap.get?_push_of_some _ (Heap.get?_push_of_some _ e)⟩
theorem tup_draws (hh : A.handled = none) (it q : Addr) (ne : q ≠ it) (xs : Array Value) : Draws prog w A it [it, q] xs.size (fun i v => xs[i]? = some v) (fun i h => h.IsTupleIter it q i ∧ h.IsTuple q xs) where
  live := fun _ _ z => let ⟨o, ho, _⟩ := z.1; ⟨o, ho⟩
  frame := fun _ _ _ z k => ⟨z.1.at fun o e => k it (by simp) o e, by
    obtain ⟨o, ho, r⟩ := z.2
    exact ⟨o, k q (by simp) o ho, r⟩⟩
  item := fun i s Q E hi z hQ => RZ.nextOf_tuple_item z.1 z.2 (x := xs[i]) (by simp [hi]) fun g st1 sb => hQ _ g s.toks (by simp [hi]) ⟨st1, z.2.extBut sb.extBut ne⟩ sb
  done := fun s Q E z hE => RZ.nextOf_tuple_end hh z.1 z.2 (by simp) hE
theorem tup_enum_end {e it q : Addr} {i : Nat} {xs : Array Value} {old : Value} {Q : Option Value → Shared → Prop} (hh : A.handled = none) (isE : IsEnum s.heap e it i old) (st : s.heap.IsTupleIter it q i) (isT : s.heap.IsTuple q xs) (no : xs[i]? = none)
    (hQ : ∀ g, Heap.ExtBut it s.heap g → Q none { s with heap := g }) : wpAny (model prog w) A (pyNext (.ref e)) Q E s := by
  have ty : s.TypeIs (.ref e) "enumerate" := ⟨_, isE, rfl⟩
  unfold pyNext
  refine wpAny_bind (wpAny_attempt (wpAny_callSpecial?_slot (name := Str.ofString "__next__") ty F.slot_enumerate_next (wpAny_call_entry F.slot_enumerate_next ty F.entry_enumerate_next ?_ (F.args_enumerate_next_1 _))))
  show wpAny _ _ (field (.ref e) 2 >>= _) _ _ _
  refine wpAny_bind (wpAny_field isE rfl (x := .ref it) rfl (wpAny_bind (RZ.nextOf_tuple_end hh st isT no fun g u eb ⟨o, ho, hc⟩ => ?_)))
  exact wpAny_bind (wpAny_isInstance (T := "StopIteration") (b := true) ⟨o, ho, hc⟩ isSubtype_stop (wpAny_pure (hQ _ eb)))
end
end PySem

namespace DL
open PySem PySem.Spec PyProof.Rows L2
/-- the tuple at q as it stands at each turn, the items in new pairs with their numbers -/
def IteT (K : PySem.W.Frag) (q : Addr) : It :=
  ⟨fun i H => ∃ (xs : List V) (x : V), SqT K H q xs ∧ xs[i]? = some x, fun i H v H' => ∃ T x, v = .ref T ∧ H T = none ∧ H' = upd H T (.tup [.int (i : Nat), x]) ∧ ∀ xs, SqT K H q xs → xs[i]? = some x, fun i H => ∃ xs : List V, SqT K H q xs ∧ xs.length ≤ i⟩
theorem turn_enumT {P : Program} {w : World} {K : PySem.W.Frag} {elts : List Expr} {kk : Nat} {tpos : Pos} (q e it : Addr) :
    Turn P w K (.Tuple elts kk tpos) (IteT K q) [e, it] e (fun i h => (∃ old, IsEnum h e it ((i : Nat) : Int) old) ∧ h.IsTupleIter it q i ∧ e ≠ it) where
  mem := by simp
  obj := fun i h st b hb => by
    obtain ⟨⟨old, isE⟩, ⟨o, ho, _, rec⟩, _⟩ := st
    have two : b = e ∨ b = it := by simpa using hb
    rcases two with rfl | rfl
    · exact ⟨_, isE, fun v z => nomatch z⟩
    · exact ⟨o, ho, fun v z => by rw [rec] at z; cases z⟩
  keep := fun i h h' st k => ⟨let ⟨old, isE⟩ := st.1; ⟨old, k e (by simp) _ isE⟩, st.2.1.at fun o z => k it (by simp) o z, st.2.2⟩
  item := by
    intro X hP hw hK hc i pins s σ H E I fp st go
    subst hP hw hK
    obtain ⟨⟨old, isE⟩, isI, ne⟩ := st
    obtain ⟨xs, x, sq, hx⟩ := go
    obtain ⟨its, rv, tup, hz⟩ := I.tuple sq
    have tup2 : s.heap.IsTuple q its.toArray := tup
    obtain ⟨u, hu, ru⟩ := rv.get hx
    have elt : e < s.heap.objs.size := Heap.lt_size isE
    have ilt : it < s.heap.objs.size := by obtain ⟨_, z, _⟩ := isI; exact Heap.lt_size z
    have qi : q ≠ it := fun z => by
      obtain ⟨o1, h1, c1, _⟩ := tup2
      obtain ⟨o2, h2, c2, _⟩ := isI
      rw [z, h2] at h1
      cases h1
      rw [c1] at c2
      exact absurd (Value.type.inj c2) (by decide)
    have eq2 : e ≠ q := fun z => by
      obtain ⟨o1, h1, c1, _⟩ := tup2
      have h2 := isE
      unfold IsEnum at h2
      rw [z, h1] at h2
      cases h2
      exact absurd (Value.type.inj c1) (by decide)
    have lt : i < its.toArray.size := by
      have z := (List.getElem?_eq_some_iff.mp hu).1
      simpa using z
    refine wpAny_pyNext_enum_itemD (tup_draws (A := X.A.in1) (show X.A.in1.handled = none from I.ok.hd hc) it q qi its.toArray) isE ⟨isI, tup2⟩ lt ne (by simp [ne, eq2]) fun u1 g1 tk hu1 outE st1 newT _ kept => ?_
    have eu : u1 = u := by
      have z : its.toArray[i]? = some u := by simpa using hu
      exact Option.some.inj (hu1.symm.trans z)
    subst eu
    refine ⟨_, rfl, wpAny_letOwnedTupleGo_enum (s := { s with heap := g1, toks := tk + 1 }) outE fun g2 isE2 sb => ?_⟩
    have newT2 : g2.get? s.heap.objs.size = some { cls := .type "tuple", data := .seq #[.int i tk, u1] } := (sb.2 _ (Nat.ne_of_gt elt)).trans newT
    have laid : ObjOk X.prog X.w (upd H s.heap.objs.size (.tup [.int (i : Nat), x])) g2 s.heap.objs.size (.tup [.int (i : Nat), x]) :=
      ⟨by show 2 ≤ sizeLine; decide, [.int i tk, u1], .cons ⟨_, rfl⟩ (.cons ru .nil), ⟨_, newT2, rfl, _, rfl⟩⟩
    have J : Inv X pins σ (upd H s.heap.objs.size (.tup [.int (i : Nat), x])) { s with heap := g2, toks := tk + 1 } :=
      I.turnedNew (ch := [e, it]) (fun b ob nb z => (sb.2 b (fun w => nb (by simp [w]))).trans (kept b ob (fun w => nb (by simp [w])) (fun w => nb (by simp [w])) z)) fp (Nat.le_refl _) laid
    refine ⟨.ref s.heap.objs.size, _, J, rfl, ⟨_, x, rfl, I.hok.fresh (Nat.le_refl _), rfl, fun ys sy => by rw [I.tuple_inj sy sq]; exact hx⟩, ⟨⟨u1, ?_⟩, st1.1.at fun o z => (sb.2 it (Ne.symm ne)).trans z, ne⟩, fun b hb => ?_⟩
    · rw [show ((i + 1 : Nat) : Int) = (i : Int) + 1 by omega]
      exact isE2
    · have low : b < s.heap.objs.size := by
        have two : b = e ∨ b = it := by simpa using hb
        rcases two with rfl | rfl
        · exact elt
        · exact ilt
      rw [upd_ne (Nat.ne_of_lt low)]
      exact (fp b hb).1
  done := by
    intro X hP hw hK hc i pins s σ H E I fp st stop
    subst hP hw hK
    obtain ⟨⟨old, isE⟩, isI, ne⟩ := st
    obtain ⟨xs, sq, hle⟩ := stop
    obtain ⟨its, rv, tup, hz⟩ := I.tuple sq
    obtain ⟨f0, f1, f2, f3, f4, f5⟩ := fp it (by simp)
    have len := rv.length
    exact tup_enum_end (I.ok.hd hc) isE isI (show s.heap.IsTuple q its.toArray from tup) (by simp; omega) fun g eb => ⟨rfl, I.turned (t' := s.toks) (fun b o hb z => eb b o hb z) f0 f1 f3 f4 f5⟩
  self := fun A i s Q E st h => let ⟨⟨_, isE⟩, _⟩ := st; wpAny_pyIter_enum isE h
section
variable {X : Cx} {c : Cz} {e : Expr} {ρ : Env} {st : c.m.St} {pos : Pos}
def iEnumT (K : PySem.W.Frag) (ta : TA) : TI := fun σ H R => ta σ H fun vs H1 => ∃ a xs, vs = [.ref a] ∧ SqT K H1 a xs ∧ R (IteT K a) H1
theorem pi_enumT {ta : TA} {p tpos : Pos} {elts : List Expr} {kk : Nat} (hg : Gl X "enumerate") (hm : X.mg "enumerate" = none) (ha : PA X [e] ta) (hs : starEach [e] X.env = [(false, eval e X.env)] := by rfl) :
    PI X (.Tuple elts kk tpos) (.Call (.Name "enumerate" p) [e] [] pos) (iEnumT X.K ta) := by
  constructor
  intro pins s σ H R I h
  refine Call_ (ld_blt I hg hm boot_enumerate (PyProof.Rows.callWith_type1 (thn (ha.run pos pins s σ H _ I h) fun us s1 ⟨vs, H1, J, rv, a, xs, ev, sq, want⟩ => ?_) hs rfl))
  subst ev
  cases rv with
  | cons r rest =>
    cases rest
    cases r
    obtain ⟨its, _, tup, _⟩ := J.tuple sq
    refine tup_enum_call (show s1.heap.IsTuple a its.toArray from tup) fun g isE isI k => wpAny_pyIter_enum isE ?_
    have J2 : Inv X pins σ H1 { s1 with heap := g } := J.kept (t' := s1.toks) k
    refine ⟨s1.heap.objs.size + 1, [s1.heap.objs.size + 1, s1.heap.objs.size], _, _, H1, rfl, J2, turn_enumT a (s1.heap.objs.size + 1) s1.heap.objs.size, ⟨⟨.none, isE⟩, isI, Nat.succ_ne_self _⟩, fun b hb => ?_, want⟩
    have above : s1.heap.objs.size ≤ b := by
      have two : b = s1.heap.objs.size + 1 ∨ b = s1.heap.objs.size := by simpa using hb
      rcases two with rfl | rfl
      · exact Nat.le_add_right _ _
      · exact Nat.le_refl _
    exact J.fpOk above (J.hok.fresh above)
/-- enumerate of a tuple of data -/
theorem di_enumT {elts : List Expr} {kk : Nat} {tpos p : Pos} {ki : List PyData → Env → c.m.St → Prop} (hm : X.mg "enumerate" = none)
    (h : DE X c e ρ st fun s ρ1 st1 => ∃ ds, s = .dat (.tuple ds) ∧ ki (enumD 0 ds) ρ1 st1) (hg : Gl X "enumerate" := by rfl) (hs : starEach [e] X.env = [(false, eval e X.env)] := by rfl) (hs0 : starEach [e] X.env = (false, eval e X.env) :: starEach [] X.env := by rfl) :
    DI X c (.Tuple elts kk tpos) (.Call (.Name "enumerate" p) [e] [] pos) ρ st ki := by
  intro τ σ H R hh hl hk hx
  refine wi_of (pi_enumT hg hm (pa_cons pe_w pa_nil hs0) hs) ?_
  refine h τ σ H _ hh hl (fun s ρ1 st1 v H1 h1 hh1 hl1 => ?_) hx
  obtain ⟨ds, rfl, q⟩ := h1
  obtain ⟨v', e', z⟩ := hh1.dat (List.mem_append_right _ List.mem_cons_self)
  cases e'
  cases z with
  | tup r qa =>
    rename_i a xs0
    refine ⟨a, _, rfl, r.sq, hk (enumD 0 ds) ρ1 st1 _ [(some (.ref a), .dat (.tuple ds))] _ q (fun A B st H hh i => ?_) hh1 hl1⟩
    obtain ⟨v'', e'', z⟩ := hh.dat (List.mem_append_right _ List.mem_cons_self)
    cases e''
    cases z with
    | tup r qa =>
      refine ⟨fun hle => ⟨_, r.sq, by rw [qa.len, ← enumD_len 0 ds]; exact hle⟩, fun d hd => ?_⟩
      obtain ⟨x, hx1, rfl⟩ := enumD_get hd
      obtain ⟨w, hw1, hw2⟩ := qa.get hx1
      refine ⟨⟨_, w, r.sq, hw1⟩, fun y H' hy => ?_⟩
      obtain ⟨T, x2, rfl, hT, rfl, hx2⟩ := hy
      have ex : x2 = w := Option.some.inj ((hx2 _ r.sq).symm.trans hw1)
      subst ex
      rw [show ((0 + i : Nat) : Int) = (i : Int) by omega]
      exact hh.newTup hT (.cons (.int _) (.cons hw2 .nil))
end
end DL

namespace DL
open PySem PySem.Spec PyProof.Rows L2
/-! ### sorted of anything that is collected into data -/
/-- how the values are collected -/
def Cols (X : Cx) (pins : List (Addr × Obj)) (s : Shared) (u : Value) (xs : List V) : Prop :=
  ∀ (Q' : List Value → Shared → Prop) (E' : Value → Shared → Prop), (∀ (h' : Heap) (tk : Nat) (vs : List Value), (∀ b o, s.heap.get? b = some o → h'.get? b = some o) → Vals xs vs → Q' vs { s with heap := h', toks := tk }) → wpAny (model X.prog X.w) X.A.in1 (collect u) Q' E' s
theorem cols_list {X : Cx} {pins : List (Addr × Obj)} {s : Shared} {σ : L2.St} {H : Hp} {a : Addr} {xs : List V} (I : Inv X pins σ H s) (h : SqL X.K H a xs) : Cols X pins s (.ref a) xs := by
  intro Q' E' q
  obtain ⟨its, rv, hl, hz⟩ := I.list h
  refine PyProof.Rows.collect_list hl.isList (q _ s.toks its (fun b o e => ?_) rv) (by rw [← rv.length]; exact hz)
  rw [Heap.get?_update_ne _ _ _ _ (Nat.ne_of_lt (Heap.lt_size e))]
  exact Heap.get?_push_of_some _ e
theorem cols_tup {X : Cx} {pins : List (Addr × Obj)} {s : Shared} {σ : L2.St} {H : Hp} {a : Addr} {xs : List V} (I : Inv X pins σ H s) (h : SqT X.K H a xs) : Cols X pins s (.ref a) xs := by
  intro Q' E' q
  obtain ⟨its, rv, ⟨o, ho, hc, n, hd⟩, hz⟩ := I.tuple h
  have hz' : its.length ≤ sizeLine := by rw [← rv.length]; exact hz
  have new : ∀ hp : Heap, (hp.push { cls := .type "list", data := .seq (#[] : Array Value) }).get? hp.objs.size = some { cls := .type "list", data := .seq (#[] : Array Value) } := fun hp => Heap.get?_push_size hp rfl
  unfold collect
  refine wpAny_bind <| wpAny_runValue <| codeAny_builtin entry_proto_collect' ?_
  show wpAny _ _ (do let l ← newList []; again (.builtin "list.__iadd__" ⟨[l, .ref a], []⟩)) _ _ s
  refine wpAny_bind <| wpAny_newList <| wpAny_pure ⟨Code.quiet_builtin _ (by decide +kernel), codeAny_builtin entry_list_iadd' ?_⟩
  show wpAny _ _ (Builtin.List.listExtendWith (.ref s.heap.objs.size) (.ref a) (.ref s.heap.objs.size)) _ _ { s with heap := s.heap.push { cls := .type "list", data := .seq (#[] : Array Value) } }
  have ho2 : (s.heap.push { cls := .type "list", data := .seq (#[] : Array Value) }).get? a = some o := Heap.get?_push_of_some _ ho
  unfold Builtin.List.listExtendWith
  refine wpAny_bind <| wpAny_typeOf (T := "tuple") ⟨o, ho2, hc⟩ ?_
  have ht2 : (Value.type "tuple" == Value.type "tuple") = true := by rfl
  rw [if_pos (by rw [ht2]; simp)]
  refine wpAny_bind <| listItems_at ho2 hd ?_
  refine wpAny_bind <| listItems_at (new s.heap) rfl ?_
  rw [if_neg (by simp)]
  refine wpAny_bind <| listUpdate_at (new s.heap) rfl ?_ (Nat.zero_le _) (by show (#[] ++ its.toArray).size ≤ _; simp only [Array.size_append, List.size_toArray, List.length_nil]; omega)
  refine wpAny_pure ?_
  refine wpAny_bind (wpAny_load (get?_update_seq (new s.heap) _) ?_)
  show wpAny _ _ (pure ((#[] : Array Value) ++ its.toArray).toList) _ _ _
  have e0 : ((#[] : Array Value) ++ its.toArray).toList = its := by simp
  rw [e0]
  refine wpAny_pure (q _ s.toks its (fun b u e => ?_) rv)
  rw [Heap.get?_update_ne _ _ _ _ (Nat.ne_of_lt (Heap.lt_size e))]
  exact Heap.get?_push_of_some _ e
theorem snd_zip {α β : Type} : ∀ {xs : List α} {ys : List β}, xs.length = ys.length → (xs.zip ys).map Prod.snd = ys
  | [], [], _ => rfl
  | x :: xs, y :: ys, h => by
    show y :: (xs.zip ys).map Prod.snd = y :: ys
    rw [snd_zip (by simpa using h)]
theorem each_vals {xs : List V} {vs : List Value} (r : Vals xs vs) : ∀ {ds : List PyData}, xs.length = ds.length → PySem.W.EachIs (fun v (b : V × PyData) => RelV b.1 v) vs (xs.zip ds) := by
  unfold Vals at r
  induction r with
  | nil => intro ds _; exact .nil
  | cons h t ih =>
    intro ds hl
    cases ds with
    | nil => cases hl
    | cons d ds => exact .cons h (ih (by simpa using hl))
theorem vals_each : ∀ {vs : List Value} {ps : List (V × PyData)}, PySem.W.EachIs (fun v (b : V × PyData) => RelV b.1 v) vs ps → Vals (ps.map Prod.fst) vs
  | _, _, .nil => .nil
  | _, _, .cons h t => .cons h (vals_each t)
theorem dpAll_len {K : PySem.W.Frag} {H : Hp} : ∀ {xs : List V} {ds : List PyData}, DpAll K H xs ds → xs.length = ds.length
  | _, _, .nil => rfl
  | _, _, .cons _ q => by rw [List.length_cons, List.length_cons, dpAll_len q]
/-- what is left of the items: the pairs of values and data, sorted -/
def SortQ (b : Bool) (xs : List V) (ds : List PyData) (H : Hp) (Q : VK) : Prop :=
  ∀ (ps : List (V × PyData)) (p : Addr), ps = (xs.zip ds).mergeSort (PySem.W.dataLe b Prod.snd) → H p = none → Q (.ref p) (upd H p (.lst (ps.map Prod.fst)))
theorem sorted_core {X : Cx} {pins : List (Addr × Obj)} {s : Shared} {σ : L2.St} {H : Hp} {u : Value} {b : Bool} {kw : List (Str × Value)} {xs : List V} {ds : List PyData} {Q : VK} (I : Inv X pins σ H s)
    (hkw : (kw = [] ∧ b = false) ∨ kw = [(Str.ofString "reverse", .bool b)]) (hal : PySem.W.AllAlike ds) (hk : PySem.W.Sortable ds) (hL : ds.length ≤ 16000000) (hu : X.A.units + 64 < cLine) (hd : ∀ d ∈ ds, d.depth ≤ 8) (hdp : DpAll X.K H xs ds) (hc : Cols X pins s u xs) (q : SortQ b xs ds H Q) :
    wpAny (model X.prog X.w) X.A (call (.builtin "sorted") [u] kw) (EP X pins σ Q) X.xe s := by
  have lx := dpAll_len hdp
  refine call_function_entry_kw kind_sorted plain_sorted entry_sorted (by rcases hkw with ⟨rfl, _⟩ | rfl; exact args_sorted1 _; exact args_sorted_rev _ _) ?_
  unfold Builtin.«sorted»
  refine wpAny_bind <| wpAny_pure ?_
  refine wpAny_bind <| hc _ _ fun h' tk vs keep rv => ?_
  have hz : vs.length ≤ 16000000 := by rw [← rv.length, lx]; exact hL
  have hz2 : vs.length ≤ sizeLine := Nat.le_trans hz (by decide)
  have I1 : Inv X pins σ H { s with heap := h', toks := tk } := I.kept keep
  refine wpAny_bind <| wpAny_newList ?_ hz2
  obtain ⟨h1, eh1⟩ : ∃ h1 : Heap, h1 = h'.push (seqObj "list" vs.toArray 0) := ⟨_, rfl⟩
  show wpAny _ _ _ _ _ { s with heap := h'.push (seqObj "list" vs.toArray 0), toks := tk }
  have hoL : h1.get? h'.objs.size = some (seqObj "list" vs.toArray 0) := by rw [eh1]; exact Heap.get?_push_size _ rfl
  rw [← eh1]
  obtain ⟨as, hr⟩ := Dp.readsAll I1 ds xs vs hdp rv
  have lt : ∀ {c : Addr} {o : Obj}, h'.get? c = some o → c ≠ h'.objs.size := fun e => Nat.ne_of_lt (Heap.lt_size e)
  have k1 : ∀ (c : Addr) (o : Obj), h'.get? c = some o → (PySem.W.sortingHeap h1 h'.objs.size vs).get? c = some o := fun c o e => PySem.W.sortingHeap_old (lt e) (by rw [eh1]; exact Heap.get?_push_of_some _ e)
  have er : PySem.W.EachIs (fun v d => ∃ as, Reads (PySem.W.sortingHeap h1 h'.objs.size vs) v d as) vs ds := by
    have e0 := PySem.W.readsAll_each (h := h') (fun d => d) (vs := vs) (bs := ds) (by rw [List.map_id']; exact hr)
    exact e0.mono fun _ _ ⟨as, r⟩ => ⟨as, PyProof.Rows.Reads.keeps k1 r⟩
  have eb : PySem.W.EachIs (fun v (c : V × PyData) => ∃ as, Reads (PySem.W.sortingHeap h1 h'.objs.size vs) v c.2 as) vs (xs.zip ds) := by
    have : PySem.W.EachIs (fun v d => ∃ as, Reads (PySem.W.sortingHeap h1 h'.objs.size vs) v d as) vs ((xs.zip ds).map Prod.snd) := by rw [snd_zip lx]; exact er
    exact PySem.W.each_of_map Prod.snd this
  have S : PySem.W.SortsAt X.prog X.w X.A.in1.in1 { s with heap := PySem.W.sortingHeap h1 h'.objs.size vs, toks := tk } (PySem.W.dataKind (PySem.W.sortingHeap h1 h'.objs.size vs) ds) vs :=
    PySem.W.SortsAt.data (s := { s with heap := PySem.W.sortingHeap h1 h'.objs.size vs, toks := tk }) er hal hk fun d hd' => by
      have a1 := hd d hd'
      show X.A.units + 1 + 1 + d.depth < cLine
      omega
  have out := PySem.W.sortVals_data (h' := PySem.W.sortingHeap h1 h'.objs.size vs) (enc := Prod.snd) b (each_vals rv lx) eb (by rw [snd_zip lx]; exact hal)
  rw [snd_zip lx] at out
  have rv2 := vals_each out
  have lout : ((xs.zip ds).mergeSort (PySem.W.dataLe b Prod.snd)).length = xs.length := by rw [List.length_mergeSort, List.length_zip, lx, Nat.min_self]
  have fin : ∀ (n : Nat), EP X pins σ Q (.ref h'.objs.size) { s with heap := sortedHeap h1 h'.objs.size vs (PySem.W.sortVals (PySem.W.dataKind (PySem.W.sortingHeap h1 h'.objs.size vs) ds) b vs vs).toArray, toks := tk } := fun _ => by
    obtain ⟨e', he'⟩ := sortedHeap_at (vs := vs) (out := (PySem.W.sortVals (PySem.W.dataKind (PySem.W.sortingHeap h1 h'.objs.size vs) ds) b vs vs).toArray) hoL
    refine ⟨.ref h'.objs.size, upd H h'.objs.size (.lst (((xs.zip ds).mergeSort (PySem.W.dataLe b Prod.snd)).map Prod.fst)), I1.laid (t' := tk) (fun c o e => ?_) (Nat.le_refl _) ?_, rfl, q _ _ rfl (I1.hok.fresh (Nat.le_refl _))⟩
    · rw [sortedHeap_old (lt e) (by rw [eh1, size_push']; exact Nat.lt_succ_of_lt (Heap.lt_size e)), eh1]
      exact Heap.get?_push_of_some _ e
    · refine ⟨?_, _, e', rv2, he'⟩
      rw [List.length_map, lout, lx]
      exact Nat.le_trans hL (by decide)
  refine wpAny_bind <| wpAny_holding <| wpAny_call_entry_kw slot_list_sort ⟨_, hoL, rfl⟩ entry_list_sort ?_ (by rcases hkw with ⟨rfl, _⟩ | rfl; exact args_list_sort _; exact args_list_sort_rev _ _)
  rcases hkw with ⟨rfl, rfl⟩ | rfl
  · refine PySem.W.list_sort_vals (s := { s with heap := h1, toks := tk }) hoL S hz2 ⟨_, rfl, wpAny_pure ⟨_, rfl, fin 0⟩⟩
  · refine PySem.W.list_sort_rev_vals (s := { s with heap := h1, toks := tk }) hoL S hz2 ⟨_, rfl, wpAny_pure ⟨_, rfl, fin 0⟩⟩
end DL

namespace DL
open PySem PySem.Spec PyProof.Rows L2
/-! ### sorted, over data -/
def sortD (b : Bool) (ds : List PyData) : List PyData := ds.mergeSort (PySem.W.dataLe b fun d => d)
theorem sortD_perm (b : Bool) (ds : List PyData) : (sortD b ds).Perm ds := List.mergeSort_perm ds _
theorem sortD_zip {α : Type} (b : Bool) {xs : List α} {ds : List PyData} (h : xs.length = ds.length) : ((xs.zip ds).mergeSort (PySem.W.dataLe b Prod.snd)).map Prod.snd = sortD b ds := by
  have e := PySem.W.sort_maps (r := PySem.W.dataLe b (Prod.snd : α × PyData → PyData)) (s := PySem.W.dataLe b fun d : PyData => d) Prod.snd (l := xs.zip ds) (fun a _ c _ => rfl)
  rw [e, snd_zip h]
  rfl
theorem sortD_up {ns : List Int} : sortD false (ns.map .int) = (ns.mergeSort fun a b => decide (a ≤ b)).map .int := by
  unfold sortD
  rw [← PySem.W.sort_maps (r := fun a b => decide (a ≤ b)) PyData.int fun a _ b _ => ?_]
  exact (congrFun (congrFun (PySem.W.dataLe_int (fun x : Int => x)) a) b).symm
theorem sortD_down {ns : List Int} : sortD true (ns.map .int) = (ns.mergeSort fun a b => decide (b ≤ a)).map .int := by
  unfold sortD
  rw [← PySem.W.sort_maps (r := fun a b => decide (b ≤ a)) PyData.int fun a _ b _ => ?_]
  exact (congrFun (congrFun (PySem.W.dataGe_int (fun x : Int => x)) a) b).symm
theorem daAll_of {N : Addr → Prop} {K : PySem.W.Frag} {H : Hp} : ∀ {ps : List (V × PyData)}, (∀ p ∈ ps, Da N K H p.1 p.2) → DaAll N K H (ps.map Prod.fst) (ps.map Prod.snd)
  | [], _ => .nil
  | p :: ps, h => .cons (h p List.mem_cons_self) (daAll_of fun q hq => h q (List.mem_cons_of_mem _ hq))
theorem daAll_zip {N : Addr → Prop} {K : PySem.W.Frag} {H : Hp} : ∀ {xs : List V} {ds : List PyData}, DaAll N K H xs ds → ∀ p ∈ xs.zip ds, Da N K H p.1 p.2
  | _, _, .nil, _, h => by cases h
  | _, _, .cons q qs, p, h => by
    rcases List.mem_cons.mp h with rfl | h
    · exact q
    · exact daAll_zip qs p h
/-- what can be sorted -/
structure Srts (ds : List PyData) : Prop where
  al : PySem.W.AllAlike ds
  ok : PySem.W.Sortable ds
  len : ds.length ≤ 16000000
  dep : ∀ d ∈ ds, d.depth ≤ 8
  can : PyData.canLayAll0 ds = true
def rSortD (K : PySem.W.Frag) (b : Bool) : List V → Hp → VK → Prop := fun vs H Q => ∃ (a : Addr) (xs : List V) (ds : List PyData), vs = [.ref a] ∧ (SqL K H a xs ∨ SqT K H a xs) ∧ DpAll K H xs ds ∧ Srts ds ∧ SortQ b xs ds H Q
section
variable {X : Cx} {c : Cz} {e a b : Expr} {ρ : Env} {st : c.m.St} {pos : Pos} {k : Slot → Env → c.m.St → Prop} {K : PySem.W.Frag} {s1 : Slot}
theorem call_sortD (hu : X.A.units + 64 < cLine) : CallR X (.builtin "sorted") (rSortD X.K false) := by
  intro pins s σ H vs us Q I r h
  obtain ⟨a, xs, ds, rfl, hs, hdp, S, q⟩ := h
  obtain ⟨u, rfl, rx⟩ := r.one
  cases rx
  exact sorted_core I (.inl ⟨rfl, rfl⟩) S.al S.ok S.len hu S.dep hdp (hs.elim (cols_list I) (cols_tup I)) q
theorem call_sortDR (hu : X.A.units + 64 < cLine) : CallRK X (.builtin "sorted") [Str.ofString "reverse"] (fun vs zs H Q => zs = [.bl true] ∧ rSortD X.K true vs H Q) := by
  intro pins s σ H vs zs us ws Q I r rz h
  obtain ⟨rfl, a, xs, ds, rfl, hs, hdp, S, q⟩ := h
  obtain ⟨u, rfl, rx⟩ := r.one
  cases rx
  obtain ⟨w1, rfl, e1⟩ := vals1 rz
  obtain rfl : w1 = Value.bool true := e1
  exact sorted_core I (.inr rfl) S.al S.ok S.len hu S.dep hdp (hs.elim (cols_list I) (cols_tup I)) q
theorem dcall_sortD {b : Bool} {d : PyData} {ds : List PyData} (a : AsD ρ s1 d) (q : SeqD d ds) (S : Srts ds) (h : ∀ p, k (.own p (sortD b ds)) ρ st) : DCall K c (rSortD K b) [s1] ρ st k := by
  intro τ σ H Q vs hlen hh hl hk
  obtain ⟨v, rfl⟩ := one_of hlen
  have h' : Here c.m K c.H0 (σ.zip ρ ++ (some v, s1) :: τ) st H := hh
  obtain ⟨q1, q2⟩ := asD_seq h' (fun e he => List.mem_append_left _ he) hl (List.mem_append_right _ List.mem_cons_self) a
  have fin : ∀ (p : Addr) (xs : List V), DaAll (fun a => c.m.N a ∨ a ∈ owns (σ.zip ρ ++ (some v, s1) :: τ)) K H xs ds → SortQ b xs ds H Q := fun p xs qa ps l e hl' => by
    have lx := qa.len
    have e2 : ps.map Prod.snd = sortD b ds := by rw [e]; exact sortD_zip b lx
    have da : DaAll (fun a => c.m.N a ∨ a ∈ owns (σ.zip ρ ++ (some v, s1) :: τ)) K H (ps.map Prod.fst) (sortD b ds) := by
      rw [← e2]
      refine daAll_of fun x hx => daAll_zip qa x ?_
      rw [e] at hx
      exact (List.mergeSort_perm _ _).mem_iff.mp hx
    exact hk _ _ _ _ _ (h l) (h'.cut.allocOwn hl' (da.move (wk_owns _))) hl
  cases q with
  | lst =>
    obtain ⟨p, xs, rfl, q3, q4⟩ := q1 ds rfl
    exact ⟨p, xs, ds, rfl, .inl q3, q4.dp S.can, S, fin p xs q4⟩
  | tup =>
    obtain ⟨p, xs, rfl, q3, q4⟩ := q2 ds rfl
    exact ⟨p, xs, ds, rfl, .inr q3, q4.dp S.can, S, fin p xs q4⟩
/-- sorted(e, reverse=True) -/
theorem de_sortedR {nm : Str} {j : Nat} {p kpos bp : Pos} (hm : X.mg "sorted" = none) (hu : X.A.units + 64 < cLine) (h : DE X c e ρ st fun s ρ1 st1 => ∃ d ds, AsD ρ1 s d ∧ SeqD d ds ∧ Srts ds ∧ ∀ p, k (.own p (sortD true ds)) ρ1 st1)
    (hg : Gl X "sorted" := by rfl) (he1 : starEach [e] X.env = (false, eval e X.env) :: starEach [] X.env := by rfl)
    (he : backTo pos (starEach [e] X.env) = (false, eval e X.env) :: backTo pos (starEach [] X.env) := by rfl) (hpl : (backTo pos (starEach [e] X.env)).any (·.1) = false := by rfl)
    (hall : (backToKw pos (keywordEach [⟨some nm, .Constant (.bool true) j bp, kpos⟩] X.env)).all (·.1.isSome) = true := by rfl) (hnone : (backToKw pos (keywordEach [⟨some nm, .Constant (.bool true) j bp, kpos⟩] X.env)).any (·.1.isNone) = false := by rfl)
    (hks : (backToKw pos (keywordEach [⟨some nm, .Constant (.bool true) j bp, kpos⟩] X.env)).filterMap (·.1) = [Str.ofString "reverse"] := by rfl) :
    DE X c (.Call (.Name "sorted" p) [e] [⟨some nm, .Constant (.bool true) j bp, kpos⟩] pos) ρ st k := by
  intro τ σ H Q hh hl hk hx
  refine we_of (pe_callBK (call_sortDR hu) hg hm boot_sorted (pa_cons pe_w pa_nil he1) (pk_cons pe_bl pk_nil) (by decide) (by decide) he hpl hall hnone hks) ?_
  refine h τ σ H _ hh hl (fun s ρ1 st1 v H1 h1 hh1 hl1 => ?_) hx
  obtain ⟨d, ds, ad, sq, S, q⟩ := h1
  exact ⟨rfl, dcall_sortD ad sq S q τ σ H1 Q [v] rfl hh1 hl1 hk⟩
theorem dcall_intB {x : Bool} (h : k (.dat (.int (if x then 1 else 0))) ρ st) : DCall K c (fun xs H Q => (∃ i, xs = [.int i] ∧ Q (.int i) H) ∨ ∃ k, xs = [.bl k] ∧ Q (.int (if k then 1 else 0)) H) [.dat (.bool x)] ρ st k := by
  intro τ σ H Q vs hlen hh hl hk
  obtain ⟨v, rfl⟩ := one_of hlen
  have h' : Here c.m K c.H0 (σ.zip ρ ++ (some v, .dat (.bool x)) :: τ) st H := hh
  have e := arg_flat h' (w := .bl x) rfl
  subst e
  exact .inr ⟨x, rfl, hk _ _ _ _ _ h (h'.one (v := .int _) rfl) hl⟩
/-- xs[j] = .., xs an owned list, by its name -/
theorem ds_setL (i : Nat) {x : Str} {ei : Expr} {np sp : Pos} {D : Dn c.m}
    (h : DE X c e ρ st fun s ρ1 st1 => ∃ (d : PyData) (o : Addr) (ds : List PyData), s = .dat d ∧ ρ1[i]? = some (.own o ds) ∧ DE X c ei ρ1 st1 fun s ρ2 st2 => ∃ (z : Int) (j : Nat), s = .dat (.int z) ∧ ρ2 = ρ1 ∧ ixN ds.length z = some j ∧ D.nx (ρ1.set i (.own o (ds.set j d))) st2)
    (hN : X.N[i]? = some x := by rfl) (hv : Vis X.env.scope x := by first | exact Or.inl rfl | exact Or.inr (Or.inl rfl) | exact Or.inr (Or.inr rfl))
    (hs : swapsWithSole [.Subscript (.Name x np) ei sp] e pos.line X.env = pure false := by rfl) (hw : swappedStores [.Subscript (.Name x np) ei sp] e X.env = pure none := by rfl) (h1 : (assignEach [.Subscript (.Name x np) ei sp] X.env).map (·.2) = [assign (.Subscript (.Name x np) ei sp) X.env] := by rfl)
    (hd : (x == ("__debug__" : Str)) = false := by decide) (hcd : (x == ("__classdict__" : Str)) = false := by decide)
    (ha : ∀ v, assign (.Subscript (.Name x np) ei sp) X.env v = (do
      let u ← holding [v] (eval (.Name x np) X.env); let w ← holding [v, u] (eval ei X.env); standAt sp; holding [v, u, w] (setItem u w v); release [v, u, w] []) := by intro _; rfl) : DS X c (.Assign [.Subscript (.Name x np) ei sp] e pos) ρ st D := by
  intro τ σ H De hh hl hk hx
  refine ws_of (ps_asg pe_w (pg_sub (pe_var hN hv hd hcd) pe_w set_list ha) hs hw h1) (h τ σ H _ hh hl (fun s ρ1 st1 v H1 g1 hh1 hl1 => ?_) hx)
  obtain ⟨d, o, ds, rfl, hρ, g2⟩ := g1
  have at_o : σ[i]? = some (some (.ref o)) := by
    obtain ⟨y, e1, e2, _⟩ := zip_get hl1 hρ
    obtain ⟨eo, _⟩ := hh1.all _ (List.mem_append_left _ e2)
    rw [e1]
    exact congrArg some eo
  refine ⟨.ref o, at_o, ?_⟩
  refine g2 _ σ H1 _ hh1 hl1 (fun s ρ2 st2 w H2 g3 hh2 hl2 => ?_) hx
  obtain ⟨z, j, rfl, rfl, hj, q⟩ := g3
  have ew : w = .int z := arg_flat hh2 (w := .int z) rfl
  subst ew
  obtain ⟨A, o', B, f1, f2, f3⟩ := set_mid hl2 hρ
  have h2 : Here c.m X.K c.H0 (A ++ (o', .own o ds) :: (B ++ (some v, .dat d) :: τ)) st2 H2 := by
    have z := hh2.cut
    rw [f1, List.append_assoc] at z
    exact z
  obtain ⟨_, xs, eH, qx⟩ := h2.all _ (List.mem_append_right _ List.mem_cons_self)
  obtain ⟨v', ev, qd⟩ := h2.dat (List.mem_append_right _ (List.mem_cons_of_mem _ (List.mem_append_right _ List.mem_cons_self)))
  cases ev
  refine ⟨o, xs, z, j, rfl, rfl, eH, by rw [qx.len]; exact hj, ?_⟩
  have w := h2.write (ys := xs.set j v) (qx.set qd j)
  refine hk.nx _ _ _ _ q ?_ (by rw [List.length_set]; exact hl2)
  rw [f3, List.append_assoc]
  have p1 : Here c.m X.K c.H0 ((A ++ (o', .own o (ds.set j d)) :: B) ++ (some v, .dat d) :: τ) st2 (upd H2 o (.lst (xs.set j v))) := by rw [List.append_assoc]; exact w
  have := p1.cut
  rw [List.append_assoc] at this
  exact this
end
end DL

namespace DL.Sm
open PySem
/-! ### sum of lists, from a list -/
/-- a list object of these items -/
def LstAt (h : Heap) (a : Addr) (xs : List Value) : Prop := h.IsList a xs.toArray
def LstEx (h : Heap) (a : Addr) (xs : List Value) : Prop := ∃ n, h.get? a = some { cls := .type "list", data := .seq xs.toArray n }
theorem LstEx.on {h h' : Heap} {a : Addr} {xs : List Value} (x : LstEx h a xs) (k : ∀ o, h.get? a = some o → h'.get? a = some o) : LstEx h' a xs := let ⟨n, e⟩ := x; ⟨n, k _ e⟩
theorem LstAt.lt {h : Heap} {a : Addr} {xs : List Value} (x : LstAt h a xs) : a < h.objs.size := let ⟨_, e, _⟩ := x; Heap.lt_size e
theorem LstAt.on {h h' : Heap} {a : Addr} {xs : List Value} (x : LstAt h a xs) (k : ∀ o, h.get? a = some o → h'.get? a = some o) : LstAt h' a xs := let ⟨o, e, r⟩ := x; ⟨o, k _ e, r⟩
theorem list_addW (l : Addr) (items : Array Value) (n : Nat) (dd : Option Addr) (sl : Array (Option Value)) (b : Addr) (items2 : Array Value) (n2 : Nat) (dd2 : Option Addr) (sl2 : Array (Option Value)) (hsz : items.size + items2.size ≤ sizeLine) :
    Meets (Builtin.«list.__add__» ⟨[.ref l, .ref b], []⟩) (fun _ R s => s.heap.get? l = some { cls := .type "list", dict := dd, data := .seq items n, slots := sl } ∧ s.heap.get? b = some { cls := .type "list", dict := dd2, data := .seq items2 n2, slots := sl2 } ∧
      R (.ok (.ret (Value.ref s.heap.objs.size))) { s with heap := s.heap.push { cls := Value.type "list", data := Data.seq (items ++ items2) }, toks := s.toks }) :=
  .of_wp fun prog w A R s h => by
    obtain ⟨hp, g, d, tk, os⟩ := s
    obtain ⟨h1, h2, h⟩ := h
    have f3 := AutoSeq1.sub_list_list
    wp_walk using AutoSeq1.wpAny_loadPart' h1, AutoSeq1.wpAny_loadPart' h2
    exact ⟨_, rfl, h⟩
theorem addL {prog : Program} {w : World} {A : Around} {E : Value → Shared → Prop} {s : Shared} {l b : Addr} {xs ys : List Value} {Q : Value → Shared → Prop} (h1 : LstAt s.heap l xs) (h2 : LstAt s.heap b ys) (hz : xs.toArray.size + ys.toArray.size ≤ sizeLine)
    (h : Q (.ref s.heap.objs.size) { s with heap := s.heap.push { cls := .type "list", data := .seq (xs.toArray ++ ys.toArray) } }) : wpAny (model prog w) A (binaryOp .Add (.ref l) (.ref b)) Q E s := by
  obtain ⟨⟨c1, dd, da, sl⟩, g1, e1, n, q1⟩ := h1
  obtain ⟨⟨c2, dd2, da2, sl2⟩, g2, e2, n2, q2⟩ := h2
  simp only at e1 q1 e2 q2
  subst e1 q1 e2 q2
  exact concat_meets ⟨_, g1, rfl⟩ ⟨_, g2, rfl⟩ noFill_list_add seq_list_add F.slot_list_add F.entry_list_add (F.args_list_add_2 _ _) (list_addW l xs.toArray n dd sl b ys.toArray n2 dd2 sl2 hz) ⟨g1, g2, h⟩
def flatV (L : List (Addr × List Value)) : List Value := L.flatMap (·.2)
section
variable {prog : Program} {w : World} {A : Around} {R : Result → Shared → Prop} {it l S : Addr} {E : Value → Shared → Prop} {s : Shared}
/-- what stays while the sum goes on: all but the iterator and the total's place -/
def SumKeep (it S : Addr) (h h' : Heap) : Prop := ∀ b o, b ≠ it → b ≠ S → h.get? b = some o → h'.get? b = some o
theorem sum_rest (hh : A.handled = none) (ne1 : it ≠ S) (ne2 : l ≠ it) (ne3 : l ≠ S) (L0 : List Value) :
    ∀ (L : List (Addr × List Value)) (i : Nat) (s : Shared) (p c : Nat) (acc : List Value), L0.drop i = L.map (fun e => Value.ref e.1) → s.heap.IsListIter it l i → LstAt s.heap l L0 → (∀ e ∈ L, LstAt s.heap e.1 e.2 ∧ e.1 ≠ it ∧ e.1 ≠ S) → LstAt s.heap p acc → p ≠ it → p ≠ S →
      s.heap.get? S = some { cls := .type "list", dict := none, data := .seq #[.ref p] c, slots := #[] } → acc.length + (flatV L).length ≤ sizeLine → 
      (∀ s' p', SumKeep it S s.heap s'.heap → s'.gens = s.gens → s'.os = s.os → s' = { s with heap := s'.heap, toks := s'.toks } → LstAt s'.heap p' (acc ++ flatV L) → (p' = p ∨ s.heap.objs.size ≤ p') → (L ≠ [] → s.heap.objs.size ≤ p') → (LstEx s.heap p acc ∨ L ≠ [] → LstEx s'.heap p' (acc ++ flatV L)) → R (.ok (.ret (.ref p'))) s') →
      codeAny (model prog w) A (.builtin "sum.loop" ⟨[.ref it, .ref S, rawInt 2, rawInt 0], []⟩) R s := by
  intro L
  induction L with
  | nil =>
    intro i s p c acc hL hi hl he hp np1 np2 hS hz hR
    have hno : L0.toArray[i]? = none := by
      have : L0.length ≤ i := by
        have := congrArg List.length hL
        rw [List.length_drop] at this
        simp at this
        omega
      rw [Array.getElem?_eq_none]
      rw [List.size_toArray]
      exact this
    refine codeAny_builtin F.entry_sum_loop ?_
    rw [Around.under_plainId F.plain_sum_loop _]
    show wpAny _ A.in1 (seqItems? (.ref S) >>= _) _ _ s
    refine wpAny_bind <| wpAny_seqItems hS rfl ?_
    show wpAny _ A.in1 (tryCatch (pyNext (.ref it)) _ >>= _) _ _ s
    refine wpAny_bind <| wpAny_tryCatch <| wpAny_pyNext_list_end hh hi hl hno fun h' eb => ?_
    refine wpAny_pure (hR _ p (fun b o hb _ e => eb b o hb e) rfl rfl rfl ?_ (.inl rfl) (fun z => absurd rfl z) fun z => ?_)
    · have : acc ++ flatV [] = acc := by simp [flatV]
      rw [this]
      exact hp.on fun o e => eb p o np1 e
    · have : acc ++ flatV [] = acc := by simp [flatV]
      rw [this]
      exact (z.elim id fun z => absurd rfl z).on fun o e => eb p o np1 e
  | cons e0 L ih =>
    intro i s p c acc hL hi hl he hp np1 np2 hS hz hR
    have hx : L0.toArray[i]? = some (.ref e0.1) := by
      rw [List.getElem?_toArray]
      have := congrArg (fun l : List Value => l[0]?) hL
      simpa using this
    have hL' : L0.drop (i + 1) = L.map fun e => Value.ref e.1 := by
      have := congrArg List.tail hL
      simpa using this
    refine codeAny_builtin F.entry_sum_loop ?_
    rw [Around.under_plainId F.plain_sum_loop _]
    show wpAny _ A.in1 (seqItems? (.ref S) >>= _) _ _ s
    refine wpAny_bind <| wpAny_seqItems hS rfl ?_
    show wpAny _ A.in1 (tryCatch (pyNext (.ref it)) _ >>= _) _ _ s
    refine wpAny_bind <| wpAny_tryCatch <| wpAny_pyNext_list_item hi hl hx fun h1 hi1 sb => ?_
    obtain ⟨he0, ne4, ne5⟩ := he e0 List.mem_cons_self
    have k1 : ∀ b o, b ≠ it → s.heap.get? b = some o → h1.get? b = some o := fun b o hb e => (sb.2 b hb).trans e
    have q1 := hp.on (h' := h1) fun o e => k1 p o np1 e
    have q2 := he0.on (h' := h1) fun o e => k1 _ o ne4 e
    have hS1 := k1 S _ (Ne.symm ne1) hS
    have hz1 : acc.toArray.size + e0.2.toArray.size ≤ sizeLine := by
      have : (flatV (e0 :: L)).length = e0.2.length + (flatV L).length := by simp [flatV]
      rw [List.size_toArray, List.size_toArray]
      omega
    show wpAny _ A.in1 ((holding [Value.ref e0.1] (binaryOp .Add (.ref p) (.ref e0.1))).attempt >>= _) _ _ _
    refine wpAny_bind <| wpAny_attempt <| wpAny_holding <| addL (s := { s with heap := h1 }) q1 q2 hz1 ?_
    show wpAny _ A.in1 (updateSeq S (fun _ => #[.ref h1.objs.size]) >>= _) _ _ _
    have hS2 : (h1.push { cls := .type "list", data := .seq (acc.toArray ++ e0.2.toArray) }).get? S = _ := Heap.get?_push_of_some _ hS1
    refine wpAny_bind <| wpAny_updateSeq hS2 rfl ?_
    have hS3 := Heap.get?_update_self (Obj.mapSeq fun _ => #[Value.ref h1.objs.size]) hS2 rfl
    refine wpAny_bind <| wpAny_letGo <| wpAny_bind <| wpAny_updateSeq hS3 rfl <| wpAny_pure ⟨plainId_quiet F.plain_sum_loop _, ?_⟩
    have hS4 := Heap.get?_update_self (Obj.mapSeq fun _ => #[Value.ref h1.objs.size]) hS3 rfl
    have k2 : ∀ b o, b ≠ it → b ≠ S → s.heap.get? b = some o → ((((h1.push { cls := .type "list", data := .seq (acc.toArray ++ e0.2.toArray) }).update S (Obj.mapSeq fun _ => #[Value.ref h1.objs.size])).update S (Obj.mapSeq fun _ => #[Value.ref h1.objs.size]))).get? b = some o := fun b o b1 b2 e =>
      (Heap.get?_update_other _ _ (Ne.symm b2)).trans ((Heap.get?_update_other _ _ (Ne.symm b2)).trans (Heap.get?_push_of_some _ (k1 b o b1 e)))
    have sz : (((h1.push { cls := .type "list", data := .seq (acc.toArray ++ e0.2.toArray) }).update S (Obj.mapSeq fun _ => #[Value.ref h1.objs.size])).update S (Obj.mapSeq fun _ => #[Value.ref h1.objs.size])).objs.size = s.heap.objs.size + 1 := by
      rw [Heap.size_after_update, Heap.size_after_update, Heap.size_push, sb.1]
    have hlt : S < h1.objs.size := Heap.lt_size hS1
    have pS : h1.objs.size ≠ S := Nat.ne_of_gt hlt
    have pI : h1.objs.size ≠ it := fun z => by
      obtain ⟨o, e, _⟩ := hi
      have := Heap.lt_size e
      rw [← z, sb.1] at this
      exact Nat.lt_irrefl _ this
    have eapp : acc.toArray ++ e0.2.toArray = (acc ++ e0.2).toArray := by simp
    have hnew : LstAt (((h1.push { cls := .type "list", data := .seq (acc.toArray ++ e0.2.toArray) }).update S (Obj.mapSeq fun _ => #[Value.ref h1.objs.size])).update S (Obj.mapSeq fun _ => #[Value.ref h1.objs.size])) h1.objs.size (acc ++ e0.2) := by
      refine ⟨_, (Heap.get?_update_other _ _ (Ne.symm pS)).trans ((Heap.get?_update_other _ _ (Ne.symm pS)).trans (Heap.get?_push_size _ rfl)), rfl, 0, ?_⟩
      rw [← eapp]
    have hex : LstEx (((h1.push { cls := .type "list", data := .seq (acc.toArray ++ e0.2.toArray) }).update S (Obj.mapSeq fun _ => #[Value.ref h1.objs.size])).update S (Obj.mapSeq fun _ => #[Value.ref h1.objs.size])) h1.objs.size (acc ++ e0.2) := by
      refine ⟨0, (Heap.get?_update_other _ _ (Ne.symm pS)).trans ((Heap.get?_update_other _ _ (Ne.symm pS)).trans ?_)⟩
      rw [← eapp]
      exact Heap.get?_push_size _ rfl
    refine ih (i + 1) _ h1.objs.size _ (acc ++ e0.2) hL' ?_ (hl.on fun o e => k2 l o ne2 ne3 e) (fun e me => ?_) hnew pI pS hS4 ?_ fun s' p' kp g1 g2 g3 hp' o1 o2 o3 => ?_
    · exact hi1.at fun o e => (Heap.get?_update_other _ _ (Ne.symm ne1)).trans ((Heap.get?_update_other _ _ (Ne.symm ne1)).trans (Heap.get?_push_of_some _ e))
    · obtain ⟨x1, x2, x3⟩ := he e (List.mem_cons_of_mem _ me)
      exact ⟨x1.on fun o e => k2 _ o x2 x3 e, x2, x3⟩
    · have : (flatV (e0 :: L)).length = e0.2.length + (flatV L).length := by simp [flatV]
      rw [List.length_append]
      omega
    · have ef : acc ++ flatV (e0 :: L) = acc ++ e0.2 ++ flatV L := by simp [flatV]
      have big : s.heap.objs.size ≤ p' := by
        rcases o1 with rfl | o1
        · rw [sb.1]; exact Nat.le_refl _
        · rw [sz] at o1; omega
      exact hR s' p' (fun b o b1 b2 e => kp b o b1 b2 (k2 b o b1 b2 e)) g1 g2 g3 (by rw [ef]; exact hp') (.inr big) (fun _ => big) fun _ => by rw [ef]; exact o3 (.inl hex)
theorem args_sum2 (a b : Value) : argsOk "sum" ⟨[a, b], []⟩ := by unfold argsOk; kernel_rfl
theorem sub_l_s : isSubtype (.type "list") (.type "str") = pure false := by rw [isSubtype_type]; kernel_rfl
theorem sub_l_b : isSubtype (.type "list") (.type "bytes") = pure false := by rw [isSubtype_type]; kernel_rfl
theorem sub_l_ba : isSubtype (.type "list") (.type "bytearray") = pure false := by rw [isSubtype_type]; kernel_rfl
/-- sum(xs, z), xs a list of lists, not empty, z a list -/
theorem sum_lists {z : Addr} {L0 : List Value} {L : List (Addr × List Value)} {Q : Value → Shared → Prop} (hh : A.handled = none) (hl : LstAt s.heap l L0) (hL : L0 = L.map fun e => Value.ref e.1) (he : ∀ e ∈ L, LstAt s.heap e.1 e.2) (hz : LstAt s.heap z []) (hne : L ≠ []) (hsz : (flatV L).length ≤ sizeLine)
    (h : ∀ (h' : Heap) (tk : Nat) (p : Addr), (∀ b o, s.heap.get? b = some o → h'.get? b = some o) → s.heap.objs.size ≤ p → LstEx h' p (flatV L) → Q (.ref p) { s with heap := h', toks := tk }) : wpAny (model prog w) A (call (.builtin "sum") [.ref l, .ref z]) Q E s := by
  refine call_function_tree F.kind_sum F.plain_sum F.entry_sum (args_sum2 _ _) ?_
  unfold Builtin.«sum»
  simp only [List.length_cons, List.length_nil]
  rw [if_neg (by decide)]
  refine wpAny_bind (wpAny_of_eq (show Builtin.Builtins.bindParams "sum" ["start"] 0 ⟨[.ref z], []⟩ = pure [some (.ref z)] from rfl) ?_)
  refine wpAny_bind <| wpAny_pyIter_list hl ?_
  have ltl : l < s.heap.objs.size := hl.lt
  have ltz := hz.lt
  have kp0 : ∀ b o, s.heap.get? b = some o → (s.heap.push { cls := .type "list_iterator", data := .fields #[.ref l, .int 0 0] }).get? b = some o := fun b o e => Heap.get?_push_of_some _ e
  have tz : ∀ s' : Shared, LstAt s'.heap z [] → s'.TypeIs (.ref z) "list" := fun s' hz' => let ⟨o, e, c, _⟩ := hz'; ⟨o, e, c⟩
  have tz1 : (Shared.mk (s.heap.push { cls := .type "list_iterator", data := .fields #[.ref l, .int 0 0] }) s.gens s.drawn s.toks s.os).TypeIs (.ref z) "list" := tz _ (hz.on fun o e => kp0 z o e)
  refine wpAny_bind <| wpAny_pure ?_
  simp only [List.forIn_cons, List.forIn_nil]
  refine wpAny_bind <| wpAny_bind <| wpAny_bind <| wpAny_isInstance (T := "list") (b := false) tz1 sub_l_s ?_
  simp only [Bool.false_eq_true, if_false]
  refine wpAny_pure <| wpAny_bind <| wpAny_bind <| wpAny_isInstance (T := "list") (b := false) tz1 sub_l_b ?_
  simp only [Bool.false_eq_true, if_false]
  refine wpAny_pure <| wpAny_bind <| wpAny_bind <| wpAny_isInstance (T := "list") (b := false) tz1 sub_l_ba ?_
  simp only [Bool.false_eq_true, if_false]
  refine wpAny_pure <| wpAny_pure <| wpAny_bind <| wpAny_newObj_type ?_
  have e1 : (s.heap.push { cls := .type "list_iterator", data := .fields #[.ref l, .int 0 0] }).objs.size = s.heap.objs.size + 1 := Heap.size_push ..
  have kp : ∀ b o, s.heap.get? b = some o → ((s.heap.push { cls := .type "list_iterator", data := .fields #[.ref l, .int 0 0] }).push { cls := .type "list", data := .seq [Value.ref z].toArray }).get? b = some o := fun b o e => Heap.get?_push_of_some _ (kp0 b o e)
  have lt2 : ∀ {b : Addr}, b < s.heap.objs.size → b ≠ s.heap.objs.size ∧ b ≠ (s.heap.push { cls := .type "list_iterator", data := .fields #[.ref l, .int 0 0] }).objs.size := fun {b} hb => ⟨Nat.ne_of_lt hb, by rw [e1]; exact Nat.ne_of_lt (Nat.lt_succ_of_lt hb)⟩
  refine wpAny_pure ⟨plainId_quiet F.plain_sum_loop _, ?_⟩
  refine sum_rest (it := s.heap.objs.size) (l := l) (S := (s.heap.push { cls := .type "list_iterator", data := .fields #[.ref l, .int 0 0] }).objs.size) hh (by rw [e1]; exact Nat.ne_of_lt (Nat.lt_succ_self _)) (lt2 ltl).1 (lt2 ltl).2 L0 L 0 _ z 0 [] (by rw [List.drop_zero]; exact hL)
    ⟨_, Heap.get?_push_of_some _ (Heap.get?_push_size _ rfl), rfl, rfl⟩ (hl.on fun o e => kp l o e) (fun e me => ⟨(he e me).on fun o q => kp _ o q, lt2 (he e me).lt⟩) (hz.on fun o e => kp z o e) (lt2 ltz).1 (lt2 ltz).2 (Heap.get?_push_size _ rfl) (by simpa using hsz) fun s' p' k g1 g2 g3 _ _ big ex => ?_
  have b2 := big hne
  have big2 : s.heap.objs.size ≤ p' := by
    have e2 : ((s.heap.push { cls := .type "list_iterator", data := .fields #[.ref l, .int 0 0] }).push { cls := .type "list", data := .seq [Value.ref z].toArray }).objs.size = s.heap.objs.size + 2 := by rw [Heap.size_push, e1]
    have b3 : ((s.heap.push { cls := .type "list_iterator", data := .fields #[.ref l, .int 0 0] }).push { cls := .type "list", data := .seq [Value.ref z].toArray }).objs.size ≤ p' := b2
    omega
  rw [g3]
  exact h s'.heap s'.toks p' (fun b o e => k b o (lt2 (Heap.lt_size e)).1 (lt2 (Heap.lt_size e)).2 (kp b o e)) big2 (ex (.inr hne))
end
end DL.Sm

namespace DL
open PySem PySem.Spec PyProof.Rows L2
def rSumL (K : PySem.W.Frag) : List V → Hp → VK → Prop := fun vs H Q => ∃ (a z : Addr) (as : List (Addr × List V)), vs = [.ref a, .ref z] ∧ SqL K H a (as.map fun e => V.ref e.1) ∧ SqL K H z [] ∧ (∀ e ∈ as, SqL K H e.1 e.2) ∧ as ≠ [] ∧ (as.flatMap (·.2)).length ≤ 16000000 ∧
  ∀ p, H p = none → Q (.ref p) (upd H p (.lst (as.flatMap (·.2))))
theorem sumL_vals {X : Cx} {pins : List (Addr × Obj)} {s : Shared} {σ : L2.St} {H : Hp} (I : Inv X pins σ H s) : ∀ (as : List (Addr × List V)), (∀ e ∈ as, SqL X.K H e.1 e.2) → ∃ L : List (Addr × List Value), L.map (fun e => Value.ref e.1) = as.map (fun e => Value.ref e.1) ∧ (∀ e ∈ L, Sm.LstAt s.heap e.1 e.2) ∧ Vals (as.flatMap (·.2)) (Sm.flatV L)
  | [], _ => ⟨[], rfl, fun _ h => (nomatch h), Paired.nil⟩
  | e :: as, h => by
    obtain ⟨L, h1, h2, h3⟩ := sumL_vals I as fun x hx => h x (List.mem_cons_of_mem _ hx)
    obtain ⟨its, rv, hl, hz⟩ := I.list (h e List.mem_cons_self)
    refine ⟨(e.1, its) :: L, ?_, fun x hx => ?_, ?_⟩
    · rw [List.map_cons, List.map_cons, h1]
    · rcases List.mem_cons.mp hx with rfl | hx
      · exact hl.isList
      · exact h2 x hx
    · have e1 : (e :: as).flatMap (·.2) = e.2 ++ as.flatMap (·.2) := by simp
      have e2 : Sm.flatV ((e.1, its) :: L) = its ++ Sm.flatV L := by simp [Sm.flatV]
      rw [e1, e2]
      exact Vals.append rv h3
theorem vals_refs_of : ∀ {as : List (Addr × List V)} {us : List Value}, Vals (as.map fun e => V.ref e.1) us → us = as.map fun e => Value.ref e.1
  | [], _, r => by cases r; rfl
  | e :: as, _, r => by
    cases r with
    | cons h t =>
      cases h
      rw [vals_refs_of t]
      rfl
theorem call_sumL {X : Cx} (hc : X.calm = true) : CallR X (.builtin "sum") (rSumL X.K) := by
  intro pins s σ H vs us Q I r h
  obtain ⟨a, z, as, rfl, h1, h2, h3, hne, hz, q⟩ := h
  obtain ⟨u1, u2, rfl, r1, r2⟩ := vals2 r
  cases r1
  cases r2
  obtain ⟨its, rv, hl, _⟩ := I.list h1
  obtain ⟨its2, rv2, hl2, _⟩ := I.list h2
  cases rv2
  have ei := vals_refs_of rv
  obtain ⟨L, g1, g2, g3⟩ := sumL_vals I as h3
  have lz : (Sm.flatV L).length ≤ 16000000 := by rw [← g3.length]; exact hz
  refine Sm.sum_lists (I.ok.hd hc) hl.isList (by rw [ei, g1]) g2 hl2.isList (fun e => hne ?_) (Nat.le_trans lz (by decide)) fun h' tk p kp big hp => ?_
  · subst e
    cases as with
    | nil => rfl
    | cons _ _ => cases g1
  · obtain ⟨n, e⟩ := hp
    have hL : (as.flatMap (·.2)).length ≤ sizeLine := Nat.le_trans hz (by decide)
    exact ⟨.ref p, upd H p (.lst (as.flatMap (·.2))), I.laid (t' := tk) kp big ⟨hL, _, n, g3, e⟩, rfl, q p (I.hok.fresh big)⟩
/-- t * 1 is t itself -/
theorem tup_mul1 (l : Addr) (items : Array Value) (n : Nat) (dd : Option Addr) (sl : Array (Option Value)) (u : Tok) :
    Meets (Builtin.«tuple.__mul__» ⟨[.ref l, .int 1 u], []⟩) (fun _ R s => s.heap.get? l = some { cls := .type "tuple", dict := dd, data := .seq items n, slots := sl } ∧ R (.ok (.ret (Value.ref l))) s) :=
  .of_wp fun prog w A R s h => by
    obtain ⟨hp, g, d, tk, os⟩ := s
    obtain ⟨hl, h⟩ := h
    have f1 := AutoSeq1.idx_int
    wp_walk using AutoSeq1.wpAny_loadPart' hl
    exact ⟨_, rfl, h⟩
theorem tup_mul1R (a : Int) (t : Tok) (l : Addr) (items : Array Value) (n : Nat) (dd : Option Addr) (sl : Array (Option Value)) :
    Meets (Builtin.«int.__rmul__» ⟨[.int a t, .ref l], []⟩) (fun _ R s => s.heap.get? l = some { cls := .type "tuple", dict := dd, data := .seq items n, slots := sl } ∧ R (.ok (.ret Value.notImplemented)) s) := int_rmul_tuple a t l items n dd sl
/-- tuple * int, at least once -/
def rRepA (K : PySem.W.Frag) : R2 := fun x y H Q => ∃ l k xs, x = .ref l ∧ y = .int k ∧ SqT K H l xs ∧ xs ≠ [] ∧ 1 ≤ k ∧ k ≤ 1000 ∧ xs.length ≤ 1000 ∧ (k = 1 → Q (.ref l) H) ∧ (2 ≤ k → ∀ p, H p = none → Q (.ref p) (upd H p (.tup (List.replicate k.toNat xs).flatten)))
theorem op_repA {X : Cx} : OpR X (binaryOp .Mult) (rRepA X.K) := by
  intro pins s σ H x y v u Q I rx ry h
  obtain ⟨l, k, xs, rfl, rfl, hT, hne, h1, h2, hz, q1, q2⟩ := h
  by_cases hk : 2 ≤ k
  · exact op_repT pins s σ H _ _ v u Q I rx ry ⟨l, k, xs, rfl, rfl, hT, hne, hk, h2, hz, q2 hk⟩
  have e : k = 1 := by omega
  subst e
  have rx' := rx
  cases rx
  obtain ⟨t, rfl⟩ := ry
  obtain ⟨its, r, ⟨⟨cls, dd, data, sl⟩, ho, hc, n, hd⟩, hs⟩ := I.tuple hT
  simp only at hc hd
  subst hc hd
  refine wpAny_binaryOp_repeat_ref (T := "tuple") (U := "int") (by decide) ⟨_, ho, rfl⟩ (fun s' => typeIs_int s' 1 t) noFill_tuple_mul F.fills_int_mul F.slot_int_rmul repeat_tuple F.slot_int_index.lookup ?_
  refine call_meets F.slot_int_rmul (typeIs_int s 1 t) F.entry_int_rmul (F.args_int_rmul_2 _ _) (tup_mul1R 1 t l its.toArray n dd sl) ⟨ho, rfl, ⟨_, ho, rfl⟩, ?_⟩
  exact call_meets F.slot_tuple_mul ⟨_, ho, rfl⟩ F.entry_tuple_mul (F.args_tuple_mul_2 _ _) (tup_mul1 l its.toArray n dd sl t) ⟨ho, ⟨.ref l, H, I, rx', q1 rfl⟩⟩
section
variable {X : Cx} {c : Cz} {e a b : Expr} {ρ : Env} {st : c.m.St} {pos : Pos} {k : Slot → Env → c.m.St → Prop} {K : PySem.W.Frag} {s1 s2 : Slot}
theorem dop_repA {ds : List PyData} {n : Nat} (hd : ds ≠ []) (h1 : 1 ≤ n) (hn : n ≤ 1000) (hz : ds.length ≤ 1000) (h : k (.dat (.tuple (List.replicate n ds).flatten)) ρ st) : DOp K c (rRepA K) (.dat (.tuple ds)) (.dat (.int n)) ρ st k := by
  intro τ σ H Q v1 v2 hh hl hk
  have ev : v2 = .int n := Option.some.inj (hh.int1 (w := .int n) rfl)
  subst ev
  obtain ⟨_, q2⟩ := asD_seq hh (fun e he => List.mem_append_left _ he) hl (List.mem_append_right _ (List.mem_cons_of_mem _ List.mem_cons_self)) (.dat (.tuple ds))
  obtain ⟨p, xs, rfl, r1, d1⟩ := q2 ds rfl
  have hx : xs ≠ [] := fun e => by
    subst e
    cases d1
    exact hd rfl
  refine ⟨p, n, xs, rfl, rfl, r1, hx, by omega, by omega, by rw [d1.len]; exact hz, fun e1 => ?_, fun _ l hl' => ?_⟩
  · have e2 : n = 1 := by omega
    subst e2
    have e3 : (List.replicate 1 ds).flatten = ds := by simp
    rw [e3] at h
    exact hk _ _ _ _ _ h hh.cut hl
  · rw [show ((n : Int)).toNat = n by omega]
    exact hk _ _ _ _ _ h (hh.cut.cut.newTup hl' (((da_rep d1 n).move (wk_owns _)).move (wk_owns _))) hl
theorem dcall_sumL {z : Addr} {es : List (List PyData)} (q : AsD ρ s1 (.list (es.map .list))) (hne : es ≠ []) (hz : es.flatten.length ≤ 16000000) (h : ∀ p, k (.own p es.flatten) ρ st) : DCall K c (rSumL K) [s1, .own z []] ρ st k := by
  intro τ σ H Q vs hlen hh hl hk
  obtain ⟨v, w, rfl⟩ := two_of hlen
  have h' : Here c.m K c.H0 (σ.zip ρ ++ (some v, s1) :: (some w, .own z []) :: τ) st H := hh
  obtain ⟨q1, _⟩ := asD_seq h' (fun e he => List.mem_append_left _ he) hl (List.mem_append_right _ List.mem_cons_self) q
  obtain ⟨p, xs, rfl, q3, q4⟩ := q1 _ rfl
  obtain ⟨ez, zs, e2, dz⟩ := h'.all _ (List.mem_append_right _ (List.mem_cons_of_mem _ List.mem_cons_self))
  have ez' : w = .ref z := Option.some.inj ez
  subst ez'
  cases dz
  have got : ∀ {es : List (List PyData)} {xs : List V}, DaAll (fun a => c.m.N a ∨ a ∈ owns (σ.zip ρ ++ (some (.ref p), s1) :: (some (.ref z), .own z []) :: τ)) K H xs (es.map .list) →
      ∃ as : List (Addr × List V), xs = as.map (fun e => V.ref e.1) ∧ (∀ e ∈ as, SqL K H e.1 e.2) ∧ (as = [] → es = []) ∧ DaAll (fun a => c.m.N a ∨ a ∈ owns (σ.zip ρ ++ (some (.ref p), s1) :: (some (.ref z), .own z []) :: τ)) K H (as.flatMap (·.2)) es.flatten := by
    intro es
    induction es with
    | nil => intro xs q; cases q; exact ⟨[], rfl, fun _ h => (nomatch h), fun _ => rfl, .nil⟩
    | cons e es ih =>
      intro xs q
      cases q with
      | cons q1 q2 =>
        obtain ⟨as, g1, g2, g3, g4⟩ := ih q2
        cases q1 with
        | lst r qa =>
          rename_i a ys
          refine ⟨(a, ys) :: as, by rw [g1]; rfl, fun x hx => ?_, fun z => (nomatch z), ?_⟩
          · rcases List.mem_cons.mp hx with rfl | hx
            · exact r.sq
            · exact g2 x hx
          · have e1 : ((a, ys) :: as).flatMap (·.2) = ys ++ as.flatMap (·.2) := by simp
            rw [e1, List.flatten_cons]
            exact qa.app g4
  obtain ⟨as, g1, g2, g3, g4⟩ := got q4
  subst g1
  refine ⟨p, z, as, rfl, q3, .inl (.inl e2), g2, fun e => hne (g3 e), by rw [g4.len]; exact hz, fun l hl' => ?_⟩
  exact hk _ _ _ _ _ (h l) (h'.cut.cut.allocOwn hl' ((g4.move (wk_owns _)).move (wk_owns _))) hl
end
end DL

namespace DL
open PySem PySem.Spec PyProof.Rows L2
/-! ### t[::-1] of a tuple -/
theorem rev_pick (its : List Value) : (List.range its.length).filterMap (fun k : Nat => its.toArray[((its.length : Int) - 1 + (k : Int) * (-1)).toNat]?) = its.reverse := by
  have e1 : (List.range its.length).filterMap (fun k : Nat => its.toArray[((its.length : Int) - 1 + (k : Int) * (-1)).toNat]?) = ((List.range its.length).map fun k => its.length - 1 - k).filterMap fun k => its[k]? := by
    rw [List.filterMap_map]
    congr 1
    funext k
    rw [List.getElem?_toArray]
    show its[((its.length : Int) - 1 + (k : Int) * (-1)).toNat]? = its[its.length - 1 - k]?
    congr 1
    omega
  have e2 : ((List.range its.length).map fun k => its.length - 1 - k) = (List.range its.length).reverse := by
    refine List.ext_getElem (by simp) fun i h1 h2 => ?_
    simp
  have e3 : ∀ l : List Value, (List.range l.length).filterMap (fun k => l[k]?) = l := by
    intro l
    induction l with
    | nil => rfl
    | cons x l ih =>
      rw [List.length_cons, List.range_succ_eq_map, List.filterMap_cons, List.filterMap_map]
      show x :: _ = _
      congr 1
  rw [e1, e2, List.filterMap_reverse, e3]
section
variable {prog : Program} {w : World} {A : Around} {E : Value → Shared → Prop} {s : Shared}
theorem rev_applied {sl : Addr} {vs : Value} {n : Nat} {Q : Int × Int × Nat → Shared → Prop} (hs : s.heap.IsSliceOf sl .none .none vs) (ps : IsPart vs (some (-1))) (h : Q ((n : Int) - 1, -1, n) s) : wpAny (model prog w) A (Builtin.Slice.sliceApplied (.ref sl) (pure (n : Int))) Q E s := by
  obtain ⟨os, hos, hcs, hds⟩ := id hs
  unfold Builtin.Slice.sliceApplied Builtin.Slice.sliceFields
  refine wpAny_bind <| wpAny_bind <| wpAny_field hos hds (x := .none) rfl <| wpAny_bind <| wpAny_field hos hds (x := .none) rfl <| wpAny_bind <| wpAny_field hos hds (x := vs) rfl <| wpAny_pure ?_
  refine wpAny_bind <| HT.slicePart_ ps ?_
  show wpAny _ _ (if ((-1 : Int) == 0) = true then _ else _) _ _ s
  rw [if_neg (by decide)]
  refine wpAny_bind <| PyProof.Rows.slicePart_none <| wpAny_bind <| PyProof.Rows.slicePart_none <| wpAny_bind <| wpAny_pure ?_
  have e1 : Builtin.Slice.sliceAdjust none none (-1) (n : Int) = ((n : Int) - 1, -1) := rfl
  have e2 : Builtin.Slice.slicePlaces ((n : Int) - 1) (-1) (-1) = n := by
    unfold Builtin.Slice.slicePlaces
    have h1 : ¬ ((-1 : Int) > 0) := by omega
    have h2 : (-(-1) : Int) = 1 := by decide
    simp only [h1, if_false, h2, Int.ediv_one]
    split <;> omega
  show wpAny _ _ (match Builtin.Slice.sliceAdjust none none (-1) (n : Int) with | (lo, hi) => pure (lo, (-1 : Int), Builtin.Slice.slicePlaces lo hi (-1))) _ _ s
  rw [e1]
  show wpAny _ _ (pure ((n : Int) - 1, (-1 : Int), Builtin.Slice.slicePlaces ((n : Int) - 1) (-1) (-1))) _ _ s
  rw [e2]
  exact wpAny_pure h
theorem getItem_rev {t sl : Addr} {its : List Value} {vs : Value} {Q : Value → Shared → Prop} (ht : IsTup s.heap t its.toArray) (hs : s.heap.IsSliceOf sl .none .none vs) (ps : IsPart vs (some (-1))) (hsz : its.length ≤ sizeLine)
    (h : Q (.ref s.heap.objs.size) { s with heap := s.heap.push { cls := .type "tuple", data := .seq its.reverse.toArray } }) : wpAny (model prog w) A (getItem (.ref t) (.ref sl)) Q E s := by
  have ok : sizeOk (.seq its.reverse.toArray) := by
    show its.reverse.toArray.size ≤ sizeLine
    rw [List.size_toArray, List.length_reverse]
    exact hsz
  obtain ⟨os, hos, hcs, hds⟩ := id hs
  have hTs : s.TypeIs (.ref sl) "slice" := ⟨os, hos, hcs⟩
  unfold getItem
  try with_reducible refine wpAny_holding ?_
  first | refine wpAny_bind <| wpAny_pure ?_ | skip
  refine wpAny_bind <| wpAny_sequenceKey ht.typeIs (by decide) ?_
  refine wpAny_bind <| wpAny_callSpecial?_slot (name := Str.ofString "__getitem__") ht.typeIs PyProof.Rows.slot_tuple_getitem <| wpAny_call_entry PyProof.Rows.slot_tuple_getitem ht.typeIs PyProof.Rows.entry_tuple_getitem ?_ (PyProof.Rows.args_tuple_getitem _ _)
  show wpAny _ _ (Builtin.Tuple.tupleItemsOf (.ref t) >>= _) _ _ s
  refine wpAny_bind <| PyProof.Rows.tupleItemsOf_ ht <| wpAny_bind <| wpAny_typeOf hTs ?_
  rw [if_pos (by decide)]
  have en : ((its.toArray.size : Nat) : Int) = ((its.length : Nat) : Int) := by rw [List.size_toArray]
  refine wpAny_bind <| rev_applied (n := its.toArray.size) hs ps ?_
  have hno : ¬ (((((its.toArray.size : Nat) : Int) - 1) == 0 && (-1 : Int) == 1 && its.toArray.size == its.toArray.size) = true) := by simp
  show wpAny _ _ (if ((((its.toArray.size : Nat) : Int) - 1) == 0 && (-1 : Int) == 1 && its.toArray.size == its.toArray.size) = true then _ else _) _ _ s
  rw [if_neg hno]
  have ep : ((List.range its.toArray.size).filterMap fun k : Nat => its.toArray[(((its.toArray.size : Nat) : Int) - 1 + (k : Int) * (-1)).toNat]?).toArray = its.reverse.toArray := by
    rw [List.size_toArray, rev_pick]
  rw [ep]
  first
    | exact wpAny_bind (m := Builtin.Tuple.tupleExact _) (wpAny_newObj_type (wpAny_pure ⟨_, rfl, wpAny_pure h⟩) ok)
    | exact wpAny_bind (m := Builtin.Tuple.tupleExact _) (wpAny_newObj_type (wpAny_bind (wpAny_pure (wpAny_pure ⟨_, rfl, wpAny_pure h⟩))) ok)
    | exact wpAny_bind (wpAny_bind (m := Builtin.Tuple.tupleExact _) (wpAny_newObj_type (wpAny_pure (wpAny_pure ⟨_, rfl, wpAny_pure h⟩)) ok))
    | exact wpAny_bind (wpAny_bind (m := Builtin.Tuple.tupleExact _) (wpAny_newObj_type (wpAny_pure ⟨_, rfl, wpAny_pure h⟩) ok))
end
section
variable {X : Cx} {c : Cz} {e a b : Expr} {ρ : Env} {st : c.m.St} {pos : Pos} {k : Slot → Env → c.m.St → Prop} {K : PySem.W.Frag}
def tRevT (K : PySem.W.Frag) (te : TE) : TE := fun σ H Q => te σ H fun x H1 => ∃ a xs, x = .ref a ∧ SqT K H1 a xs ∧ ∀ p, H1 p = none → Q (.ref p) (upd H1 p (.tup xs.reverse))
theorem pe_revT {te : TE} {kk : Nat} {p1 p2 p3 : Pos} (he : PE X e te) : PE X (.Subscript e (.Slice none none (some (.UnaryOp .USub (.Constant (.int 1) kk p1) p2)) p3) pos) (tRevT X.K te) := by
  refine ⟨fun pins s σ H Q I h => ?_⟩
  refine PyProof.Rows.Subscript_ <| thn (he.run pins s σ H _ I h) fun v s1 ⟨x, H1, I1, r1, q1⟩ => ?_
  obtain ⟨a, xs, rfl, hx, q⟩ := q1
  cases r1
  have step : PO X (some (.UnaryOp .USub (.Constant (.int 1) kk p1) p2)) (tPart (tUn (rU fun i => .int (-i)) (tC (.int 1)))) := po_some (pe_un un_neg pe_int)
  refine wpAny_Slice <| thn (po_none.run pins s1 σ H1 (fun o H2 => o = none ∧ H2 = H1) I1 ⟨rfl, rfl⟩) fun vl s2 ⟨l, H2, I2, pl, el, e2⟩ => ?_
  subst el e2
  refine thn (po_none.run pins s2 σ H2 (fun o H3 => o = none ∧ H3 = H2) I2 ⟨rfl, rfl⟩) fun vu s3 ⟨u, H3, I3, pu, eu, e3⟩ => ?_
  subst eu e3
  refine thn (step.run pins s3 σ H3 (fun o H4 => o = some (-1) ∧ H4 = H3) I3 ⟨1, rfl, -1, rfl, rfl, rfl⟩) fun vs s4 ⟨o, H4, I4, ps, eo, e4⟩ => ?_
  subst eo e4
  have I5 : Inv X pins σ H4 { s4 with heap := s4.heap.push { cls := .type "slice", data := .fields #[vl, vu, vs] } } := I4.kept (t' := s4.toks) fun b ob q => Heap.get?_push_of_some _ q
  obtain ⟨its, r, ht, hz⟩ := I5.tuple hx
  show wpAny _ _ (subscriptTail e (.Slice none none (some (.UnaryOp .USub (.Constant (.int 1) kk p1) p2)) p3) (.ref a) (.ref s4.heap.objs.size)) _ _ { s4 with heap := s4.heap.push { cls := .type "slice", data := .fields #[vl, vu, vs] } }
  cases pl
  cases pu
  refine tail_any (ops := [.ref a, .ref s4.heap.objs.size]) ht.typeIs PyProof.Rows.slot_tuple_getitem.lookup ?_ (by with_unfolding_all rfl)
  refine getItem_rev ht (Heap.IsSliceOf.new _ .none .none vs) ps (by rw [← r.length]; exact hz) ?_
  exact ⟨.ref _, _, I5.laid (t' := s4.toks) (o := .tup xs.reverse) (fun b ob q => Heap.get?_push_of_some _ q) (Nat.le_refl _) ⟨by rw [List.length_reverse]; exact hz, _, r.reverse, IsTup.new _ _⟩, rfl, q _ (I5.hok.fresh (Nat.le_refl _))⟩
/-- t[::-1], a tuple -/
theorem de_revT {kk : Nat} {p1 p2 p3 : Pos} (h : DE X c e ρ st fun s ρ1 st1 => ∃ ds, s = .dat (.tuple ds) ∧ k (.dat (.tuple ds.reverse)) ρ1 st1) : DE X c (.Subscript e (.Slice none none (some (.UnaryOp .USub (.Constant (.int 1) kk p1) p2)) p3) pos) ρ st k := by
  intro τ σ H Q hh hl hk hx
  refine we_of (pe_revT pe_w) (h τ σ H _ hh hl (fun s ρ1 st1 v H1 h1 hh1 hl1 => ?_) hx)
  obtain ⟨ds, rfl, h2⟩ := h1
  obtain ⟨_, q1⟩ := asD_seq hh1 (fun e he => List.mem_append_left _ he) hl1 (List.mem_append_right _ List.mem_cons_self) (.dat (.tuple ds))
  obtain ⟨p, xs, rfl, r, d⟩ := q1 ds rfl
  have rev : ∀ {N : Addr → Prop} {xs : List V} {ds : List PyData}, DaAll N X.K H1 xs ds → DaAll N X.K H1 xs.reverse ds.reverse := by
    intro N xs
    induction xs with
    | nil => intro ds q; cases q; exact .nil
    | cons x xs ih =>
      intro ds q
      cases q with
      | cons q1 q2 =>
        rw [List.reverse_cons, List.reverse_cons]
        exact (ih q2).app (.cons q1 .nil)
  exact ⟨p, xs, rfl, r, fun l hl' => hk _ _ _ _ _ h2 (hh1.cut.newTup hl' ((rev d).move (wk_owns _))) hl1⟩
end
end DL

namespace DL
open PySem PySem.Spec PyProof.Rows L2
/-! ### owned objects of any kind -/
def S0 : Sta := ⟨fun _ _ _ => True, fun _ _ => trivial⟩
theorem Here.notTup {m : Mem} {K : PySem.W.Frag} {H0 H : Hp} {L : List Ent} {st : m.St} {q : Addr} {xs : List V} (h : Here m K H0 L st H) (e : H q = some (.tup xs)) : ¬ (m.N q ∨ q ∈ owns L) := fun z => by
  rcases z with z | z
  · exact m.nt h.ok z e
  · obtain ⟨x, hx, e2⟩ := mem_owns.mp z
    obtain ⟨o, w, e3⟩ := (h.all x hx).at e2
    rw [e] at e3
    exact w.2 _ (Option.some.inj e3).symm
section
variable {m : Mem} {K : PySem.W.Frag} {H0 H : Hp} {st : m.St} {p : Addr} {o : HO} {S : Sta}
theorem Here.allocX {A B : List Ent} (h : Here m K H0 (A ++ B) st H) (hp : H p = none) (w : Ow o) (q : S.φ (fun a => m.N a ∨ a ∈ owns (A ++ B)) K H) : Here m K H0 (A ++ (some (.ref p), .ownX p o S) :: B) st (upd H p o) := by
  have h1 := h.alloc (o := o) hp
  have e0 : owns ((some (V.ref p), Slot.ownX p o S) :: (A ++ B)) = p :: owns (A ++ B) := by rw [owns_cons]; rfl
  have np : p ∉ owns (A ++ B) := fun z => by
    obtain ⟨e, he, q⟩ := mem_owns.mp z
    exact (h.all e he).no q hp
  have go : ∀ a u, ¬ (m.N a ∨ a ∈ owns (A ++ B)) → NT u → H a = some u → ¬ (m.N a ∨ a ∈ p :: owns (A ++ B)) ∧ upd H p o a = some u := fun a u n t e => by
    have ne : a ≠ p := ne_of_none e hp
    exact ⟨fun z => z.elim (fun z => n (.inl z)) fun z => (List.mem_cons.mp z).elim ne fun z => n (.inr z), by rw [upd_ne ne]; exact e⟩
  have h2 : Here m K H0 ((some (.ref p), .ownX p o S) :: (A ++ B)) st (upd H p o) := by
    refine ⟨h1.ok, h1.kp, by rw [e0]; exact List.nodup_cons.mpr ⟨np, h.nd⟩, ?_, ?_⟩
    · rw [e0]
      intro x hx
      rcases List.mem_cons.mp hx with rfl | hx
      · exact ⟨h.freshN hp, h.fresh0 (h.freshN hp) (fr_none hp)⟩
      · exact h.fr x hx
    · rw [e0]
      intro x hx
      rcases List.mem_cons.mp hx with rfl | hx
      · exact ⟨rfl, w, upd_same, S.go go q⟩
      · exact (h.all x hx).move go fun q _ _ u e => by rw [upd_ne (ne_of_none e hp)]; exact e
  exact h2.perm List.perm_middle.symm
theorem Here.writeX {A B : List Ent} {o' : HO} {S' : Sta} {y : Option V} (h : Here m K H0 (A ++ (y, .ownX p o S) :: B) st H) (nf : ¬ Fix o) (w : Ow o') (q : S'.φ (fun a => m.N a ∨ a ∈ owns (A ++ (y, .ownX p o S) :: B)) K H) :
    Here m K H0 (A ++ (y, .ownX p o' S') :: B) st (upd H p o') := by
  have hp : p ∈ owns (A ++ (y, .ownX p o S) :: B) := mem_owns.mpr ⟨_, List.mem_append_right _ List.mem_cons_self, rfl⟩
  have eo : owns (A ++ (y, Slot.ownX p o' S') :: B) = owns (A ++ (y, Slot.ownX p o S) :: B) := by rw [owns_app, owns_app, owns_cons, owns_cons]; rfl
  obtain ⟨nN, n0⟩ := h.fr p hp
  have go : ∀ a u, ¬ (m.N a ∨ a ∈ owns (A ++ (y, Slot.ownX p o S) :: B)) → NT u → H a = some u → ¬ (m.N a ∨ a ∈ owns (A ++ (y, Slot.ownX p o S) :: B)) ∧ upd H p o' a = some u := fun a u n t e => ⟨n, by
    rw [upd_ne fun z => n (.inr (by rw [z]; exact hp))]
    exact e⟩
  obtain ⟨f1, f2, f3, f4⟩ := h.all _ (List.mem_append_right A List.mem_cons_self)
  refine ⟨m.stab h.ok (fun b hb => upd_ne fun z => nN (by rw [← z]; exact hb)) (fun b u t e => by
    rw [upd_ne fun z => by rw [z, f3] at e; cases e; exact nf t]
    exact e), fun b u n t e => ?_, by rw [eo]; exact h.nd, by rw [eo]; exact h.fr, ?_⟩
  · rw [upd_ne fun z => nt_fr t n0 (by rw [← z]; exact e)]
    exact h.kp b u n t e
  · rw [eo]
    intro x hx
    have old : ∀ x ∈ A ++ B, EntOk (fun a => m.N a ∨ a ∈ owns (A ++ (y, Slot.ownX p o S) :: B)) K (upd H p o') x := fun x hx => by
      have hx' : x ∈ A ++ (y, .ownX p o S) :: B := (List.mem_append.mp hx).elim (List.mem_append_left _) fun z => List.mem_append_right _ (List.mem_cons_of_mem _ z)
      refine (h.all x hx').move go fun q' ds2 e2 u eu => ?_
      have nq : q' ≠ p := fun z => by
        have n1 := (h.perm List.perm_middle).nd
        rw [owns_cons] at n1
        exact (List.nodup_cons.mp (show (p :: owns (A ++ B)).Nodup from n1)).1 (mem_owns.mpr ⟨x, hx, by rw [e2, z]⟩)
      rw [upd_ne nq]
      exact eu
    rcases List.mem_append.mp hx with hx | hx
    · exact old x (List.mem_append_left _ hx)
    · rcases List.mem_cons.mp hx with rfl | hx
      · exact ⟨f1, w, upd_same, S'.go go q⟩
      · exact old x (List.mem_append_right _ hx)
end
/-! ### dicts from tuples of ints to ints -/
abbrev Cnt := List (List Int × Int)
def kvT (l : Cnt) : List (List Key × V) := l.map fun q => (q.1.map Sum.inl, V.int q.2)
def putC (l : Cnt) (k : List Int) (z : Int) : Cnt := if l.any (fun q => decide (q.1 = k)) then l.map fun q => if q.1 = k then (q.1, z) else q else l ++ [(k, z)]
def getC (l : Cnt) (k : List Int) : Option Int := (l.find? fun q => decide (q.1 = k)).map (·.2)
theorem inl_inj : ∀ {a b : List Int}, a.map (Sum.inl (β := Str)) = b.map Sum.inl → a = b
  | [], [], _ => rfl
  | [], _ :: _, h => by cases h
  | _ :: _, [], h => by cases h
  | x :: a, y :: b, h => by
    have h1 := List.cons.inj h
    rw [Sum.inl.inj h1.1, inl_inj h1.2]
theorem kV_inl (k : List Int) : (k.map (Sum.inl (β := Str))).map kV = k.map V.int := by rw [List.map_map]; rfl
theorem val_kvT (l : Cnt) (k : List Int) : valV (kvT l) (k.map Sum.inl) = (getC l k).map V.int := by
  unfold getC
  induction l with
  | nil => rfl
  | cons q l ih =>
    by_cases h : q.1 = k
    · have e : valV (kvT (q :: l)) (k.map Sum.inl) = some (V.int q.2) := valV_pos (by show q.1.map Sum.inl = k.map Sum.inl; rw [h])
      rw [e, List.find?_cons_of_pos (by simp [h])]
      rfl
    · have e : valV (kvT (q :: l)) (k.map Sum.inl) = valV (kvT l) (k.map Sum.inl) := valV_neg (show ¬ q.1.map Sum.inl = k.map Sum.inl from fun z => h (inl_inj z))
      rw [e, ih, List.find?_cons_of_neg (by simp [h])]
theorem put_kvT (l : Cnt) (k : List Int) (z : Int) : putK (kvT l) (k.map Sum.inl) (V.int z) = kvT (putC l k z) := by
  unfold putK putC
  have ea : (kvT l).any (fun p => decide (p.1 = k.map Sum.inl)) = l.any fun q => decide (q.1 = k) := by
    unfold kvT
    rw [List.any_map]
    congr 1
    funext q
    exact decide_eq_decide.mpr ⟨fun h => inl_inj h, fun h => by show q.1.map Sum.inl = _; rw [h]⟩
  rw [ea]
  split
  · unfold kvT
    rw [List.map_map, List.map_map]
    congr 1
    funext q
    by_cases h : q.1 = k
    · simp [h]
    · have h2 : ¬ q.1.map (Sum.inl (β := Str)) = k.map Sum.inl := fun z => h (inl_inj z)
      simp [h, h2]
  · unfold kvT
    rw [List.map_append]
    rfl
end DL

namespace DL
open PySem PySem.Spec PyProof.Rows L2
def keyT (k : List Int) : PyData := .tuple (k.map .int)
def keysD (l : Cnt) : List PyData := l.map fun q => keyT q.1
abbrev dTo (l : Cnt) : HO := .dT (kvT l)
theorem nfix_dT {kvs : List (List Key × V)} : ¬ Fix (.dT kvs) := fun h => h.2.2.1 _ rfl
theorem nfix_frz {o : Obj} {u : HO} : ¬ Fix (.frz o u) := fun h => h.2.2.2 _ _ rfl
inductive IsDT (l : Cnt) : HO → Prop
  | dT : IsDT l (dTo l)
  | frz (od : Obj) : IsDT l (.frz od (dTo l))
theorem IsDT.rd {l : Cnt} {o : HO} {H : Hp} {p : Addr} (h : IsDT l o) (e : H p = some o) : Rd H p (dTo l) := by
  cases h with
  | dT => exact .inl e
  | frz od => exact .inr ⟨od, e⟩
theorem key_at {N : Addr → Prop} {K : PySem.W.Frag} {H : Hp} {v : V} {k : List Int} (q : Da N K H v (keyT k)) : ∃ b, v = .ref b ∧ H b = some (.tup ((k.map Sum.inl).map kV)) := by
  cases q with
  | tup r qa =>
    refine ⟨_, rfl, ?_⟩
    rw [kV_inl, ← daI qa]
    exact r.2
section
variable {X : Cx} {c : Cz} {e ek ed : Expr} {ρ : Env} {st : c.m.St} {pos : Pos} {k : Slot → Env → c.m.St → Prop} {K : PySem.W.Frag} {p : Addr} {o0 : HO} {l0 : Cnt}
theorem de_dictT (h : ∀ p, k (.ownX p (dTo []) S0) ρ st) : DE X c (.Dict [] [] pos) ρ st k := by
  intro τ σ H Q hh hl hk hx
  exact we_of pe_dnewT fun p hp => hk _ _ _ _ _ (h p) (hh.allocX hp ow_dT trivial) hl
theorem ownX_at {m : Mem} {H0 H : Hp} {L : List Ent} {σ : L2.St} {τ : List Ent} {st : m.St} {i : Nat} {o : HO} {S : Sta} (h : Here m K H0 (σ.zip ρ ++ τ) st H) (hl : σ.length = ρ.length) (hρ : ρ[i]? = some (.ownX p o S)) : σ[i]? = some (some (.ref p)) ∧ H p = some o := by
  obtain ⟨y, e1, e2, _⟩ := zip_get hl hρ
  obtain ⟨eo, _, e3, _⟩ := h.all _ (List.mem_append_left _ e2)
  rw [e1]
  exact ⟨congrArg some eo, e3⟩
/-- d.get(key, number) -/
theorem de_getT (i : Nat) {x : Str} {np apos : Pos} (hρ : ρ[i]? = some (.ownX p o0 S0)) (h0 : IsDT l0 o0) (hu : X.A.units + 1 < cLine)
    (h : DE X c ek ρ st fun s1 ρ1 st1 => ∃ ks, s1 = .dat (keyT ks) ∧ DE X c ed ρ1 st1 fun s2 ρ2 st2 => ∃ (z : Int) (o : HO) (l : Cnt), s2 = .dat (.int z) ∧ ρ2[i]? = some (.ownX p o S0) ∧ IsDT l o ∧ k (.dat (.int ((getC l ks).getD z))) ρ2 st2)
    (hN : X.N[i]? = some x := by rfl) (hv : Vis X.env.scope x := by first | exact Or.inl rfl | exact Or.inr (Or.inl rfl) | exact Or.inr (Or.inr rfl))
    (hd : (x == ("__debug__" : Str)) = false := by decide) (hcd : (x == ("__classdict__" : Str)) = false := by decide) (hm : M2 X (.Name x np) "get" apos ek ed pos := by exact ⟨by rfl, by rfl, by rfl, by rfl⟩) :
    DE X c (.Call (.Attribute (.Name x np) "get" apos) [ek, ed] [] pos) ρ st k := by
  intro τ σ H Q hh hl hk hx
  refine we_of (pe_dget2 hu (pe_var hN hv hd hcd) pe_w pe_w hm) ?_
  obtain ⟨a1, a2⟩ := ownX_at (L := []) hh hl hρ
  refine ⟨.ref p, a1, p, rfl, .inr ⟨_, h0.rd a2⟩, ?_⟩
  refine h τ σ H _ hh hl (fun s1 ρ1 st1 v1 H1 h1 hh1 hl1 => ?_) hx
  obtain ⟨ks, rfl, h2⟩ := h1
  refine h2 _ σ H1 _ hh1 hl1 (fun s2 ρ2 st2 v2 H2 h3 hh2 hl2 => ?_) hx
  obtain ⟨z, o, l, rfl, hρ2, h4, q⟩ := h3
  have ez : v2 = .int z := arg_flat hh2 (w := .int z) rfl
  subst ez
  obtain ⟨b1, b2⟩ := ownX_at (L := []) hh2 hl2 hρ2
  obtain ⟨v', ev, dk⟩ := hh2.dat (List.mem_append_right _ (List.mem_cons_of_mem _ List.mem_cons_self))
  cases ev
  obtain ⟨b, rfl, eb⟩ := key_at dk
  refine ⟨_, .inr ⟨kvT l, ks.map Sum.inl, b, h4.rd b2, rfl, eb, rfl⟩, ?_⟩
  have ev : (valV (kvT l) (ks.map Sum.inl)).getD (V.int z) = V.int ((getC l ks).getD z) := by
    rw [val_kvT]
    cases getC l ks <;> rfl
  rw [ev]
  exact hk _ _ _ _ _ q (hh2.cut.cut.flat (v := .int _) rfl) hl2
/-- d[key], there -/
theorem de_ixTd (i : Nat) {x : Str} {np : Pos} (hρ : ρ[i]? = some (.ownX p o0 S0)) (hu : X.A.units + 1 < cLine)
    (h : DE X c ek ρ st fun s1 ρ1 st1 => ∃ (ks : List Int) (z : Int) (o : HO) (l : Cnt), s1 = .dat (keyT ks) ∧ ρ1[i]? = some (.ownX p o S0) ∧ IsDT l o ∧ getC l ks = some z ∧ k (.dat (.int z)) ρ1 st1)
    (hN : X.N[i]? = some x := by rfl) (hv : Vis X.env.scope x := by first | exact Or.inl rfl | exact Or.inr (Or.inl rfl) | exact Or.inr (Or.inr rfl))
    (hd : (x == ("__debug__" : Str)) = false := by decide) (hcd : (x == ("__classdict__" : Str)) = false := by decide) (hs : NoSl ek := by exact fun _ _ => rfl) : DE X c (.Subscript (.Name x np) ek pos) ρ st k := by
  intro τ σ H Q hh hl hk hx
  refine we_of (pe_dget hu (pe_var hN hv hd hcd) pe_w hs) ?_
  obtain ⟨a1, a2⟩ := ownX_at (L := []) hh hl hρ
  refine ⟨.ref p, a1, ?_⟩
  refine h τ σ H _ hh hl (fun s1 ρ1 st1 v1 H1 h1 hh1 hl1 => ?_) hx
  obtain ⟨ks, z, o, l, rfl, hρ1, h4, hz, q⟩ := h1
  obtain ⟨b1, b2⟩ := ownX_at (L := []) hh1 hl1 hρ1
  obtain ⟨v', ev, dk⟩ := hh1.dat (List.mem_append_right _ List.mem_cons_self)
  cases ev
  obtain ⟨b, rfl, eb⟩ := key_at dk
  exact ⟨p, .int z, rfl, .inr ⟨kvT l, ks.map Sum.inl, b, h4.rd b2, rfl, eb, by rw [val_kvT, hz]; rfl⟩, hk _ _ _ _ _ q (hh1.cut.flat (v := .int _) rfl) hl1⟩
/-- d[key] = number -/
theorem ds_putT (i : Nat) {x : Str} {np sp : Pos} {D : Dn c.m} (hu : X.A.units + 1 < cLine)
    (h : DE X c e ρ st fun s1 ρ1 st1 => ∃ (z : Int) (p : Addr) (l : Cnt), s1 = .dat (.int z) ∧ ρ1[i]? = some (.ownX p (dTo l) S0) ∧ l.length < 16000000 ∧ DE X c ek ρ1 st1 fun s2 ρ2 st2 => ∃ ks, s2 = .dat (keyT ks) ∧ ρ2 = ρ1 ∧ D.nx (ρ1.set i (.ownX p (dTo (putC l ks z)) S0)) st2)
    (hN : X.N[i]? = some x := by rfl) (hv : Vis X.env.scope x := by first | exact Or.inl rfl | exact Or.inr (Or.inl rfl) | exact Or.inr (Or.inr rfl))
    (hd : (x == ("__debug__" : Str)) = false := by decide) (hcd : (x == ("__classdict__" : Str)) = false := by decide) (hs : swapsWith e (some (.Subscript (.Name x np) ek sp)) pos.line X.env = pure false := by rfl) : DS X c (.Assign [.Subscript (.Name x np) ek sp] e pos) ρ st D := by
  intro τ σ H De hh hl hk hx
  refine ws_of (ps_dput hu (pe_var hN hv hd hcd) pe_w pe_w hs) (h τ σ H _ hh hl (fun s1 ρ1 st1 v1 H1 h1 hh1 hl1 => ?_) hx)
  obtain ⟨z, p, l, rfl, hρ1, hlen, h2⟩ := h1
  have ez : v1 = .int z := arg_flat hh1 (w := .int z) rfl
  subst ez
  obtain ⟨b1, _⟩ := ownX_at (L := []) hh1 hl1 hρ1
  refine ⟨.ref p, b1, ?_⟩
  refine h2 _ σ H1 _ hh1 hl1 (fun s2 ρ2 st2 v2 H2 h3 hh2 hl2 => ?_) hx
  obtain ⟨ks, rfl, rfl, q⟩ := h3
  obtain ⟨v', ev, dk⟩ := hh2.dat (List.mem_append_right _ List.mem_cons_self)
  cases ev
  obtain ⟨b, rfl, eb⟩ := key_at dk
  obtain ⟨_, b2⟩ := ownX_at (L := []) hh2 hl2 hρ1
  obtain ⟨A, y, B, f1, f2, f3⟩ := set_mid hl2 hρ1
  have h4 : Here c.m X.K c.H0 (A ++ (y, .ownX p (dTo l) S0) :: (B ++ τ)) st2 H2 := by
    have z := hh2.cut.cut
    rw [f1, List.append_assoc] at z
    exact z
  have w := h4.writeX (S' := S0) nfix_dT (ow_dT (kvs := kvT (putC l ks z))) trivial
  refine ⟨p, upd H2 p (dTo (putC l ks z)), rfl, .inr ⟨kvT l, ks.map Sum.inl, b, b2, rfl, eb, ?_, ?_⟩, hk.nx _ _ _ _ q ?_ (by rw [List.length_set]; exact hl2)⟩
  · unfold kvT
    rw [List.length_map]
    exact Nat.lt_of_lt_of_le hlen (by decide)
  · rw [put_kvT]
  · rw [f3, List.append_assoc]
    exact w
end
section
variable {X : Cx} {c : Cz} {ρ : Env} {st : c.m.St} {k : Slot → Env → c.m.St → Prop} {elt : Expr} {ifs : List Expr} {scope : Scope} {x y : Str} {xp yp pos : Pos} {p : Addr} {l : Cnt} {K : PySem.W.Frag}
/-- [.. for key in d], d an owned dict, by its name -/
theorem dlcK (i j : Nat) (hN : X.N.Nodup) (hρ : ρ[i]? = some (.ownX p (dTo l) S0)) (h : ∀ od, LcT X c scope j elt ifs (ρ.set i (.ownX p (.frz od (dTo l)) S0)) st (keysD l) fun s ρ2 st2 => ρ2[i]? = some (.ownX p (.frz od (dTo l)) S0) ∧ k s (ρ2.set i (.ownX p (dTo l) S0)) st2) (hij : i ≠ j := by decide) (hi' : X.N[i]? = some y := by rfl) (hv : Vis X.env.scope y := by first | exact Or.inl rfl | exact Or.inr (Or.inl rfl) | exact Or.inr (Or.inr rfl))
    (hc : X.calm = true := by rfl) (hb : blkB X.N X.env.scope scope [(x, j)] = true := by rfl) (hl : ∀ s H C cl fp, Loc (Bk X scope s H C cl fp).env.scope x := by intro _ _ _ _ _; first | exact Or.inl rfl | exact Or.inr rfl) (hf : ∀ s H C cl fp, (Bk X scope s H C cl fp).fn x = true ∨ (Bk X scope s H C cl fp).env.scope.names.lookup x = some .local := by intro _ _ _ _ _; first | exact Or.inr rfl | exact Or.inl rfl) (hi : X.N[j]? = some x := by rfl)
    (hs : ∀ x, foldedSetIterable (.Name y yp) X.env x = pure x := by intro _; rfl) (hd : (y == ("__debug__" : Str)) = false := by decide) (hcd : (y == ("__classdict__" : Str)) = false := by decide) : DE X c (.ListComp elt [⟨.Name x xp, .Name y yp, ifs, 0⟩] scope pos) ρ st k := by
  intro τ σ H Q hh hl' hk hx
  refine we_of (pe_lock (pe_lc (own := [(x, j)]) (te := UE X scope elt) hc hN (pi_keys (pe_var hi' hv hd hcd)) (blk_by hb) (fun _ _ _ _ _ => pg_name hN hi (hl _ _ _ _ _) (hf _ _ _ _ _)) (pts_of ifs) (fun s H C cl fp => ⟨fun pins s' σ H' Q I h => h s H C cl fp pins s' I⟩) hs)) ?_
  obtain ⟨a1, a2⟩ := ownX_at (L := []) hh hl' hρ
  refine ⟨p, dTo l, a2, trivial, fun od => ?_⟩
  obtain ⟨A, y', B, f1, f2, f3⟩ := set_mid hl' hρ
  have h4 : Here c.m X.K c.H0 (A ++ (y', .ownX p (dTo l) S0) :: (B ++ τ)) st H := by
    have z := hh
    rw [f1, List.append_assoc] at z
    exact z
  have w := h4.writeX (S' := S0) nfix_dT (ow_frz (o := od) (u := dTo l)) trivial
  have hw : Here c.m X.K c.H0 (σ.zip (ρ.set i (.ownX p (.frz od (dTo l)) S0)) ++ τ) st (upd H p (.frz od (dTo l))) := by
    rw [f3, List.append_assoc]
    exact w
  have hl2 : σ.length = (ρ.set i (.ownX p (.frz od (dTo l)) S0)).length := by rw [List.length_set]; exact hl'
  refine ⟨.ref p, a1, p, od, rfl, .inr ⟨kvT l, upd_same, ?_⟩⟩
  show tLc (fun _ _ R => R (Itkt p od (kvT l)) (upd H p (.frz od (dTo l)))) (gName j) (ttOf X scope ifs) (UE X scope elt) [j] σ H (fun v H' => H' p = some (.frz od (dTo l)) ∧ Q v (upd H' p (dTo l)))
  refine lc_core (E := []) (H := H) (k := fun s ρ2 st2 => ρ2[i]? = some (.ownX p (.frz od (dTo l)) S0) ∧ k s (ρ2.set i (.ownX p (dTo l) S0)) st2) hw hl2 (fun s ρ' st' v H' h5 hh5 hl5 => ?_) (h od) (fun D acc st H hH n => ?_) fun D acc st' H' hE => by rw [List.append_assoc] at hE; exact hE
  · obtain ⟨g1, g2⟩ := h5
    obtain ⟨_, b2⟩ := ownX_at (L := []) hh5 hl5 g1
    refine ⟨b2, hk _ _ _ _ _ g2 ?_ (by rw [List.length_set]; exact hl5)⟩
    obtain ⟨A2, y2, B2, k1, k2, k3⟩ := set_mid hl5 g1
    have h6 : Here c.m X.K c.H0 (A2 ++ (y2, .ownX p (.frz od (dTo l)) S0) :: (B2 ++ (some v, s) :: τ)) st' H' := by
      have z := hh5
      rw [k1, List.append_assoc] at z
      exact z
    have w2 := h6.writeX (S' := S0) nfix_frz (ow_dT (kvs := kvT l)) trivial
    rw [k3, List.append_assoc]
    exact w2
  · have hρ2 : ((ρ.set i (.ownX p (.frz od (dTo l)) S0)).set j .any)[i]? = some (.ownX p (.frz od (dTo l)) S0) := by
      rw [List.getElem?_set_ne (Ne.symm hij), List.getElem?_set_self]
      exact (List.getElem?_eq_some_iff.mp hρ).1
    have hH' : Here c.m X.K c.H0 (σ.zip ((ρ.set i (.ownX p (.frz od (dTo l)) S0)).set j .any) ++ ((some (.ref D), .own D acc) :: ([] ++ τ))) st H := by
      rw [List.append_assoc] at hH
      exact hH
    obtain ⟨_, b2⟩ := ownX_at (L := []) hH' (by rw [List.length_set]; exact hl2) hρ2
    have ll : (kvT l).length = (keysD l).length := by unfold kvT keysD; rw [List.length_map, List.length_map]
    refine ⟨fun hle => ⟨b2, by rw [ll]; exact hle⟩, fun d hd2 => ⟨⟨b2, by rw [ll]; exact (List.getElem?_eq_some_iff.mp hd2).1⟩, fun z H' hz => ?_⟩⟩
    obtain ⟨rfl, kk, vv, q, e1, rfl, e2⟩ := hz
    unfold kvT at e1
    unfold keysD at hd2
    rw [List.getElem?_map] at e1 hd2
    cases eL : l[n]? with
    | none => rw [eL] at e1; cases e1
    | some r =>
      rw [eL] at e1 hd2
      cases e1
      cases hd2
      rw [kV_inl] at e2
      exact hH.put rfl ⟨.ref q, rfl, .tup ⟨hH.notTup e2, e2⟩ (ints_da r.1)⟩
end
end DL

namespace DL
open PySem PySem.Spec PyProof.Rows L2
/-! ### sorted(d), d a dict with tuple keys -/
def rSortK (K : PySem.W.Frag) : List V → Hp → VK → Prop := fun vs H Q => ∃ (a : Addr) (l : Cnt), vs = [.ref a] ∧ Rd H a (dTo l) ∧ Srts (keysD l) ∧ ∀ bs : List Addr, IsKeys H (kvT l) bs → SortQ false (bs.map V.ref) (keysD l) H Q
theorem keys_dp {K : PySem.W.Frag} {H : Hp} : ∀ {l : Cnt} {bs : List Addr}, IsKeys H (kvT l) bs → DpAll K H (bs.map V.ref) (keysD l)
  | [], _, h => by cases h; exact .nil
  | q :: l, _, h => by
    cases h with
    | @cons a b as bs h1 h2 =>
      have e : H b = some (.tup (q.1.map V.int)) := by rw [← kV_inl]; exact h1
      have di : ∀ k : List Int, DpAll K H (k.map V.int) (k.map PyData.int) := by
        intro k
        induction k with
        | nil => exact .nil
        | cons i k ih => exact .cons (.int i) ih
      exact .cons (.tup (.inl (.inl e)) (di q.1)) (keys_dp h2)
theorem vals_keys : ∀ bs : List Addr, Vals (bs.map V.ref) (bs.map Value.ref)
  | [] => .nil
  | _ :: r => .cons rfl (vals_keys r)
theorem call_sortK {X : Cx} (hc : X.calm = true) (hu : X.A.units + 64 < cLine) : CallR X (.builtin "sorted") (rSortK X.K) := by
  intro pins s σ H vs us Q I r h
  obtain ⟨a, l, rfl, hd, S, q⟩ := h
  obtain ⟨u, rfl, rx⟩ := r.one
  cases rx
  obtain ⟨z, hs, ks, pr, o, es, ep, ho, hx, hdt, he, hn⟩ := (show ObjOk X.prog X.w H s.heap a (dTo l) from hd.ok I.hok)
  have l1 : es.size = ks.length := size_of_entries he
  have l2 : (kvT l).length = ks.length := Paired.length pr
  have ik := isKeys_of pr
  refine sorted_core (ds := keysD l) I (.inl ⟨rfl, rfl⟩) S.al S.ok S.len hu S.dep (keys_dp ik) (fun Q' E' q2 => ?_) (q _ ik)
  refine PySem.W.kdu_collect (A := X.A.in1) (kdl_raw hs hx hdt) (I.ok.hd hc) ho (by omega) fun h' tk acc keep it => ?_
  have ea : acc.toList = (ks.map fun x => x.2.1).map Value.ref := by
    refine List.ext_getElem? fun j => ?_
    rw [List.getElem?_map, List.getElem?_map]
    have la : acc.toList.length = ks.length := by rw [Array.length_toList, it.1]; exact l1
    have qe := entry_at he j
    cases hj : acc.toList[j]? with
    | none => rw [List.getElem?_eq_none (by have := List.getElem?_eq_none_iff.mp hj; omega)]; rfl
    | some v =>
      obtain ⟨en, hen, hv⟩ := it.2 j v (by rw [← Array.getElem?_toList]; exact hj)
      rw [hen] at qe
      cases hb : ks[j]? with
      | none => rw [hb] at qe; cases qe
      | some b =>
        rw [hb] at qe
        have e2 := Option.some.inj qe
        rw [hv, e2]
        rfl
  rw [ea]
  exact q2 h' tk _ keep (vals_keys _)
section
variable {X : Cx} {c : Cz} {e : Expr} {ρ : Env} {st : c.m.St} {pos : Pos} {k : Slot → Env → c.m.St → Prop} {K : PySem.W.Frag} {p : Addr} {l : Cnt}
theorem dcall_sortK {i : Nat} (hρ : ρ[i]? = some (.ownX p (dTo l) S0)) (S : Srts (keysD l)) (h : ∀ p', k (.own p' (sortD false (keysD l))) ρ st) : DCall K c (rSortK K) [.raw (.ref p)] ρ st k := by
  intro τ σ H Q vs hlen hh hl hk
  obtain ⟨v, rfl⟩ := one_of hlen
  have h' : Here c.m K c.H0 (σ.zip ρ ++ (some v, .raw (.ref p)) :: τ) st H := hh
  have ev : some v = some (V.ref p) := h'.all _ (List.mem_append_right _ List.mem_cons_self)
  cases ev
  obtain ⟨_, b2⟩ := ownX_at (L := []) h' hl hρ
  refine ⟨p, l, rfl, .inl b2, S, fun bs ik ps a e ha => ?_⟩
  have da : ∀ {l : Cnt} {bs : List Addr}, IsKeys H (kvT l) bs → DaAll (fun a => c.m.N a ∨ a ∈ owns (σ.zip ρ ++ (some (.ref p), .raw (.ref p)) :: τ)) K H (bs.map V.ref) (keysD l) := by
    intro l
    induction l with
    | nil => intro bs h; cases h; exact .nil
    | cons q l ih =>
      intro bs h
      cases h with
      | @cons a b as bs h1 h2 =>
        have e : H b = some (.tup (q.1.map V.int)) := by rw [← kV_inl]; exact h1
        exact .cons (.tup ⟨h'.notTup e, e⟩ (ints_da q.1)) (ih h2)
  have qa := da ik
  have e2 : ps.map Prod.snd = sortD false (keysD l) := by rw [e]; exact sortD_zip false qa.len
  have da2 : DaAll (fun a => c.m.N a ∨ a ∈ owns (σ.zip ρ ++ (some (.ref p), .raw (.ref p)) :: τ)) K H (ps.map Prod.fst) (sortD false (keysD l)) := by
    rw [← e2]
    refine daAll_of fun x hx => daAll_zip qa x ?_
    rw [e] at hx
    exact (List.mergeSort_perm _ _).mem_iff.mp hx
  exact hk _ _ _ _ _ (h a) (h'.cut.allocOwn ha (da2.move (wk_owns _))) hl
/-! ### owned lists of tracked objects -/
def Objs (φs : List (Addr → HO)) (as : List Addr) : Sta := ⟨fun N _ H => ∀ (i : Nat) (a : Addr) (φ : Addr → HO), as[i]? = some a → φs[i]? = some φ → ¬ N a ∧ NT (φ a) ∧ H a = some (φ a), fun k h i a φ e1 e2 => by
  obtain ⟨n, t, q⟩ := h i a φ e1 e2
  exact ⟨(k a _ n t q).1, t, (k a _ n t q).2⟩⟩
theorem nfix_lst {xs : List V} : ¬ Fix (.lst xs) := fun h => h.1 _ rfl
def objL (p : Addr) (φs : List (Addr → HO)) (as : List Addr) : Slot := .ownX p (.lst (as.map V.ref)) (Objs φs as)
/-- [e], e an object -/
theorem de_lstO (h : DE X c e ρ st fun s ρ1 st1 => ∃ φ, s = .obj φ ∧ ∀ p a, k (objL p [φ] [a]) ρ1 st1) (hs : starEach [e] X.env = (false, eval e X.env) :: starEach [] X.env := by rfl) : DE X c (.List [e] pos) ρ st k := by
  intro τ σ H Q hh hl hk hx
  refine we_of (pe_lst (pa_cons pe_w pa_nil hs)) (h τ σ H _ hh hl (fun s ρ1 st1 v H1 h1 hh1 hl1 => ?_) hx)
  obtain ⟨φ, rfl, q⟩ := h1
  obtain ⟨a, ea, n, t, qa⟩ := hh1.all _ (List.mem_append_right _ List.mem_cons_self)
  cases ea
  refine ⟨by show 1 ≤ sizeLine; decide, fun p hp => hk _ _ _ _ _ (q p a) (hh1.cut.allocX hp (ow_lst (xs := [V.ref a])) ?_) hl1⟩
  intro i a' φ' e1 e2
  match i, e1, e2 with
  | 0, e1, e2 =>
    cases e1
    cases e2
    exact ⟨fun z => n (z.elim .inl fun z => .inr (owns_sub (fun y hy => (List.mem_append.mp hy).elim (List.mem_append_left _) fun z => List.mem_append_right _ (List.mem_cons_of_mem _ z)) _ z)), t, qa⟩
  | i + 1, e1, _ => simp at e1
/-- xs.append(e), e an object -/
theorem ds_appendO (i : Nat) {x : Str} {np apos cpos : Pos} {φs0 : List (Addr → HO)} {as0 : List Addr} {D : Dn c.m} (hρ : ρ[i]? = some (objL p φs0 as0))
    (h : DE X c e ρ st fun s ρ1 st1 => ∃ φ φs as, s = .obj φ ∧ ρ1[i]? = some (objL p φs as) ∧ as.length = φs.length ∧ as.length < 1000 ∧ ∀ a, D.nx (ρ1.set i (objL p (φs ++ [φ]) (as ++ [a]))) st1)
    (hN : X.N[i]? = some x := by rfl) (hv : Vis X.env.scope x := by first | exact Or.inl rfl | exact Or.inr (Or.inl rfl) | exact Or.inr (Or.inr rfl))
    (hd : (x == ("__debug__" : Str)) = false := by decide) (hcd : (x == ("__classdict__" : Str)) = false := by decide)
    (hbase : attributeBase (.Name x np) "append" X.env (eval (.Name x np) X.env) = eval (.Name x np) X.env := by rfl)
    (hfew : ((backTo cpos (starEach (e :: []) X.env)).all (fun x => !x.1) && (backToKw cpos (keywordEach [] X.env)).all (fun x => x.1.isSome)
      && decide ((e :: ([] : List Expr)).length + ([] : List Keyword).length + (if ([] : List Keyword).isEmpty then 0 else 1) < 30)) = true := by rfl)
    (hline : (apos.endLine == cpos.line) = true := by rfl) (hs : starEach (e :: []) X.env = (false, eval e X.env) :: starEach [] X.env := by rfl) (hplain : (backTo cpos (starEach [] X.env)).any (·.1) = false := by rfl)
    (hsw : swapsWith (.Call (.Attribute (.Name x np) "append" apos) [e] [] cpos) none pos.line X.env = pure false := by rfl) : DS X c (.Expr (.Call (.Attribute (.Name x np) "append" apos) [e] [] cpos) pos) ρ st D := by
  intro τ σ H De hh hl hk hx
  obtain ⟨a1, a2⟩ := ownX_at (L := []) hh hl hρ
  refine ws_of (ps_expr (pe_bm PySem.F.plainAttrs_list PySem.F.slot_list_append PySem.F.type_list_append (fun pins s σ H x vs v us Q => mt_append pins s σ H x vs v us Q) (pe_var hN hv hd hcd) (pa_cons pe_w pa_nil hs) hbase hfew hline hs hplain) hsw) ?_
  refine ⟨.ref p, a1, .inl ⟨rfl, _, .inl (.inl a2)⟩, ?_⟩
  refine h τ σ H _ hh hl (fun s ρ1 st1 v H1 h1 hh1 hl1 => ?_) hx
  obtain ⟨φ, φs, as, rfl, hρ1, hlen, hz, q⟩ := h1
  obtain ⟨a, ea, n, t, qa⟩ := hh1.all _ (List.mem_append_right _ List.mem_cons_self)
  cases ea
  obtain ⟨_, b2⟩ := ownX_at (L := []) hh1 hl1 hρ1
  obtain ⟨A, y, B, f1, f2, f3⟩ := set_mid hl1 hρ1
  have h4 : Here c.m X.K c.H0 (A ++ (y, objL p φs as) :: (B ++ τ)) st1 H1 := by
    have z := hh1.cut
    rw [f1, List.append_assoc] at z
    exact z
  obtain ⟨_, _, _, hO⟩ := h4.all _ (List.mem_append_right _ List.mem_cons_self)
  rw [f1, List.append_assoc] at n
  have na : ¬ (c.m.N a ∨ a ∈ owns (A ++ (y, objL p φs as) :: (B ++ τ))) := fun z => n (z.elim .inl fun z => .inr (owns_sub (fun x hx => by
    rcases List.mem_append.mp hx with hx | hx
    · exact List.mem_append_left _ hx
    · rcases List.mem_cons.mp hx with rfl | hx
      · exact List.mem_append_right _ List.mem_cons_self
      · rcases List.mem_append.mp hx with hx | hx
        · exact List.mem_append_right _ (List.mem_cons_of_mem _ (List.mem_append_left _ hx))
        · exact List.mem_append_right _ (List.mem_cons_of_mem _ (List.mem_append_right _ (List.mem_cons_of_mem _ hx)))) _ z))
  have hO2 : ∀ (i : Nat) (a' : Addr) (φ' : Addr → HO), as[i]? = some a' → φs[i]? = some φ' → ¬ (c.m.N a' ∨ a' ∈ owns (A ++ (y, objL p φs as) :: (B ++ τ))) ∧ NT (φ' a') ∧ H1 a' = some (φ' a') := hO
  have hS : ∀ (i : Nat) (a' : Addr) (φ' : Addr → HO), (as ++ [a])[i]? = some a' → (φs ++ [φ])[i]? = some φ' → ¬ (c.m.N a' ∨ a' ∈ owns (A ++ (y, objL p φs as) :: (B ++ τ))) ∧ NT (φ' a') ∧ H1 a' = some (φ' a') := fun i a' φ' e1 e2 => by
    by_cases hi : i < as.length
    · rw [List.getElem?_append_left hi] at e1
      rw [List.getElem?_append_left (by omega)] at e2
      exact hO2 i a' φ' e1 e2
    · have hi2 : i = as.length := by
        have := (List.getElem?_eq_some_iff.mp e1).1
        rw [List.length_append, List.length_singleton] at this
        omega
      subst hi2
      rw [List.getElem?_concat_length] at e1
      rw [hlen, List.getElem?_concat_length] at e2
      cases e1
      cases e2
      exact ⟨na, t, qa⟩
  have w := h4.writeX (o' := .lst ((as ++ [a]).map V.ref)) (S' := Objs (φs ++ [φ]) (as ++ [a])) nfix_lst ow_lst hS
  refine ⟨p, as.map V.ref, .ref a, rfl, rfl, b2, ?_, hk.nx _ _ _ _ (q a) ?_ (by rw [List.length_set]; exact hl1)⟩
  · rw [List.length_map]
    exact Nat.lt_of_lt_of_le hz (by decide)
  · rw [f3, List.append_assoc]
    rw [List.map_append] at w
    show Here _ _ _ (A ++ (y, .ownX p (.lst ((as ++ [a]).map V.ref)) _) :: (B ++ τ)) _ _
    rw [List.map_append]
    exact w
theorem dop_ixO {i n : Nat} {φs : List (Addr → HO)} {as : List Addr} {φ : Addr → HO} (hρ : ρ[i]? = some (objL p φs as)) (hlen : as.length = φs.length) (hn : φs[n]? = some φ) (h : k (.obj φ) ρ st) : DOp K c (rIxL K) (.raw (.ref p)) (.dat (.int n)) ρ st k := by
  intro τ σ H Q v1 v2 hh hl hk
  have ez : v2 = .int n := Option.some.inj (hh.int1 (w := .int n) rfl)
  subst ez
  have ev : some v1 = some (V.ref p) := hh.all _ (List.mem_append_right _ (List.mem_cons_of_mem _ List.mem_cons_self))
  cases ev
  obtain ⟨y, _, e2, _⟩ := zip_get hl hρ
  obtain ⟨_, _, b2, hO⟩ := hh.all _ (List.mem_append_left _ e2)
  have hlt : n < as.length := by rw [hlen]; exact (List.getElem?_eq_some_iff.mp hn).1
  have ha : as[n]? = some as[n] := List.getElem?_eq_getElem hlt
  have hO2 : ∀ (i : Nat) (a' : Addr) (φ' : Addr → HO), as[i]? = some a' → φs[i]? = some φ' → ¬ (c.m.N a' ∨ a' ∈ owns (σ.zip ρ ++ (some (.int n), .dat (.int n)) :: (some (.ref p), .raw (.ref p)) :: τ)) ∧ NT (φ' a') ∧ H a' = some (φ' a') := hO
  obtain ⟨g1, g2, g3⟩ := hO2 n _ φ ha hn
  refine ⟨p, _, n, .ref as[n], rfl, rfl, .inl (.inl b2), atI_nat (by rw [List.getElem?_map, ha]; rfl), hk _ _ _ _ _ h ?_ hl⟩
  refine hh.cut.cut.put rfl ⟨as[n], rfl, fun z => g1 (z.elim .inl fun z => .inr (owns_sub (fun x hx => ?_) _ z)), g2, g3⟩
  rcases List.mem_append.mp hx with hx | hx
  · exact List.mem_append_left _ hx
  · exact List.mem_append_right _ (List.mem_cons_of_mem _ (List.mem_cons_of_mem _ hx))
end
end DL

namespace DL
open PySem PySem.Spec PyProof.Rows L2
def rSumT (K : PySem.W.Frag) : List V → Hp → VK → Prop := fun vs H Q => ∃ (a : Addr) (ns : List Int), vs = [V.ref a] ∧ SqT K H a (ns.map V.int) ∧ Q (.int ns.sum) H
theorem call_sumT {X : Cx} (hc : X.calm = true) : CallR X (.builtin "sum") (rSumT X.K) := by
  intro pins s σ H vs us Q I r h
  obtain ⟨a, ns, rfl, hs, q⟩ := h
  obtain ⟨its, rv, hl, _⟩ := I.tuple hs
  rw [Vals.ref1 r]
  have hi := rv.ints
  obtain ⟨xs, e⟩ := hi.allInts.items
  have hn : numsOf (intItems xs).toList = ns := by rw [← e]; exact hi.numsOf
  rw [nums_intItems] at hn
  have hl' : s.heap.IsTuple a (intItems xs) := by rw [← e]; exact hl
  refine PySem.W.ktm_sumG (I.ok.hd hc) hl' fun h' tk t' hk => ?_
  rw [preSum_eq, List.take_of_length_le (by simp), hn]
  exact ⟨.int _, H, I.kept hk, ⟨_, rfl⟩, q⟩
section
variable {X : Cx} {c : Cz} {e : Expr} {ρ : Env} {st : c.m.St} {pos : Pos} {k : Slot → Env → c.m.St → Prop} {K : PySem.W.Frag}
theorem dcall_sumT {ns : List Int} (h : k (.dat (.int ns.sum)) ρ st) : DCall K c (rSumT K) [.dat (.tuple (ns.map .int))] ρ st k := by
  intro τ σ H Q vs hlen hh hl hk
  obtain ⟨v, rfl⟩ := one_of hlen
  have h' : Here c.m K c.H0 (σ.zip ρ ++ (some v, .dat (.tuple (ns.map .int))) :: τ) st H := hh
  obtain ⟨_, q1⟩ := asD_seq h' (fun e he => List.mem_append_left _ he) hl (List.mem_append_right _ List.mem_cons_self) (.dat _)
  obtain ⟨p, xs, rfl, q3, q4⟩ := q1 _ rfl
  have := daI q4
  subst this
  exact ⟨p, ns, rfl, q3, hk _ _ _ _ _ h (h'.one (v := .int _) rfl) hl⟩
end
end DL

namespace DL
open PySem PySem.Spec PyProof.Rows L2
/-- list + list, whatever they are known by -/
def rCatD (K : PySem.W.Frag) : R2 := fun x y H Q => ∃ l b xs zs, x = .ref l ∧ y = .ref b ∧ SqL K H l xs ∧ SqL K H b zs ∧ xs.length + zs.length ≤ sizeLine ∧ ∀ p, H p = none → Q (.ref p) (upd H p (.lst (xs ++ zs)))
theorem op_catD {X : Cx} : OpR X (binaryOp .Add) (rCatD X.K) := by
  intro pins s σ H x y v u Q I rx ry h
  obtain ⟨l, b, xs, zs, rfl, rfl, h1, h2, hz, q⟩ := h
  cases rx
  cases ry
  obtain ⟨its, r, hl, _⟩ := I.list h1
  obtain ⟨its2, r2, hl2, _⟩ := I.list h2
  have hlen : its.length + its2.length ≤ sizeLine := by rw [← r.length, ← r2.length]; exact hz
  refine Sm.addL hl.isList hl2.isList (by rw [List.size_toArray, List.size_toArray]; exact hlen) ?_
  have ea : its.toArray ++ its2.toArray = (its ++ its2).toArray := by simp
  rw [ea]
  refine ⟨.ref _, _, I.laid (t' := s.toks) (o := .lst (xs ++ zs)) (fun b ob q => Heap.get?_push_of_some _ q) (Nat.le_refl _) ⟨by rw [List.length_append]; exact hz, _, 0, Vals.append r r2, Heap.get?_push_size _ rfl⟩, rfl, q _ (I.hok.fresh (Nat.le_refl _))⟩
section
variable {c : Cz} {ρ : Env} {st : c.m.St} {k : Slot → Env → c.m.St → Prop} {K : PySem.W.Frag} {s1 s2 : Slot}
theorem dop_catD {ds es : List PyData} (a1 : AsD ρ s1 (.list ds)) (a2 : AsD ρ s2 (.list es)) (hz : ds.length + es.length ≤ 16000000) (h : ∀ p, k (.own p (ds ++ es)) ρ st) : DOp K c (rCatD K) s1 s2 ρ st k := by
  intro τ σ H Q v1 v2 hh hl hk
  obtain ⟨q1, _⟩ := asD_seq hh (fun e he => List.mem_append_left _ he) hl (List.mem_append_right _ (List.mem_cons_of_mem _ List.mem_cons_self)) a1
  obtain ⟨q2, _⟩ := asD_seq hh (fun e he => List.mem_append_left _ he) hl (List.mem_append_right _ List.mem_cons_self) a2
  obtain ⟨p, xs, rfl, r1, d1⟩ := q1 ds rfl
  obtain ⟨p', ys, rfl, r2, d2⟩ := q2 es rfl
  exact ⟨p, p', xs, ys, rfl, rfl, r1, r2, by rw [d1.len, d2.len]; exact Nat.le_trans hz (by decide), fun l hl' => hk _ _ _ _ _ (h l) (hh.cut.cut.allocOwn hl' (((d1.app d2).move (wk_owns _)).move (wk_owns _))) hl⟩
end
end DL

/-! zip(a tuple, a list) -/
namespace DL
open PySem PySem.Spec PyProof.Rows L2
theorem dr_tupEnd {P : Program} {w : World} {A : Around} (hh : A.handled = none) (it t : Addr) (hne : t ≠ it) (us : Array Value) {i : Nat} (hi : us.size ≤ i) :
    Draws P w A it [it, t] i (fun _ _ => False) (fun j h => j = i ∧ h.IsTupleIter it t i ∧ h.IsTuple t us) where
  live := fun _ _ q => by
    obtain ⟨_, ⟨o, ho, _⟩, _⟩ := q
    exact ⟨o, ho⟩
  frame := fun _ _ _ q hk => ⟨q.1, q.2.1.at fun o e => hk it (by simp) o e, q.2.2.at fun o e => hk t (by simp) o e⟩
  item := fun j s Q E hj q _ => absurd hj (by rw [q.1]; exact Nat.lt_irrefl _)
  done := fun s Q E q hE => wpAny_nextOf_tuple_end hh q.2.1 q.2.2 (by simp; omega) hE
theorem dr_lstEnd {P : Program} {w : World} {A : Around} (hh : A.handled = none) (it t : Addr) (hne : t ≠ it) (us : Array Value) {i : Nat} (hi : us.size ≤ i) :
    Draws P w A it [it, t] i (fun _ _ => False) (fun j h => j = i ∧ h.IsListIter it t i ∧ h.IsList t us) where
  live := fun _ _ q => by
    obtain ⟨_, ⟨o, ho, _⟩, _⟩ := q
    exact ⟨o, ho⟩
  frame := fun _ _ _ q hk => ⟨q.1, q.2.1.at fun o e => hk it (by simp) o e, q.2.2.at fun o e => hk t (by simp) o e⟩
  item := fun j s Q E hj q _ => absurd hj (by rw [q.1]; exact Nat.lt_irrefl _)
  done := fun s Q E q hE => wpAny_nextOf_list_end hh q.2.1 q.2.2 (by simp; omega) hE
/-- a tuple and a list, drawn side by side into new pairs -/
def ItM (K : PySem.W.Frag) (a b : Addr) : It where
  go i H := ∃ (xs ys : List V) (x y : V), (SqT K H a xs ∧ SqL K H b ys) ∧ xs[i]? = some x ∧ ys[i]? = some y
  yld i H v H' := ∃ T x y, (v = .ref T ∧ H T = none) ∧ H' = upd H T (.tup [x, y]) ∧ (∀ l, SqT K H a l → l[i]? = some x) ∧ ∀ l, SqL K H b l → l[i]? = some y
  stop i H := ∃ xs ys : List V, (SqT K H a xs ∧ SqL K H b ys) ∧ (xs.length ≤ i ∨ ys.length ≤ i)
theorem turn_mix {P : Program} {w : World} {K : PySem.W.Frag} {es : List Expr} {kk : Nat} {tp : Pos} {a b z TI TO i1 i2 : Addr} (S : ZipSep2 z TI TO i1 i2 [i1, a] [i2, b]) (n1 : a ≠ i1) (n2 : b ≠ i2) :
    Turn P w K (.Tuple es kk tp) (ItM K a b) [z, TI, TO, i1, i2] z (fun i h => (IsZip h z TI TO .none ∧ IsTupOf2 h TI (.ref i1) (.ref i2)) ∧ (∃ x y, IsTupOf2 h TO x y) ∧ h.IsTupleIter i1 a i ∧ h.IsListIter i2 b i) where
  mem := List.mem_cons_self
  obj i h st c hc := by
    obtain ⟨⟨g1, g2⟩, ⟨x, y, g3⟩, ⟨o1, e1, _, d1⟩, ⟨o2, e2, _, d2⟩⟩ := st
    have q : c = z ∨ c = TI ∨ c = TO ∨ c = i1 ∨ c = i2 := by simpa using hc
    rcases q with rfl | rfl | rfl | rfl | rfl
    · exact ⟨_, g1, fun _ q => nomatch q⟩
    · exact ⟨_, g2, fun _ q => nomatch q⟩
    · exact ⟨_, g3, fun _ q => nomatch q⟩
    · exact ⟨_, e1, fun _ q => by rw [d1] at q; cases q⟩
    · exact ⟨_, e2, fun _ q => by rw [d2] at q; cases q⟩
  keep i h h' st k := by
    obtain ⟨⟨g1, g2⟩, ⟨x, y, g3⟩, g4, g5⟩ := st
    have kk : ∀ c, c ∈ [z, TI, TO, i1, i2] → ∀ o, h.get? c = some o → h'.get? c = some o := k
    exact ⟨⟨kk z (by simp) _ g1, kk TI (by simp) _ g2⟩, ⟨x, y, kk TO (by simp) _ g3⟩, g4.at fun o q => kk i1 (by simp) o q, g5.at fun o q => kk i2 (by simp) o q⟩
  item X eP ew eK hc i pins s σ H E I hf st hg := by
    subst eP ew eK
    obtain ⟨⟨g1, g2⟩, ⟨a1, a2, g3⟩, g4, g5⟩ := st
    obtain ⟨xs, ys, x, y, ⟨sx, sy⟩, ex, ey⟩ := hg
    obtain ⟨us, ru, pu, _⟩ := I.tuple sx
    obtain ⟨ws, rw', pw, _⟩ := I.list sy
    obtain ⟨u, hu, r1⟩ := ru.get ex
    obtain ⟨v, hv, r2⟩ := rw'.get ey
    have hd : X.A.in1.handled = none := I.ok.hd hc
    have lu : i < us.toArray.size := by simpa using (List.getElem?_eq_some_iff.mp hu).1
    have lv : i < ws.toArray.size := by simpa using (List.getElem?_eq_some_iff.mp hv).1
    refine wpAny_pyNext_zipD2_item S (Draws.tuple hd i1 a n1 us.toArray) (Draws.list hd i2 b n2 ws.toArray) g1 g2 g3 ⟨g4, pu⟩ ⟨g5, pw.isList⟩ lu lv ?_
    intro x1 x2 h' tk q1 q2 z' TO' s1' s2' hT hsz hk
    have ex1 : x1 = u := by
      have q1 : us.toArray[i]? = some x1 := q1
      rw [List.getElem?_toArray, hu] at q1
      exact (Option.some.inj q1).symm
    have ex2 : x2 = v := by
      have q2 : ws.toArray[i]? = some x2 := q2
      rw [List.getElem?_toArray, hv] at q2
      exact (Option.some.inj q2).symm
    subst ex1 ex2
    refine ⟨_, rfl, wpAny_letOwnedTupleGo_zip (s := { s with heap := h', toks := tk }) z' fun h2 z2 sb => ?_⟩
    have zl : z < s.heap.objs.size := Heap.lt_size g1
    have up : ∀ c o, c ≠ z → h'.get? c = some o → h2.get? c = some o := fun c o q e => (sb.2 c q).trans e
    have hT2 := up _ _ (Nat.ne_of_gt zl) hT
    have new : ObjOk X.prog X.w (upd H s.heap.objs.size (.tup [x, y])) h2 s.heap.objs.size (.tup [x, y]) :=
      ⟨show 2 ≤ sizeLine by decide, [x1, x2], .cons r1 (.cons r2 .nil), ⟨_, hT2, rfl, _, rfl⟩⟩
    have keep : ∀ c o, c ∉ [z, TI, TO, i1, i2] → s.heap.get? c = some o → h2.get? c = some o := fun c o hb q => by
      have q5 : c ≠ z ∧ c ≠ TI ∧ c ≠ TO ∧ c ≠ i1 ∧ c ≠ i2 := by simpa using hb
      exact up c o q5.1 (hk c o q5.1 q5.2.2.1 q5.2.2.2.1 q5.2.2.2.2 q)
    have I2 : Inv X pins σ (upd H s.heap.objs.size (.tup [x, y])) { s with heap := h2, toks := tk } := I.turnedNew (t' := tk) (ch := [z, TI, TO, i1, i2]) keep hf (Nat.le_refl _) new
    refine ⟨.ref s.heap.objs.size, _, I2, rfl, ⟨_, x, y, ⟨rfl, I.hok.fresh (Nat.le_refl _)⟩, rfl, fun l hl => by rw [I.tuple_inj hl sx]; exact ex, fun l hl => by rw [I.list_inj hl sy]; exact ey⟩, ⟨⟨z2, up _ _ S.TIz (hk _ _ S.TIz S.TITO S.TIi1 S.TIi2 g2)⟩, ⟨_, _, up _ _ S.TOz TO'⟩, s1'.1.at fun o q => up _ o S.zi1.symm q, s2'.1.at fun o q => up _ o S.zi2.symm q⟩, fun c hcm => ?_⟩
    have lt : c < s.heap.objs.size := by
      have q : c = z ∨ c = TI ∨ c = TO ∨ c = i1 ∨ c = i2 := by simpa using hcm
      rcases q with rfl | rfl | rfl | rfl | rfl
      · exact zl
      · exact Heap.lt_size g2
      · exact Heap.lt_size g3
      · obtain ⟨_, e, _⟩ := g4; exact Heap.lt_size e
      · obtain ⟨_, e, _⟩ := g5; exact Heap.lt_size e
    rw [upd_ne (Nat.ne_of_lt lt)]
    exact (hf c hcm).1
  done X eP ew eK hc i pins s σ H E I hf st hg := by
    subst eP ew eK
    obtain ⟨⟨g1, g2⟩, ⟨a1, a2, g3⟩, g4, g5⟩ := st
    obtain ⟨xs, ys, ⟨sx, sy⟩, he⟩ := hg
    obtain ⟨us, ru, pu, _⟩ := I.tuple sx
    obtain ⟨ws, rw', pw, _⟩ := I.list sy
    have l1 := ru.length
    have l2 := rw'.length
    have hd : X.A.in1.handled = none := I.ok.hd hc
    have fin : ∀ (h' : Heap) (tk : Nat), (∀ c o, c ≠ z → c ≠ TO → c ≠ i1 → c ≠ i2 → s.heap.get? c = some o → h'.get? c = some o) → (none : Option Value) = none ∧ Inv X pins σ H { s with heap := h', toks := tk } := fun h' tk hk =>
      ⟨rfl, I.turnedL (t' := tk) (ch := [z, TI, TO, i1, i2]) (fun c o hb q => by
        have q5 : c ≠ z ∧ c ≠ TI ∧ c ≠ TO ∧ c ≠ i1 ∧ c ≠ i2 := by simpa using hb
        exact hk c o q5.1 q5.2.2.1 q5.2.2.2.1 q5.2.2.2.2 q) hf⟩
    by_cases c1 : us.toArray.size ≤ i
    · by_cases c2 : ws.toArray.size ≤ i
      · exact wpAny_pyNext_zipD2_end S (dr_tupEnd hd i1 a n1 us.toArray c1) (dr_lstEnd hd i2 b n2 ws.toArray c2) g1 g2 g3 ⟨rfl, g4, pu⟩ ⟨rfl, g5, pw.isList⟩ (Nat.le_refl _) (Nat.le_refl _) (.inl rfl) fin
      · exact wpAny_pyNext_zipD2_end S (dr_tupEnd hd i1 a n1 us.toArray c1) (Draws.list hd i2 b n2 ws.toArray) g1 g2 g3 ⟨rfl, g4, pu⟩ ⟨g5, pw.isList⟩ (Nat.le_refl _) (by omega) (.inl rfl) fin
    · have c2 : ws.toArray.size ≤ i := by
        simp at c1 ⊢
        omega
      exact wpAny_pyNext_zipD2_end S (Draws.tuple hd i1 a n1 us.toArray) (dr_lstEnd hd i2 b n2 ws.toArray c2) g1 g2 g3 ⟨g4, pu⟩ ⟨rfl, g5, pw.isList⟩ (by omega) (Nat.le_refl _) (.inr rfl) fin
  self A i s Q E st h := wpAny_pyIter_zip st.1.1 h
def iMix (K : PySem.W.Frag) (ta : TA) : TI := fun σ H R => ta σ H fun vs H1 => ∃ a b xs ys, vs = [.ref a, .ref b] ∧ (SqT K H1 a xs ∧ SqL K H1 b ys) ∧ R (ItM K a b) H1
theorem pi_mix {X : Cx} {e f : Expr} {ta : TA} {p pos tp : Pos} {es : List Expr} {kk : Nat} (hg : Gl X "zip") (hm : X.mg "zip" = none) (ha : PA X [e, f] ta)
    (hs : starEach [e, f] X.env = (false, eval e X.env) :: starEach [f] X.env := by rfl) (hq : (backTo pos (starEach [f] X.env)).any (·.1) = false := by rfl) : PI X (.Tuple es kk tp) (.Call (.Name "zip" p) [e, f] [] pos) (iMix X.K ta) := by
  constructor
  intro pins s σ H R I h
  refine Call_ (ld_blt I hg hm boot_zip (callWith_type1 (thn (ha.run pos pins s σ H _ I h) fun us s1 ⟨vs, H1, I1, r1, q1⟩ => ?_) hs hq))
  obtain ⟨a, b, xs, ys, rfl, ⟨sx, sy⟩, q⟩ := q1
  obtain ⟨u1, u2, rfl, t1, t2⟩ : ∃ u1 u2, us = [u1, u2] ∧ RelV (.ref a) u1 ∧ RelV (.ref b) u2 := by
    cases r1 with
    | cons r rr =>
      cases rr with
      | cons r' r3 =>
        cases r3
        exact ⟨_, _, rfl, r, r'⟩
  cases t1
  cases t2
  obtain ⟨us, ru, pu, _⟩ := I1.tuple sx
  obtain ⟨ws, rw', pw, _⟩ := I1.list sy
  obtain ⟨o1, ho1, _⟩ := id pu
  have la : a < s1.heap.objs.size := Heap.lt_size ho1
  have lb : b < s1.heap.objs.size := pw.lt
  refine zip_begins2 (begins_tuple a us.toArray) (begins_list b ws.toArray) pu pw.isList fun h' hz hTI hTO h1 h2 hsz hk => wpAny_pyIter_zip hz ?_
  have I2 : Inv X pins σ H1 { s1 with heap := h' } := I1.kept (t' := s1.toks) hk
  refine ⟨_, [s1.heap.objs.size + 4, s1.heap.objs.size + 2, s1.heap.objs.size + 3, s1.heap.objs.size, s1.heap.objs.size + 1], _, ItM X.K a b, H1, rfl, I2, turn_mix (zip_sep2 (fun x hx => by rw [List.mem_singleton.mp hx]; exact la) (fun x hx => by rw [List.mem_singleton.mp hx]; exact lb)) (Nat.ne_of_lt la) (Nat.ne_of_lt (Nat.lt_succ_of_lt lb)), ⟨⟨hz, hTI⟩, ⟨_, _, hTO⟩, ⟨_, h1, rfl, rfl⟩, ⟨_, h2, rfl, rfl⟩⟩, fun c hcm => ?_, q⟩
  have hle : s1.heap.objs.size ≤ c := by
    have q : c = s1.heap.objs.size + 4 ∨ c = s1.heap.objs.size + 2 ∨ c = s1.heap.objs.size + 3 ∨ c = s1.heap.objs.size ∨ c = s1.heap.objs.size + 1 := by simpa using hcm
    rcases q with q | q | q | q | q <;> rw [q] <;> first | exact Nat.le_refl _ | exact Nat.le_add_right _ _
  exact I1.fpOk hle (I1.hok.fresh hle)
section
variable {X : Cx} {c : Cz} {a b : Expr} {ρ : Env} {st : c.m.St} {pos : Pos}
theorem di_zipM {elts : List Expr} {kk : Nat} {tpos p : Pos} {ki : List PyData → Env → c.m.St → Prop} (hm : X.mg "zip" = none)
    (h : DE X c a ρ st fun s1 ρ1 st1 => DE X c b ρ1 st1 fun s2 ρ2 st2 => ∃ ds es, s1 = .dat (.tuple ds) ∧ s2 = .dat (.list es) ∧ ki (zipD ds es) ρ2 st2) (hg : Gl X "zip" := by rfl)
    (hs : starEach [a, b] X.env = (false, eval a X.env) :: starEach [b] X.env := by rfl) (hs0 : starEach [b] X.env = (false, eval b X.env) :: starEach [] X.env := by rfl) (hpl : (backTo pos (starEach [b] X.env)).any (·.1) = false := by rfl) :
    DI X c (.Tuple elts kk tpos) (.Call (.Name "zip" p) [a, b] [] pos) ρ st ki := by
  intro τ σ H R hh hl hk hx
  refine wi_of (pi_mix hg hm (pa_cons pe_w (pa_cons pe_w pa_nil hs0) hs) hs hpl) ?_
  refine h τ σ H _ hh hl (fun s1 ρ1 st1 v1 H1 h1 hh1 hl1 => ?_) hx
  refine h1 _ σ H1 _ hh1 hl1 (fun s2 ρ2 st2 v2 H2 h2 hh2 hl2 => ?_) hx
  obtain ⟨ds, es, rfl, rfl, q⟩ := h2
  have get : ∀ (A B : List Ent) (st : c.m.St) (H : Hp), Here c.m X.K c.H0 (A ++ ([(some v2, .dat (.list es)), (some v1, .dat (.tuple ds))] ++ B)) st H → ∃ p1 p2 xs ys, v1 = .ref p1 ∧ v2 = .ref p2 ∧ SqT X.K H p1 xs ∧ SqL X.K H p2 ys ∧ DaAll (fun a => c.m.N a ∨ a ∈ owns (A ++ ([(some v2, .dat (.list es)), (some v1, .dat (.tuple ds))] ++ B))) X.K H xs ds ∧ DaAll (fun a => c.m.N a ∨ a ∈ owns (A ++ ([(some v2, .dat (.list es)), (some v1, .dat (.tuple ds))] ++ B))) X.K H ys es := fun A B st H hh => by
    obtain ⟨w1, e1, d1⟩ := hh.dat (List.mem_append_right _ (List.mem_cons_of_mem _ List.mem_cons_self))
    obtain ⟨w2, e2, d2⟩ := hh.dat (List.mem_append_right _ List.mem_cons_self)
    cases e1
    cases e2
    cases d1 with
    | tup r1 q1 =>
      cases d2 with
      | lst r2 q2 => exact ⟨_, _, _, _, rfl, rfl, r1.sq, r2.sq, q1, q2⟩
  obtain ⟨p1, p2, xs0, ys0, rfl, rfl, r1, r2, _, _⟩ := get (σ.zip ρ2) τ st2 H2 hh2
  refine ⟨p1, p2, xs0, ys0, rfl, ⟨r1, r2⟩, hk (zipD ds es) ρ2 st2 _ [(some (.ref p2), .dat (.list es)), (some (.ref p1), .dat (.tuple ds))] _ q (fun A B st H hh i => ?_) hh2 hl2⟩
  obtain ⟨_, _, xs, ys, e1, e2, g1, g2, d1, d2⟩ := get A B st H hh
  cases e1
  cases e2
  refine ⟨fun hle => ⟨xs, ys, ⟨g1, g2⟩, ?_⟩, fun d hd => ?_⟩
  · rw [zipD_len] at hle
    rw [d1.len, d2.len]
    omega
  · obtain ⟨x, y, hx1, hy1, rfl⟩ := zipD_get hd
    obtain ⟨u1, hu1, du1⟩ := d1.get hx1
    obtain ⟨u2, hu2, du2⟩ := d2.get hy1
    refine ⟨⟨xs, ys, u1, u2, ⟨g1, g2⟩, hu1, hu2⟩, fun z H' hz => ?_⟩
    obtain ⟨T, z1, z2, ⟨rfl, hT⟩, rfl, f1, f2⟩ := hz
    have ez1 : z1 = u1 := Option.some.inj ((f1 _ g1).symm.trans hu1)
    have ez2 : z2 = u2 := Option.some.inj ((f2 _ g2).symm.trans hu2)
    subst ez1 ez2
    exact hh.newTup hT (.cons du1 (.cons du2 .nil))
end
end DL

namespace DL
open PySem PySem.Spec PyProof.Rows L2 LamX
/-! ### what the top has written -/
section
variable {K : PySem.W.Frag} {h : Heap} {mg : Str → Option Value}
theorem df_mk {x : Str} {s : Stmt} {ps : List Str} {f : Addr} {oc : Value} {od an : Option Addr} {osl : Array (Option Value)} {kV doc pm cdv ct : Value} (X : K.In h) (G : h.Ns mainGlobals mg)
    (hb : ∀ (kV doc pm : Value) (an : Option Addr) (cdv ct : Value) (us : List Value), us.length = ps.length → bindArgs (PySem.W.fnOf x x (defArgs s) (defBody s) (defScope s) .none kV doc pm an cdv ct) ⟨us, []⟩ = pure (ps.zip us))
    (a : PySem.W.nsIn K mainGlobals x = some (some (.ref f))) (l : K.lookup f = some ⟨oc, od, .func (PySem.W.fnOf x x (defArgs s) (defBody s) (defScope s) .none kV doc pm an cdv ct), osl⟩) (c : PySem.W.codeIn K cdv x = true) (k : PySem.W.keepIn K (.ref f) = true) : Df K mg x s ps :=
  ⟨f, _, fun_mk l c k, PySem.W.mg_of X G a, (fun_mk l c k).binds hb⟩
theorem dfC_mk {x : Str} {s : Stmt} {ps : List Str} {f c0 : Addr} {oc : Value} {od an : Option Addr} {osl : Array (Option Value)} {kV doc pm ct : Value} (X : K.In h) (G : h.Ns mainGlobals mg)
    (hb : ∀ (kV doc pm : Value) (an : Option Addr) (cdv ct : Value) (us : List Value), us.length = ps.length → bindArgs (PySem.W.fnOf x x (defArgs s) (defBody s) (defScope s) .none kV doc pm an cdv ct) ⟨us, []⟩ = pure (ps.zip us))
    (a : PySem.W.nsIn K mainGlobals x = some (some (.ref f))) (l : K.lookup f = some ⟨oc, od, .func (PySem.W.fnOf x x (defArgs s) (defBody s) (defScope s) .none kV doc pm an (.ref c0) ct), osl⟩) (c : PySem.W.codeIn K (.ref c0) x = true) (k : PySem.W.keepIn K (.ref f) = true) : DfC K mg x s ps c0 :=
  ⟨f, _, _, _, _, _, _, _, _, l, c, k, PySem.W.mg_of X G a, (fun_mk l c k).binds hb⟩
theorem cau_mk {s : Stmt} {f CS : Addr} {oc : Value} {od an : Option Addr} {osl : Array (Option Value)} {kV doc pm cdv ct : Value} (X : K.In h) (G : h.Ns mainGlobals mg)
    (hb : ∀ (kV doc pm : Value) (an : Option Addr) (cdv ct : Value) (us : List Value), us.length = (["work"] : List Str).length → bindArgs (PySem.W.fnOf "_law_caught" "_law_caught" (defArgs s) (defBody s) (defScope s) .none kV doc pm an cdv ct) ⟨us, []⟩ = pure ((["work"] : List Str).zip us))
    (a : PySem.W.nsIn K mainGlobals "_law_caught" = some (some (.ref f))) (l : K.lookup f = some ⟨oc, od, .func (PySem.W.fnOf "_law_caught" "_law_caught" (defArgs s) (defBody s) (defScope s) .none kV doc pm an cdv ct), osl⟩) (c : PySem.W.codeIn K cdv "_law_caught" = true) (k : PySem.W.keepIn K (.ref f) = true)
    (e : PySem.W.nsIn K mainGlobals "ShapeError" = some (some (.ref CS))) : CauF K mg s CS :=
  ⟨⟨f, _, _, _, _, _, _, _, _, _, l, c, k, PySem.W.mg_of X G a, (fun_mk l c k).binds hb⟩, PySem.W.mg_of X G e⟩
theorem code_mk {c P : Addr} {dd : Option Addr} {vs : Array Value} {sl : Array (Option Value)} (X : K.In h) (l : K.lookup c = some ⟨.type "code", dd, .fields vs, sl⟩) (e11 : (vs[11]? : Option Value) = some (.ref P))
    (r1 : (match vs.getD 18 .none with | .str _ _ => true | _ => false) = true) (r2 : (match vs.getD 7 .none with | .int _ _ => true | _ => false) = true) (r3 : (match vs.getD 9 .none with | .bool _ => true | _ => false) = true) (r4 : (match vs.getD 10 .none with | .int _ _ => true | _ => false) = true) (ne : (c != P) = true)
    (t : h.get? P = some { cls := .none, data := .fields #[] }) : PySem.W.CodeHd h c P ∧ h.get? P = some { cls := .none, data := .fields #[] } := by
  refine ⟨PySem.W.codeHd_of_K X ?_, t⟩
  unfold PySem.W.codeHdIn
  rw [l]
  show ((match (vs[11]? : Option Value) with | some (.ref P') => P' == P | _ => false) && _ && _ && _ && _ && _) = true
  rw [e11]
  show ((P == P) && _ && _ && _ && _ && _) = true
  rw [Bool.and_eq_true, Bool.and_eq_true, Bool.and_eq_true, Bool.and_eq_true, Bool.and_eq_true]
  exact ⟨⟨⟨⟨⟨by simp, r1⟩, r2⟩, r3⟩, r4⟩, ne⟩
/-- what is asked of the base of the errors -/
structure BaseC (K : PySem.W.Frag) (CS : Addr) : Prop where
  sub : PySem.W.subIn K (.ref CS) (.type "BaseException") = some true
  hd : PySem.W.hasDictIn K CS = true
  ty : PySem.W.typeIn K (.ref CS) = some (.type "type")
theorem err_mk {x : Str} {C CS : Addr} (X : K.In h) (G : h.Ns mainGlobals mg) (B : BaseC K CS) (a : PySem.W.nsIn K mainGlobals x = some (some (.ref C)))
    (q : PySem.W.excIn K C [.type "ValueError", .type "Exception", .type "BaseException", .type "object"] "ValueError.__new__" = true) (k : PySem.W.keepIn K (.ref C) = true) (ty : PySem.W.typeIn K (.ref C) = some (.type "type")) (sC : PySem.W.subIn K (.ref C) (.ref CS) = some true)
    (hg : PySem.W.findIn K (.ref C) "__getattribute__" = some (some (.builtin "BaseException.__getattribute__"))) (hk : PySem.W.findIn K (.ref C) "__getattr__" = some none) (hs : PySem.W.subIn K (.ref C) (.type "BaseException") = some true) (hd : PySem.W.hasDictIn K C = true)
    (ha : PySem.W.findIn K (.ref C) "__class__" = some (some (.builtin "object.__class__"))) (hn : PySem.W.specialIn K (.builtin "object.__class__") "__get__" = some (some (.builtin "getset_descriptor.__get__"))) (ht : PySem.W.takesIn K (.builtin "object.__class__") = some true) (hm : PySem.W.mroIn K C (.type "object") = some true) : ErrC K mg x C CS :=
  ⟨q, PySem.W.mg_of X G a, k, hs, ty, PySem.W.exm_ref B.sub B.hd B.ty sC, ⟨hg, hk, hs, hd, ha, hn, ht, hm⟩⟩
end
end DL

namespace LH
open PySem PySem.Spec PyProof.Rows L2 DL
def topS (i : Nat) : Stmt := PySem.Challenge.pw_carryshapes_k33_whole_ladders_judged.main.body.getD i (.Pass ⟨0, 0, 0, 0⟩)
abbrev sBegun : Stmt := topS 22
abbrev sMixed : Stmt := topS 23
abbrev sTake : Stmt := topS 24
abbrev sPick : Stmt := topS 25
abbrev sCaught : Stmt := topS 27
abbrev sKinds : Stmt := topS 28
abbrev sSays : Stmt := topS 29
theorem scMixed : FnScope ["draw", "lap", "found", "great", "blend", "cell"] ["draw"] (defScope sMixed) := ⟨rfl, rfl, rfl, by decide +kernel, rfl, by decide +kernel, by decide +kernel⟩
theorem scTake : FnScope ["draw", "amount", "found"] ["draw", "amount"] (defScope sTake) := ⟨rfl, rfl, rfl, by decide +kernel, rfl, by decide +kernel, by decide +kernel⟩
theorem scPick : FnScope ["draw", "some"] ["draw", "some"] (defScope sPick) := ⟨rfl, rfl, rfl, by decide +kernel, rfl, by decide +kernel, by decide +kernel⟩
theorem scKinds : FnScope ["thing", "found", "line", "here", "kind", "named"] ["thing"] (defScope sKinds) := ⟨rfl, rfl, rfl, by decide +kernel, rfl, by decide +kernel, by decide +kernel⟩
theorem scSays : FnScope ["told", "due"] ["told", "due"] (defScope sSays) := ⟨rfl, rfl, rfl, by decide +kernel, rfl, by decide +kernel, by decide +kernel⟩
/-! ### kinds of plain data -/
mutual
def szD : PyData → Nat
  | .list xs => szA xs + 1
  | .tuple xs => szA xs + 1
  | .dict _ => 1
  | .none => 1
  | .bool _ => 1
  | .int _ => 1
  | .str _ => 1
def szA : List PyData → Nat
  | [] => 0
  | x :: xs => szD x + szA xs
end
theorem szA_app : ∀ xs ys : List PyData, szA (xs ++ ys) = szA xs + szA ys
  | [], ys => by simp [szA]
  | x :: xs, ys => by
    show szD x + szA (xs ++ ys) = szD x + szA xs + szA ys
    rw [szA_app xs ys, Nat.add_assoc]
theorem szD_pos (d : PyData) : 0 < szD d := by cases d <;> simp [szD]
def kidsD : PyData → List PyData
  | .list xs => xs
  | .tuple xs => xs
  | _ => []
theorem sz_kids (d : PyData) : szD d = szA (kidsD d) + 1 := by cases d <;> simp [szD, kidsD, szA]
def kindD (d : PyData) : Str := if ofTuple d then "tuple" else if ofList d then "list" else if ofDict d then "dict" else if ofBool d then "bool" else "other"
def kindsL : Nat → List PyData → List PyData → List PyData
  | 0, _, f => f
  | n + 1, line, f => match line.getLast? with
    | some h => kindsL n (line.dropLast ++ kidsD h) (f ++ [.str (kindD h)])
    | none => f
/-- what the reading of kinds may walk through -/
def okD (d : PyData) : Prop := d.canLay0 = true ∧ d.depth ≤ 60
theorem canAll_iff : ∀ {xs : List PyData}, PyData.canLayAll0 xs = true ↔ ∀ x ∈ xs, x.canLay0 = true
  | [] => by simp [PyData.canLayAll0]
  | x :: xs => by rw [PyData.canLayAll0, Bool.and_eq_true, canAll_iff]; simp
theorem depthAll_le : ∀ {xs : List PyData} {n : Nat}, PyData.depthAll xs ≤ n ↔ ∀ x ∈ xs, x.depth ≤ n
  | [], n => by simp [PyData.depthAll]
  | x :: xs, n => by rw [PyData.depthAll, Nat.max_le, depthAll_le]; simp
theorem ok_kids {d : PyData} (h : okD d) : ∀ x ∈ kidsD d, okD x := by
  obtain ⟨h1, h2⟩ := h
  cases d with
  | list xs =>
    rw [PyData.canLay0] at h1
    rw [PyData.depth] at h2
    exact fun x hx => ⟨canAll_iff.mp h1 x hx, depthAll_le.mp (show PyData.depthAll xs ≤ 60 by omega) x hx⟩
  | tuple xs =>
    rw [PyData.canLay0] at h1
    rw [PyData.depth] at h2
    exact fun x hx => ⟨canAll_iff.mp h1 x hx, depthAll_le.mp (show PyData.depthAll xs ≤ 60 by omega) x hx⟩
  | _ => exact fun x hx => (nomatch hx)
theorem shaped_list {xs : List PyData} (h : ∀ x ∈ xs, okD x) : SeqAt.shaped (.list xs) = true := by
  unfold SeqAt.shaped
  rw [Bool.and_eq_true]
  refine ⟨by rw [PyData.canLay0]; exact canAll_iff.mpr fun x hx => (h x hx).1, decide_eq_true ?_⟩
  rw [PyData.depth]
  have := depthAll_le.mpr fun x hx => (h x hx).2
  omega
theorem shaped_ok {d : PyData} (h : okD d) : SeqAt.shaped d = true := by
  unfold SeqAt.shaped
  rw [Bool.and_eq_true]
  exact ⟨h.1, decide_eq_true (by have := h.2; omega)⟩
theorem kind_in (d : PyData) : inD (.str (kindD d)) [.str "tuple", .str "list"] = (ofTuple d || ofList d) := by cases d <;> rfl
theorem kind_dict (d : PyData) : decide (V.str (kindD d) = V.str "dict") = ofDict d := by cases d <;> first | exact decide_eq_true rfl | exact decide_eq_false (by intro z; cases z)
theorem ok_kind (d : PyData) : okD (.str (kindD d)) := ⟨by cases d <;> first | (show PyData.strOk (Str.ofString "tuple") = true; decide +kernel) | (show PyData.strOk (Str.ofString "list") = true; decide +kernel) | (show PyData.strOk (Str.ofString "dict") = true; decide +kernel) | (show PyData.strOk (Str.ofString "bool") = true; decide +kernel) | (show PyData.strOk (Str.ofString "other") = true; decide +kernel), by simp [PyData.depth]⟩
theorem no_dict {d : PyData} (h : okD d) : ofDict d = false := by
  cases d with
  | dict _ => have := h.1; simp [PyData.canLay0] at this
  | _ => rfl
mutual
theorem eqv_can : ∀ d : PyData, d.canLay0 = true → PyData.eqv d d = true
  | .none, _ => rfl
  | .bool b, _ => by rw [PyData.eqv]; exact beq_self_eq_true b
  | .int i, _ => by rw [PyData.eqv]; exact beq_self_eq_true i
  | .str x, _ => by rw [PyData.eqv]; exact beq_self_eq_true x
  | .list xs, h => by rw [PyData.eqv]; exact eqvA_can xs (by simpa [PyData.canLay0] using h)
  | .tuple xs, h => by rw [PyData.eqv]; exact eqvA_can xs (by simpa [PyData.canLay0] using h)
  | .dict _, h => by simp [PyData.canLay0] at h
theorem eqvA_can : ∀ xs : List PyData, PyData.canLayAll0 xs = true → PyData.eqvAll xs xs = true
  | [], _ => rfl
  | x :: xs, h => by
    rw [PyData.canLayAll0, Bool.and_eq_true] at h
    rw [PyData.eqvAll, eqv_can x h.1, eqvA_can xs h.2]
    rfl
end
theorem eqv_same {d : PyData} (h : okD d) : PyData.eqv d d = true := eqv_can d h.1
theorem kids_seq {d : PyData} (h : (ofTuple d || ofList d) = true) : SeqD d (kidsD d) := by
  cases d with
  | list xs => exact .lst xs
  | tuple xs => exact .tup xs
  | _ => cases h
theorem kids_no {d : PyData} (h : (ofTuple d || ofList d) = false) : kidsD d = [] := by cases d <;> first | rfl | cases h
theorem kindsL_ok : ∀ (n : Nat) (l f : List PyData), (∀ x ∈ f, okD x) → ∀ x ∈ kindsL n l f, okD x
  | 0, _, f, h => h
  | n + 1, l, f, h => by
    unfold kindsL
    cases l.getLast? with
    | none => exact h
    | some d => exact kindsL_ok n _ _ fun x hx => (List.mem_append.mp hx).elim (h x) fun hx => by rw [List.mem_singleton.mp hx]; exact ok_kind d
theorem kinds_step {n : Nat} {l f : List PyData} {d : PyData} : kindsL (n + 1) (l ++ [d]) f = kindsL n (l ++ kidsD d) (f ++ [.str (kindD d)]) := by
  rw [kindsL, List.getLast?_append]
  simp
section
variable {P : Program} {w : World} {K : PySem.W.Frag} {mg : Str → Option Value} {base : Heap}
def fMixed : Pd := fun m ss st k xk => ∃ (dr la ca : Addr) (cs : List Int) (hd : HasDraw m dr la ca cs), ss = [.raw (.ref dr)] ∧ ∀ (z : Int) (st' : m.St), k (.dat (.int z)) st'
theorem ok_mixed (D : Df K mg "_law_mixed" sMixed ["draw"]) (m1 : mg "int" = none) : Cal P w K mg base "_law_mixed" sMixed ["draw"] 1 fMixed := by
  refine cal_of D scMixed (by rintro _ _ _ _ _ ⟨_, _, _, _, _, rfl, _⟩; rfl) fun f cdv A outer s1 H E c hr tk hp ss st k h => ?_
  obtain ⟨dr, la, ca, cs, hd, rfl, h⟩ := h
  have hu := hr.units
  refine db_cons (dr_put (upd' := fun d z => { d with turn := z }) hd (by omega) (fun d z => ⟨put_turn, rfl⟩) (i := 0) <| de_bin op_add <| dr_get hd (by omega) (i := 0) rfl val_turn (.inl ⟨_, rfl, rfl⟩) <| de_int <| dop_I0 rfl ⟨_, rfl, rfl, ?_⟩)
  refine db_cons (dpar 1 2 scMixed.nd (by rfl) <| de_callTy call_int1 (by rfl) m1 boot_int <| da_cons <| dr_get hd (by omega) (i := 0) rfl val_turn (.inl ⟨_, rfl, rfl⟩) <| da_nil <| dcall_int <| de_int ?_)
  refine db_cons (ds_for hp rfl <| di_list <| de_lst <| da_cons <| de_int <| da_cons <| de_int <| da_cons <| de_int <| da_nil ?_)
  refine ⟨_, .dat (.dat (.dat .nil)), by decide, fun p => .inr ⟨p, _, rfl, fun i ρ st' => ∃ (l z : Int) (s3 s4 s5 : Slot), ρ = [.raw (.ref dr), .dat (.int l), .dat (.int z), s3, s4, s5], ⟨_, _, _, _, _, rfl⟩, ?_, ?_⟩⟩
  · rintro i d ρ st' hi ⟨l, z, s3, s4, s5, rfl⟩
    obtain ⟨g, rfl, hg1, hg2⟩ : ∃ g : Int, d = .int g ∧ 0 < g ∧ g < 2 ^ 32 := by
      match i, hi with
      | 0, hi => cases hi; exact ⟨_, rfl, by decide, by decide⟩
      | 1, hi => cases hi; exact ⟨_, rfl, by decide, by decide⟩
      | 2, hi => cases hi; exact ⟨_, rfl, by decide, by decide⟩
      | n + 3, hi => simp at hi
    refine dgn 3 scMixed.nd ?_
    refine db_cons (dset 4 scMixed.nd <| de_bin op_mod <| de_bin op_add <| de_bin op_mul <| dv 1 <| de_int <| dop_I rfl (.inr (by decide)) <| de_bin op_fdiv <| dv 3 <| de_int <| dop_I rfl ⟨by decide, by decide⟩ <| dop_I0 rfl <| dv 3 <| dop_I rfl hg1 ?_)
    refine db_cons (ds_for hp rfl <| di_cells hd <| dr_get hd (by omega) (i := 0) rfl val_cells (.inr rfl) ⟨rfl, fun i ρ st' => ∃ (b : Int) (s5 : Slot), 0 ≤ b ∧ b < g ∧ ρ = [.raw (.ref dr), .dat (.int l), .dat (.int z), .dat (.int g), .dat (.int b), s5], ⟨_, _, Int.emod_nonneg _ (by omega), Int.emod_lt_of_pos _ hg1, rfl⟩, ?_, ?_⟩)
    · rintro i d ρ st' hi ⟨b, s5, hb1, hb2, rfl⟩
      obtain ⟨x, rfl⟩ : ∃ x : Int, d = .int x := by
        rw [List.getElem?_map] at hi
        cases e : cs[i]? with
        | none => rw [e] at hi; cases hi
        | some x => rw [e] at hi; cases hi; exact ⟨x, rfl⟩
      refine dgn 5 scMixed.nd ?_
      refine db_one (dset 4 scMixed.nd <| de_bin op_mod <| de_bin op_add <| de_bin op_add <| de_bin op_mul <| dv 4 <| de_int <| dop_I rfl (.inr (by decide)) <| de_callTy call_int1 (by rfl) m1 boot_int <| da_cons <| dv 5 <| da_nil <| dcall_int <| dop_I0 rfl <| dv 1 <| dop_I0 rfl <| dv 3 <| dop_I rfl hg1 ?_)
      exact ⟨_, _, Int.emod_nonneg _ (by omega), Int.emod_lt_of_pos _ hg1, rfl⟩
    · rintro ρ st' ⟨b, s5, hb1, hb2, rfl⟩
      refine db_one (dset 2 scMixed.nd <| de_bin op_add <| de_bin op_mul <| dv 2 <| de_int <| dop_I rfl (.inr (by decide)) <| de_bin op_mod <| de_bin op_pow <| dv 4 <| de_int <| dop_I rfl ?_ <| dv 3 <| dop_I rfl hg1 <| dop_I0 rfl ?_)
      · exact ⟨by decide, by decide, by show b.natAbs < 2 ^ 64; omega⟩
      · exact ⟨_, _, _, _, _, rfl⟩
  · rintro ρ st' ⟨l, z, s3, s4, s5, rfl⟩
    exact db_one (ds_ret <| dv 2 ⟨_, .dat _, h _ _⟩)
def fTake : Pd := fun m ss st k xk => ∃ (dr la ca : Addr) (cs : List Int) (hd : HasDraw m dr la ca cs) (n : Int), ss = [.raw (.ref dr), .dat (.int n)] ∧ 0 < n ∧ n < 2 ^ 60 ∧ ∀ (i : Int) (st' : m.St), 0 ≤ i → i < n → k (.dat (.int i)) st'
theorem ok_take (D : Df K mg "_law_take" sTake ["draw", "amount"]) (C1 : Cal P w K mg base "_law_mixed" sMixed ["draw"] 1 fMixed) (m1 : mg "int" = none) : Cal P w K mg base "_law_take" sTake ["draw", "amount"] 2 fTake := by
  refine cal_of D scTake (by rintro _ _ _ _ _ ⟨_, _, _, _, _, _, rfl, _⟩; rfl) fun f cdv A outer s1 H E c hr tk hp ss st k h => ?_
  obtain ⟨dr, la, ca, cs, hd, n, rfl, h0, h60, h⟩ := h
  have hu := hr.units
  have rest : ∀ st, DB (cxOf (L2.CX P w) P w K mg base ["draw", "amount", "found"] "_law_take" (defScope sTake) f cdv A outer s1 H E) c ((defBody sTake).drop 1) [.raw (.ref dr), .dat (.int n), .any] st ⟨fun _ s' => k (.dat .none) s', k, fun _ _ => False, fun _ _ => False⟩ := fun st => by
    refine db_cons (dset 2 scTake.nd <| de_bin op_mod <| de_callTy call_int1 (by rfl) m1 boot_int <| da_cons <| dr_get hd (by omega) (i := 0) rfl val_rest (.inl ⟨_, rfl, rfl⟩) <| da_nil <| dcall_int <| dv 1 <| dop_I rfl h0 ?_)
    refine db_cons (dr_put (upd' := fun d z => { d with rest := z }) hd (by omega) (fun d z => ⟨put_rest, rfl⟩) (i := 0) <| de_bin op_fdivW <| de_callTy call_int1 (by rfl) m1 boot_int <| da_cons <| dr_get hd (by omega) (i := 0) rfl val_rest (.inl ⟨_, rfl, rfl⟩) <| da_nil <| dcall_int <| dv 1 <| dop_I rfl ?_ ⟨_, rfl, rfl, ?_⟩)
    · exact wide_div (b := 60) h0 (by omega) (by decide) (by decide)
    · exact db_one (ds_ret <| dv 2 ⟨_, .dat _, h _ _ (Int.emod_nonneg _ (by omega)) (Int.emod_lt_of_pos _ h0)⟩)
  refine db_cons (ds_if <| dt_cmp op_eq (nomark _) <| dr_get hd (by omega) (i := 0) rfl val_rest (.inl ⟨_, rfl, rfl⟩) <| de_int <| dop_eq (x := .int _) (y := .int _) rfl rfl rfl ⟨_, rfl, fun _ => ?_, fun _ => db_nil (rest _)⟩)
  refine db_one (dr_put (upd' := fun d z => { d with rest := z }) hd (by omega) (fun d z => ⟨put_rest, rfl⟩) (i := 0) <| de_if <| dt_cmp (op_neD hr.units) (nomark _) <| dr_get hd (by omega) (i := 0) rfl val_large (.inr rfl) <| de_lst <| da_nil ⟨_, .nil, by decide, fun p => dop_large hd ⟨_, rfl, fun e => ?_, fun _ => ?_⟩⟩)
  · cases eL : (hd.get st).large with
    | nil => rw [eL] at e; cases e
    | cons x r => exact dr_pop hd (by omega) rfl eL ⟨_, rfl, rfl, rest _⟩ (i := 0)
  · exact dc_call C1 hr tk <| da_cons <| dv 0 <| da_nil fun A => ⟨dr, la, ca, cs, hd.avoid A, rfl, fun z st' => ⟨_, rfl, rfl, rest _⟩⟩
def fPick : Pd := fun m ss st k xk => ∃ (dr la ca : Addr) (cs : List Int) (hd : HasDraw m dr la ca cs) (ds : List PyData), ss = [.raw (.ref dr), .dat (.list ds)] ∧ 0 < ds.length ∧ ds.length < 2 ^ 30 ∧ ∀ d ∈ ds, ∀ st' : m.St, k (.dat d) st'
theorem ok_pick (D : Df K mg "_law_pick" sPick ["draw", "some"]) (C1 : Cal P w K mg base "_law_take" sTake ["draw", "amount"] 2 fTake) (m1 : mg "len" = none) : Cal P w K mg base "_law_pick" sPick ["draw", "some"] 3 fPick := by
  refine cal_of D scPick (by rintro _ _ _ _ _ ⟨_, _, _, _, _, _, rfl, _⟩; rfl) fun f cdv A outer s1 H E c hr tk hp ss st k h => ?_
  obtain ⟨dr, la, ca, cs, hd, ds, rfl, h0, h60, h⟩ := h
  refine db_one (ds_ret <| de_ix ix_list <| dv 1 <| dc_call C1 hr tk <| da_cons <| dv 0 <| da_cons <| de_callB call_len_seq (by rfl) m1 boot_len <| da_cons <| dv 1 <| da_nil <| dcall_len (.dat _) (.lst _) <| da_nil fun A => ⟨dr, la, ca, cs, hd.avoid A, _, rfl, ?_, ?_, fun i st' h1 h2 => ?_⟩)
  · omega
  · omega
  have hlt : i.toNat < ds.length := by omega
  have e1 : L2.atI ds i = some ds[i.toNat] := by
    have := atI_nat (xs := ds) (j := i.toNat) (v := ds[i.toNat]) (List.getElem?_eq_getElem hlt)
    rw [show ((i.toNat : Nat) : Int) = i by omega] at this
    exact this
  exact dop_ixL (.dat _) e1 ⟨_, .dat _, h _ (List.getElem_mem hlt) _⟩
def fKinds : Pd := fun m ss st k xk => ∃ d, ss = [.dat d] ∧ okD d ∧ szD d ≤ 100000 ∧ k (.dat (.list (kindsL (szD d) [d] []))) st
theorem ok_kinds (D : Df K mg "_law_kinds" sKinds ["thing"]) (m1 : mg "isinstance" = none) (m2 : mg "tuple" = none) (m3 : mg "list" = none) (m4 : mg "dict" = none) (m5 : mg "bool" = none) : Cal P w K mg base "_law_kinds" sKinds ["thing"] 1 fKinds := by
  refine cal_of D scKinds (by rintro _ _ _ _ _ ⟨_, rfl, _⟩; rfl) fun f cdv A outer s1 H E c hr tk hp ss st k h => ?_
  obtain ⟨d, rfl, hok, hsz, h⟩ := h
  refine db_cons (dpar 1 2 scKinds.nd (by rfl) <| de_lst <| da_nil ⟨_, .nil, by decide, fun pf => de_lst <| da_cons <| dv 0 <| da_nil ⟨_, .dat .nil, by simp, fun pl => ?_⟩⟩)
  refine db_cons (ds_while hp (fun N ρ s => ∃ (pf pl : Addr) (fd line : List PyData) (s3 s4 s5 : Slot), ρ = [.dat d, .own pf fd, .own pl line, s3, s4, s5] ∧ st = s ∧ N = szA line ∧ (∀ x ∈ line, okD x) ∧ fd.length + szA line ≤ 100000 ∧ line.length ≤ szA line ∧ kindsL (szA line) line fd = kindsL (szD d) [d] []) (szD d) ⟨pf, pl, [], [d], _, _, _, rfl, rfl, by simp [szA], by simpa using hok, by simpa [szA] using hsz, by have := szD_pos d; simp [szA]; omega, by simp [szA]⟩ ?_)
  rintro N ρ s ⟨pf, pl, fd, line, s3, s4, s5, rfl, rfl, rfl, hl, hb, hll, hk⟩
  refine dt_cmp (op_neD hr.units) (nomark _) <| dv 2 <| de_lst <| da_nil ⟨_, .nil, by decide, fun p0 => dop_neD (.ref pl line 2 rfl) (.own p0 []) (shaped_list hl) (by decide) ⟨_, rfl, fun e => ?_, fun e => ?_⟩⟩
  · have hne : line ≠ [] := fun z => by subst z; cases e
    obtain ⟨l, hd, rfl⟩ : ∃ l hd, line = l ++ [hd] := ⟨_, _, (List.dropLast_concat_getLast hne).symm⟩
    have hsz2 : szA (l ++ [hd]) = szA (l ++ kidsD hd) + 1 := by
      rw [szA_app, szA_app]
      have : szA [hd] = szD hd := by simp [szA]
      rw [this, sz_kids hd]
      omega
    have hd1 : okD hd := hl hd (by simp)
    have lenA : ∀ xs : List PyData, xs.length ≤ szA xs := by
      intro xs
      induction xs with
      | nil => simp [szA]
      | cons x xs ih => have := szD_pos x; rw [List.length_cons, szA]; omega
    refine db_cons (dset 3 scKinds.nd <| de_pop (i := 2) (d := hd) (ds := l) rfl rfl (.inl rfl) ?_)
    refine db_cons (dset 4 scKinds.nd <| de_imp (k' := fun s ρ' st' => s = .dat (.str (kindD hd)) ∧ ρ' = [.dat d, .own pf fd, .own pl l, .dat hd, s4, s5] ∧ st = st') ?_ ?_)
    · refine de_if <| dt_val <| de_callB call_isi (by rfl) m1 boot_isinstance <| da_cons <| dv 3 <| da_cons <| de_bltn (v := .ty "tuple") m2 boot_tuple rfl <| da_nil <| dcall_isi (kit_tuple hd) ⟨_, rfl, fun e1 => de_str ⟨by unfold kindD; rw [if_pos e1], rfl, rfl⟩, fun e1 => de_if <| dt_val <| de_callB call_isi (by rfl) m1 boot_isinstance <| da_cons <| dv 3 <| da_cons <| de_bltn (v := .ty "list") m3 boot_list rfl <| da_nil <| dcall_isi (kit_list hd) ⟨_, rfl, fun e2 => de_str ⟨by unfold kindD; simp [e1, e2], rfl, rfl⟩, fun e2 =>
      de_if <| dt_val <| de_callB call_isi (by rfl) m1 boot_isinstance <| da_cons <| dv 3 <| da_cons <| de_bltn (v := .ty "dict") m4 boot_dict rfl <| da_nil <| dcall_isi (kit_dict hd) ⟨_, rfl, fun e3 => de_str ⟨by unfold kindD; simp [e1, e2, e3], rfl, rfl⟩, fun e3 => de_if <| dt_val <| de_callB call_isi (by rfl) m1 boot_isinstance <| da_cons <| dv 3 <| da_cons <| de_bltn (v := .ty "bool") m5 boot_bool rfl <| da_nil <| dcall_isi (kit_bool hd) ⟨_, rfl, fun e4 => de_str ⟨by unfold kindD; simp [e1, e2, e3, e4], rfl, rfl⟩, fun e4 => de_str ⟨by unfold kindD; simp [e1, e2, e3, e4], rfl, rfl⟩⟩⟩⟩⟩
    · rintro _ _ _ ⟨rfl, rfl, rfl⟩
      refine db_cons (ds_append (i := 1) rfl (.inl rfl) rfl <| dv 4 ⟨_, _, .dat .nil, rfl, ?_, ?_⟩)
      · have := szD_pos hd
        rw [hsz2] at hb
        omega
      have fin : ∀ (pl' : Addr), ∃ n', n' < szA (l ++ [hd]) ∧ ∃ (pf' pl2 : Addr) (fd' line : List PyData) (s3 s4 s5' : DL.Slot), [DL.Slot.dat d, .own pf (fd ++ [.str (kindD hd)]), .own pl' (l ++ kidsD hd), .dat hd, .dat (.str (kindD hd)), s5] = [DL.Slot.dat d, .own pf' fd', .own pl2 line, s3, s4, s5'] ∧ st = st ∧ n' = szA line ∧ (∀ x ∈ line, okD x) ∧ fd'.length + szA line ≤ 100000 ∧ line.length ≤ szA line ∧ kindsL (szA line) line fd' = kindsL (szD d) [d] [] := fun pl' => by
        refine ⟨szA (l ++ kidsD hd), by omega, pf, pl', _, _, _, _, _, rfl, rfl, rfl, fun x hx => ?_, ?_, lenA _, ?_⟩
        · rcases List.mem_append.mp hx with hx | hx
          · exact hl x (List.mem_append_left _ hx)
          · exact ok_kids hd1 x hx
        · rw [List.length_append, List.length_singleton]
          rw [hsz2] at hb
          omega
        · rw [← hk, hsz2, kinds_step]
      have two : ∀ (pl' : Addr), DB (cxOf (L2.CX P w) P w K mg base ["thing", "found", "line", "here", "kind", "named"] "_law_kinds" (defScope sKinds) f cdv A outer s1 H E) c
          (match (defBody sKinds).getD 1 (.Pass ⟨0, 0, 0, 0⟩) with | .While _ b _ _ => b.drop 4 | _ => []) [.dat d, .own pf (fd ++ [.str (kindD hd)]), .own pl' (l ++ kidsD hd), .dat hd, .dat (.str (kindD hd)), s5] st
          ⟨fun ρ3 st3 => ∃ n', n' < szA (l ++ [hd]) ∧ ∃ (pf pl : Addr) (fd line : List PyData) (s3 s4 s5 : DL.Slot), ρ3 = [.dat d, .own pf fd, .own pl line, s3, s4, s5] ∧ st = st3 ∧ n' = szA line ∧ (∀ x ∈ line, okD x) ∧ fd.length + szA line ≤ 100000 ∧ line.length ≤ szA line ∧ kindsL (szA line) line fd = kindsL (szD d) [d] [], k,
            fun ρ1 st1 => DB (cxOf (L2.CX P w) P w K mg base ["thing", "found", "line", "here", "kind", "named"] "_law_kinds" (defScope sKinds) f cdv A outer s1 H E) c ((defBody sKinds).drop 2) ρ1 st1 ⟨fun _ s' => k (.dat .none) s', k, fun _ _ => False, fun _ _ => False⟩,
            fun ρ3 st3 => ∃ n', n' < szA (l ++ [hd]) ∧ ∃ (pf pl : Addr) (fd line : List PyData) (s3 s4 s5 : DL.Slot), ρ3 = [.dat d, .own pf fd, .own pl line, s3, s4, s5] ∧ st = st3 ∧ n' = szA line ∧ (∀ x ∈ line, okD x) ∧ fd.length + szA line ≤ 100000 ∧ line.length ≤ szA line ∧ kindsL (szA line) line fd = kindsL (szD d) [d] []⟩ := fun pl' => by
        refine db_one (ds_if <| dt_cmp op_eq (nomark _) <| dv 4 <| de_str <| dop_eq (x := .str _) (y := .str _) rfl rfl rfl ⟨_, rfl, fun e => ?_, fun e => db_nil (fin pl')⟩)
        rw [kind_dict, no_dict hd1] at e
        cases e
      refine db_cons (ds_if <| dt_cmp op_in_seq (by rfl) <| dv 4 <| de_lst <| da_cons <| de_str <| da_cons <| de_str <| da_nil ⟨_, .dat (.dat .nil), by simp, fun p1 => dop_in (.own p1 _) (.lst _) rfl rfl ⟨_, rfl, fun e => ?_, fun e => ?_⟩⟩)
      · have e' : (ofTuple hd || ofList hd) = true := by rw [← kind_in]; exact e
        refine db_one (dset 2 scKinds.nd <| de_bin (op_cat) <| dv 2 <| de_callTy call_list_of (by rfl) m3 boot_list <| da_cons <| dv 3 <| da_nil <| dcall_list (.dat _) (kids_seq e') fun p2 => dop_cat (.ref pl l 2 rfl) (.own p2 _) ?_ fun p3 => two p3)
        have := lenA (l ++ kidsD hd)
        rw [List.length_append] at this
        omega
      · have e' : (ofTuple hd || ofList hd) = false := by rw [← kind_in]; exact e
        have h2 := two pl
        rw [kids_no e', List.append_nil] at h2
        exact db_nil h2
  · have hl0 : line = [] := by
      cases line with
      | nil => rfl
      | cons x xs => cases e
    subst hl0
    refine db_one (ds_ret <| dv 1 ⟨_, .vlst pf fd 1 rfl, ?_⟩)
    have : fd = kindsL (szD d) [d] [] := by rw [← hk]; rfl
    rw [this]
    exact h
def fSays : Pd := fun m ss st k xk => ∃ d, ss = [.dat d, .dat d] ∧ okD d ∧ szD d ≤ 100000 ∧ k (.dat (.bool true)) st
theorem ok_says (D : Df K mg "_law_says" sSays ["told", "due"]) (C1 : Cal P w K mg base "_law_kinds" sKinds ["thing"] 1 fKinds) : Cal P w K mg base "_law_says" sSays ["told", "due"] 2 fSays := by
  refine cal_of D scSays (by rintro _ _ _ _ _ ⟨_, rfl, _⟩; rfl) fun f cdv A outer s1 H E c hr tk hp ss st k h => ?_
  obtain ⟨d, rfl, hok, hsz, h⟩ := h
  have kR : ∀ x ∈ kindsL (szD d) [d] [], okD x := kindsL_ok _ _ _ (by simp)
  have oR : okD (.list (kindsL (szD d) [d] [])) ∨ True := .inr trivial
  refine db_one (ds_ret <| de_and <| de_cmp (op_eqD hr.units) (nomark _) <| dv 0 <| dv 1 <| dop_eqD (.dat d) (.dat d) (shaped_ok hok) (shaped_ok hok) ⟨_, rfl, fun _ => ?_, fun e => ?_⟩)
  · refine de_one <| de_cmp (op_eqD hr.units) (nomark _) <| dc_call C1 hr tk <| da_cons <| dv 0 <| da_nil fun A => ⟨d, rfl, hok, hsz, ?_⟩
    refine dc_call C1 hr tk <| da_cons <| dv 1 <| da_nil fun A => ⟨d, rfl, hok, hsz, ?_⟩
    refine dop_eqD (.dat _) (.dat _) (shaped_list kR) (shaped_list kR) ⟨_, .dat _, ?_⟩
    have e : PyData.eqv (.list (kindsL (szD d) [d] [])) (.list (kindsL (szD d) [d] [])) = true := eqv_can _ (by rw [PyData.canLay0]; exact canAll_iff.mpr fun x hx => (kR x hx).1)
    rw [e]
    exact h
  · rw [eqv_same hok] at e
    cases e
end
end LH

namespace LH
open PySem PySem.Spec PyProof.Rows L2 DL LamX
theorem scBegun : FnScope ["script", "large", "cell"] ["script"] (defScope sBegun) := ⟨rfl, rfl, rfl, by decide +kernel, rfl, by decide +kernel, by decide +kernel⟩
/-! ### the memories: at the beginning, of a law -/
def mB (Ts : List Addr) : Mem where
  M := fun _ => False
  N := fun _ => False
  sub := fun _ h => h
  St := Unit
  ok := fun K _ H => ∀ p ∈ Ts, H p = some (.tbl #[])
  dom := fun _ n => n.elim
  stab := fun h _ k p hp => k p _ fix_tbl (h p hp)
  nt := fun _ n => n.elim
theorem tabs_keep {T : List (Addr × Str)} {H H' : Hp} (t : Tabs T H) (k : ∀ b o, Fix o → H b = some o → H' b = some o) : Tabs T H' := fun p hp => by
  obtain ⟨ps, h1, h2, h3⟩ := t p hp
  refine ⟨ps, k _ _ fix_tbl h1, h2, fun pos cv hc => ?_⟩
  obtain ⟨c, e1, e2⟩ := h3 pos cv hc
  exact ⟨c, e1, k _ _ ⟨fun _ z => (nomatch z), fun _ z => (nomatch z), fun _ z => (nomatch z), fun _ _ z => (nomatch z)⟩ e2⟩
def mL (T : List (Addr × Str)) (dr la ca : Addr) (cs : List Int) : Mem where
  M := fun x => x = dr ∨ x = la
  N := fun x => x = dr ∨ x = la ∨ x = ca
  sub := fun _ h => h.elim .inl fun h => .inr (.inl h)
  St := Dr
  ok := fun K d H => DrawAt H dr la ca cs d ∧ Tabs T H
  dom := fun h n => by
    rcases n with rfl | rfl | rfl
    · rw [h.1.h1]; exact fun z => nomatch z
    · rw [h.1.h2]; exact fun z => nomatch z
    · rw [h.1.h3]; exact fun z => nomatch z
  stab := fun h k k2 => ⟨⟨by rw [k _ (.inl rfl)]; exact h.1.h1, by rw [k _ (.inr (.inl rfl))]; exact h.1.h2, by rw [k _ (.inr (.inr rfl))]; exact h.1.h3, h.1.h4⟩, tabs_keep h.2 k2⟩
  nt := fun h n e => by
    rcases n with rfl | rfl | rfl
    · rw [h.1.h1] at e; cases e
    · rw [h.1.h2] at e; cases e
    · rw [h.1.h3] at e; cases e
def hdL {T : List (Addr × Str)} {dr la ca : Addr} {cs : List Int} : HasDraw (mL T dr la ca cs) dr la ca cs where
  get := id
  put := fun _ d => d
  gp := fun _ _ => rfl
  rd := fun h => h.1
  wr := fun h k y => ⟨y, tabs_keep h.2 fun b o fx e => by
    rw [k b (fun z => by rw [z, h.1.h1] at e; exact fx.2.1 _ (Option.some.inj e).symm) (fun z => by rw [z, h.1.h2] at e; exact fx.1 _ (Option.some.inj e).symm)]
    exact e⟩
  mdr := .inl rfl
  mla := .inr rfl
theorem htL {T : List (Addr × Str)} {dr la ca : Addr} {cs : List Int} : HasTabs (mL T dr la ca cs) T where
  rd := fun h => h.2
  wr := fun h e t => ⟨⟨e _ _ h.1.h1 (fun _ z => nomatch z), e _ _ h.1.h2 (fun _ z => nomatch z), e _ _ h.1.h3 (fun _ z => nomatch z), h.1.h4⟩, t⟩
theorem da_ints {N : Addr → Prop} {K : PySem.W.Frag} {H : Hp} : ∀ {l : List Int} {xs : List V}, DaAll N K H xs (l.map PyData.int) → xs = l.map V.int
  | [], _, .nil => rfl
  | i :: l, _, .cons q qs => by
    have e : _ = V.int i := da_flat (w := .int i) rfl q
    rw [e, da_ints qs]
    rfl
section
variable {P : Program} {w : World} {K : PySem.W.Frag} {mg : Str → Option Value} {base : Heap}
def spBegun (Ts : List Addr) (K : PySem.W.Frag) : Sp := fun vs H Q _ => ∃ (a : Addr) (ns : List Int), vs = [.ref a] ∧ SqL K H a (ns.map V.int) ∧ ns.length ≤ 63 ∧ (∀ p ∈ Ts, H p = some (.tbl #[])) ∧
  ∀ (dr la ca : Addr) (cs : List Int) (d : Dr) (H' : Hp), Da (fun x => x = dr ∨ x = la ∨ x = ca) K H' (.ref a) (.list (ns.map PyData.int)) → (∀ p ∈ Ts, H' p = some (.tbl #[])) → DrawAt H' dr la ca cs d → Q (.ref dr) H'
theorem ok_begun {Ts : List Addr} {f : Addr} {fd : FuncData} (F : L2.Fun K "_law_begun" "_law_begun" sBegun f fd) (m1 : mg "abs" = none) : FnOk P w K mg base (L2.CX P w) 1 f fd ["script"] (spBegun Ts K) := by
  refine F.okX scBegun (fun vs H Q E h => by obtain ⟨a, ns, rfl, _⟩ := h; rfl) fun cdv A outer s H vs Q E hr h => ?_
  obtain ⟨a, ns, rfl, hS, hlen, hT, q⟩ := h
  refine ⟨WB _ (defBody sBegun), pss_w, ?_⟩
  obtain ⟨c, ec⟩ : ∃ c : Cz, c = ⟨fun _ _ _ _ => False, mB Ts, H, fun _ _ => False⟩ := ⟨_, rfl⟩
  have hm : c.m = mB Ts := by rw [ec]
  have first : ∀ st, DS (cxOf (L2.CX P w) P w K mg base ["script", "large", "cell"] "_law_begun" (defScope sBegun) f cdv A outer s H E) ⟨fun _ _ _ _ => False, mB Ts, H, fun _ _ => False⟩ ((defBody sBegun).getD 0 (.Pass ⟨0, 0, 0, 0⟩)) [.dat (.list (ns.map .int)), .any, .any] st
      ⟨fun ρ' _ => ∃ (la : Addr) (l : List Int), ρ' = [.dat (.list (ns.map .int)), .own la (l.map .int), .any], fun _ _ => False, fun _ _ => False, fun _ _ => False⟩ := fun st => by
    refine ds_lc 1 2 scBegun.nd <| di_list <| dv 0 <| .inl ⟨_, rfl, fun i acc s => ∃ l : List Int, acc = l.map .int ∧ l.length ≤ i, ⟨[], rfl, Nat.le_refl _⟩, ?_, ?_⟩
    · rintro i d acc s hd ⟨l, rfl, hl⟩
      obtain ⟨x, rfl⟩ : ∃ x : Int, d = .int x := by
        rw [List.getElem?_map] at hd
        cases e : ns[i]? with
        | none => rw [e] at hd; cases hd
        | some x => rw [e] at hd; cases hd; exact ⟨x, rfl⟩
      have hi : i < ns.length := by
        have := (List.getElem?_eq_some_iff.mp hd).1
        rwa [List.length_map] at this
      refine ⟨by rw [List.length_map]; omega, fun s0 H0 C cl fp => dt_cmp op_ge (nomark _) <| de_callB call_abs (by rfl) m1 boot_abs <| da_cons <| dv 2 <| da_nil <| dcall_abs <| de_bin op_pow <| de_int <| de_int <| dop_I rfl ⟨by decide, by decide, by decide⟩ <| dop_I0 rfl ⟨_, rfl, fun e => ?_, fun e => ⟨rfl, l, rfl, by omega⟩⟩⟩
      refine fun s0 H0 C cl fp => de_bin op_sub <| de_callB call_abs (by rfl) m1 boot_abs <| da_cons <| dv 2 <| da_nil <| dcall_abs <| de_bin op_pow <| de_int <| de_int <| dop_I rfl ⟨by decide, by decide, by decide⟩ <| dop_I0 rfl ⟨_, .dat .nil, rfl, l ++ [_], by rw [List.map_append]; rfl, by rw [List.length_append]; simp; omega⟩
    · rintro acc s ⟨l, rfl, _⟩ p
      exact ⟨p, l, rfl⟩
  have sec : ∀ (la : Addr) (l : List Int) st, DE (cxOf (L2.CX P w) P w K mg base ["script", "large", "cell"] "_law_begun" (defScope sBegun) f cdv A outer s H E) ⟨fun _ _ _ _ => False, mB Ts, H, fun _ _ => False⟩ (match (defBody sBegun).getD 1 (.Pass ⟨0, 0, 0, 0⟩) with | .Return (some (.Dict _ vs _)) _ => vs.getD 2 (.Constant .none 0 ⟨0, 0, 0, 0⟩) | _ => .Constant .none 0 ⟨0, 0, 0, 0⟩) [.dat (.list (ns.map .int)), .own la (l.map .int), .any] st
      (fun s' ρ' _ => ∃ (ca : Addr) (cs : List Int), s' = .own ca (cs.map .int) ∧ ρ' = [.dat (.list (ns.map .int)), .own la (l.map .int), .any]) := fun la l st => by
    refine dlc 2 scBegun.nd <| di_list <| dv 0 <| .inl ⟨_, rfl, fun i acc s => ∃ l : List Int, acc = l.map .int ∧ l.length ≤ i, ⟨[], rfl, Nat.le_refl _⟩, ?_, ?_⟩
    · rintro i d acc s hd ⟨l, rfl, hl⟩
      obtain ⟨x, rfl⟩ : ∃ x : Int, d = .int x := by
        rw [List.getElem?_map] at hd
        cases e : ns[i]? with
        | none => rw [e] at hd; cases hd
        | some x => rw [e] at hd; cases hd; exact ⟨x, rfl⟩
      have hi : i < ns.length := by
        have := (List.getElem?_eq_some_iff.mp hd).1
        rwa [List.length_map] at this
      refine ⟨by rw [List.length_map]; omega, fun _ s0 H0 C cl fp => de_callB call_abs (by rfl) m1 boot_abs <| da_cons <| dv 2 <| da_nil <| dcall_abs ⟨_, .dat .nil, rfl, l ++ [_], by rw [List.map_append]; rfl, by rw [List.length_append]; simp; omega⟩, fun z => nomatch z⟩
    · rintro acc s ⟨cs, rfl, _⟩ p
      exact ⟨p, cs, rfl, rfl⟩
  have cx0 : ContX ⟨fun _ _ _ _ => False, mB Ts, H, fun _ _ => False⟩ K := fun _ _ _ _ _ h => h.elim
  have daS : Da (fun _ => False) K H (.ref a) (.list (ns.map .int)) := .lst (hS.elim (fun z => .inl ⟨fun z => z, z⟩) .inr) (ints_da ns)
  refine wb_of (pss_cons ps_w pss_w) (first () [] (L2.start ["script", "large", "cell"] [.ref a]) H { nx := WB _ ((defBody sBegun).drop 1) { nx := fun _ H' => Q .non H', rt := Q }, rt := Q } ⟨hT, Kp.refl _ _, List.nodup_nil, fun p hp => (nomatch hp), ?_⟩ rfl ⟨?_, fun _ _ _ _ h => h.elim, fun _ _ _ _ h => h.elim, fun _ _ _ _ h => h.elim⟩ cx0)
  · intro e he
    rcases List.mem_cons.mp (show e ∈ [(some (V.ref a), DL.Slot.dat (.list (ns.map .int))), (none, .any), (none, .any)] from he) with rfl | he
    · exact ⟨_, rfl, daS.move fun a o n t e => ⟨fun z => z.elim (fun z => z) fun z => (nomatch z), e⟩⟩
    · rcases List.mem_cons.mp he with rfl | he
      · trivial
      · rcases List.mem_cons.mp he with rfl | he
        · trivial
        · cases he
  · rintro ρ' st' σ' H1 ⟨la, l, rfl⟩ hh hl
    match σ', hl with
    | [s0, s1, s2], hl =>
      obtain ⟨es1, xs1, _, _⟩ := hh.all (s1, .own la (l.map .int)) (List.mem_cons_of_mem _ List.mem_cons_self)
      have es1' : s1 = some (.ref la) := es1
      subst es1'
      refine wb_of (pss_one (ps_ret (pe_disp (pps_cons pe_str (pe_var (i := 1) rfl (.inl rfl)) (pps_cons pe_str pe_int (pps_cons pe_str pe_w (pps_cons pe_str pe_int pps_nil)))) rfl rfl (by simp) (by simp)))) ?_
      intro p hp
      refine ⟨.ref la, rfl, ?_⟩
      refine sec la l st' [(some (.ref p), .obj fun _ => .dK [])] [s0, some (.ref la), s2] _ _ (Here.put (A := [s0, some (.ref la), s2].zip [.dat (.list (ns.map .int)), .own la (l.map .int), .any]) (B := []) (hh.alloc (o := .dK []) hp) rfl ⟨p, rfl, own_ne hh hp, nt_dK, upd_same⟩) rfl (fun s' ρ'' st'' v H3 hk hh3 hl3 => ?_) cx0
      obtain ⟨ca, cs, rfl, rfl⟩ := hk
      obtain ⟨_, xs, eLa, dLa⟩ := hh3.all (some (.ref la), .own la (l.map .int)) (List.mem_cons_of_mem _ List.mem_cons_self)
      obtain ⟨ev, ys, eCa, dCa⟩ := hh3.all (some v, .own ca (cs.map .int)) (List.mem_append_right _ List.mem_cons_self)
      obtain ⟨p', ep, _, _, eP⟩ := hh3.all (some (.ref p), .obj fun _ => .dK []) (List.mem_append_right _ (List.mem_cons_of_mem _ List.mem_cons_self))
      cases ep
      have ev' : v = .ref ca := Option.some.inj ev
      subst ev'
      have exs := da_ints dLa
      have eys := da_ints dCa
      subst exs eys
      have nlp : la ≠ p := ne_of eLa eP (by intro z; cases z)
      have ncp : ca ≠ p := ne_of eCa eP (by intro z; cases z)
      have ncl : ca ≠ la := fun z => by
        have nd := hh3.nd
        have eo : owns ([s0, some (.ref la), s2].zip [DL.Slot.dat (.list (ns.map .int)), .own la (l.map .int), .any] ++ [(some (V.ref ca), .own ca (cs.map .int)), (some (.ref p), .obj fun _ => .dK [])]) = [la, ca] := rfl
        rw [eo, z] at nd
        simp at nd
      refine ⟨eP, [(.inr "large", .ref la), (.inr "rest", .int 0), (.inr "cells", .ref ca), (.inr "turn", .int 0)], rfl, by simp, ?_⟩
      refine q p la ca cs ⟨l, 0, 0⟩ _ ?_ (fun t ht => ?_) ⟨?_, ?_, ?_, ncl⟩
      · refine .lst ?_ (ints_da ns)
        rcases hS with z | z
        · obtain ⟨o, t, e⟩ := rd_some z nt_lst
          have e3 := hh3.kp a o (fun z => z) t e
          have nap : a ≠ p := fun y => by
            rw [y, eP] at e3
            cases e3
            rcases z with z2 | ⟨o2, z2⟩
            · rw [e] at z2; cases z2
            · rw [e] at z2; cases z2
          have mla : la ∈ owns ([s0, some (.ref la), s2].zip [DL.Slot.dat (.list (ns.map .int)), .own la (l.map .int), .any] ++ [(some (V.ref ca), .own ca (cs.map .int)), (some (.ref p), .obj fun _ => .dK [])]) := List.mem_cons_self
          have mca : ca ∈ owns ([s0, some (.ref la), s2].zip [DL.Slot.dat (.list (ns.map .int)), .own la (l.map .int), .any] ++ [(some (V.ref ca), .own ca (cs.map .int)), (some (.ref p), .obj fun _ => .dK [])]) := List.mem_cons_of_mem _ List.mem_cons_self
          have nal : a ≠ la := fun y => nt_fr t ((hh3.fr la mla).2) (by rw [← y]; exact e)
          have nac : a ≠ ca := fun y => nt_fr t ((hh3.fr ca mca).2) (by rw [← y]; exact e)
          refine .inl ⟨fun y => y.elim nap fun y => y.elim nal nac, Rd.move z nt_lst fun o' t' e' => ?_⟩
          rw [upd_ne nap]
          exact hh3.kp a o' (fun z => z) t' e'
        · exact .inr z
      · have e3 := hh3.ok t ht
        rw [upd_ne (ne_of e3 eP (by intro z; cases z))]
        exact e3
      · rw [upd_same]
        rfl
      · rw [upd_ne nlp]
        exact eLa
      · rw [upd_ne ncp]
        exact eCa
end
end LH

namespace K33
open PySem PySem.Spec PyProof.Rows L2 DL LH
abbrev sIsNumber : Stmt := topS 6
abbrev sIsSize : Stmt := topS 9
abbrev sIsShapeOf : Stmt := topS 12
abbrev sNeedShapes : Stmt := topS 13
abbrev sNeedThree : Stmt := topS 14
theorem scIsNumber : FnScope ["thing"] ["thing"] (defScope sIsNumber) := ⟨rfl, rfl, rfl, by decide +kernel, rfl, by decide +kernel, by decide +kernel⟩
theorem scIsSize : FnScope ["thing"] ["thing"] (defScope sIsSize) := ⟨rfl, rfl, rfl, by decide +kernel, rfl, by decide +kernel, by decide +kernel⟩
theorem scIsShapeOf : FnScope ["thing", "one", "other"] ["thing"] (defScope sIsShapeOf) := ⟨rfl, rfl, rfl, by decide +kernel, rfl, by decide +kernel, by decide +kernel⟩
theorem scNeedShapes : FnScope ["one", "other"] ["one", "other"] (defScope sNeedShapes) := ⟨rfl, rfl, rfl, by decide +kernel, rfl, by decide +kernel, by decide +kernel⟩
theorem scNeedThree : FnScope ["one", "other", "whole"] ["one", "other", "whole"] (defScope sNeedThree) := ⟨rfl, rfl, rfl, by decide +kernel, rfl, by decide +kernel, by decide +kernel⟩
def isNum : PyData → Bool
  | .int _ => true
  | _ => false
/-- a number of a shape -/
def isP : PyData → Bool
  | .int i => decide (0 ≤ i) && decide (i ≤ 24)
  | _ => false
def geD : PyData → Bool
  | .tuple [.int a, .int b] => decide (b ≤ a)
  | _ => false
def isShape : PyData → Bool
  | .tuple ds => (decide (1 ≤ ds.length) && decide (ds.length ≤ 4)) && (ds.all isP && (zipD ds (ds.drop 1)).all geD)
  | _ => false
theorem isP_int {d : PyData} (h : isP d = true) : ∃ i : Int, d = .int i := by
  cases d <;> first | exact ⟨_, rfl⟩ | cases h
def isSz : PyData → Bool
  | .int i => decide (1 ≤ i) && decide (i ≤ 4)
  | _ => false
theorem isSz_len (n : Nat) : isSz (.int n) = (decide (1 ≤ n) && decide (n ≤ 4)) := by
  show (decide ((1 : Int) ≤ n) && decide ((n : Int) ≤ 4)) = _
  congr 1
  · exact decide_eq_decide.mpr (by omega)
  · exact decide_eq_decide.mpr (by omega)
theorem isShape_tup (ds : List PyData) : isShape (.tuple ds) = (isSz (.int ds.length) && (ds.all isP && (zipD ds (ds.drop 1)).all geD)) := by
  rw [isSz_len]
  rfl
section
variable {P : Program} {w : World} {K : PySem.W.Frag} {mg : Str → Option Value} {base : Heap}
def fIsNumber : Pd := fun m ss st k xk => ∃ d, ss = [.dat d] ∧ k (.dat (.bool (isNum d))) st
theorem isn_true {d : PyData} (e : ofInt d = true) : (!ofBool d) = isNum d := by cases d <;> first | rfl | cases e
theorem isn_false {d : PyData} (e : ofInt d = false) : false = isNum d := by cases d <;> first | rfl | cases e
theorem ok_is_number (D : Df K mg "is_number" sIsNumber ["thing"]) (m1 : mg "isinstance" = none) (m2 : mg "int" = none) (m3 : mg "bool" = none) : Cal P w K mg base "is_number" sIsNumber ["thing"] 1 fIsNumber := by
  refine cal_of D scIsNumber (by rintro _ _ _ _ _ ⟨d, rfl, _⟩; rfl) fun f cdv A outer s1 H E c hr tk hp ss st k h => ?_
  obtain ⟨d, rfl, h⟩ := h
  refine db_one (ds_ret <| de_and <| de_callB call_isi (by rfl) m1 boot_isinstance <| da_cons <| dv 0 <| da_cons <| de_bltn (v := .ty "int") m2 boot_int rfl <| da_nil <| dcall_isi (kit_int d) ⟨_, rfl, fun e => ?_, fun e => ?_⟩)
  · exact de_one <| de_not <| de_callB call_isi (by rfl) m1 boot_isinstance <| da_cons <| dv 0 <| da_cons <| de_bltn (v := .ty "bool") m3 boot_bool rfl <| da_nil <| dcall_isi (kit_bool d) ⟨_, rfl, _, .dat _, by rw [isn_true e]; exact h⟩
  · exact ⟨_, .dat _, by rw [isn_false e]; exact h⟩
/-- a number that the module names -/
def Cst (mg : Str → Option Value) (x : Str) (i : Int) : Prop := ∃ u, mg x = some u ∧ RelV (.int i) u
def fIsSize : Pd := fun m ss st k xk => ∃ d, ss = [.dat d] ∧ k (.dat (.bool (isSz d))) st
theorem ok_is_size (D : Df K mg "is_size" sIsSize ["thing"]) (C1 : Cal P w K mg base "is_number" sIsNumber ["thing"] 1 fIsNumber) (M : Cst mg "MOST_SIZE" 4) : Cal P w K mg base "is_size" sIsSize ["thing"] 2 fIsSize := by
  obtain ⟨u, m1, m2⟩ := M
  refine cal_of D scIsSize (by rintro _ _ _ _ _ ⟨d, rfl, _⟩; rfl) fun f cdv A outer s1 H E c hr tk hp ss st k h => ?_
  obtain ⟨d, rfl, h⟩ := h
  refine db_one (ds_ret <| de_and <| dc_call C1 hr tk <| da_cons <| dv 0 <| da_nil fun A => ⟨d, rfl, isNum d, rfl, fun e => ?_, fun e => ?_⟩)
  · obtain ⟨i, rfl⟩ : ∃ i, d = .int i := by
      cases d <;> first | exact ⟨_, rfl⟩ | cases e
    refine de_one <| de_chain op_le op_le <| de_int <| dv 0 ⟨_, rfl, dop_I0 rfl ⟨decide (1 ≤ i), rfl, fun e1 => ?_, fun e1 => ?_⟩⟩
    · refine de_con (v := .int 4) m1 m2 (fun _ _ => .int 4) <| dop_I0 rfl ⟨_, .dat _, ?_⟩
      have e2 : decide (i ≤ 4) = isSz (.int i) := by
        show _ = (decide (1 ≤ i) && decide (i ≤ 4))
        rw [e1]
        rfl
      rw [e2]
      exact h
    · have e2 : false = isSz (.int i) := by
        show _ = (decide (1 ≤ i) && decide (i ≤ 4))
        rw [e1]
        rfl
      exact ⟨_, .dat _, by rw [e2]; exact h⟩
  · have e2 : false = isSz d := by cases d <;> first | rfl | cases e
    exact ⟨_, .dat _, by rw [e2]; exact h⟩
def fIsShape : Pd := fun m ss st k xk => ∃ d, ss = [.dat d] ∧ k (.dat (.bool (isShape d))) st
theorem ok_is_shape_of (D : Df K mg "is_shape_of" sIsShapeOf ["thing"]) (C1 : Cal P w K mg base "is_number" sIsNumber ["thing"] 1 fIsNumber) (C2 : Cal P w K mg base "is_size" sIsSize ["thing"] 2 fIsSize) (M : Cst mg "MOST_POWER" 24) (m1 : mg "isinstance" = none) (m2 : mg "tuple" = none) (m3 : mg "len" = none) (m4 : mg "all" = none) (m5 : mg "zip" = none) :
    Cal P w K mg base "is_shape_of" sIsShapeOf ["thing"] 3 fIsShape := by
  obtain ⟨u, mp1, mp2⟩ := M
  refine cal_of D scIsShapeOf (by rintro _ _ _ _ _ ⟨d, rfl, _⟩; rfl) fun f cdv A outer s1 H E c hr tk hp ss st k h => ?_
  obtain ⟨d, rfl, h⟩ := h
  have no : ∀ {st}, isShape d = false → k (.dat (.bool (isShape d))) st → DB (cxOf (L2.CX P w) P w K mg base ["thing", "one", "other"] "is_shape_of" (defScope sIsShapeOf) f cdv A outer s1 H E) c [.Return (some (.Constant (.bool false) 0 ⟨0, 0, 0, 0⟩)) ⟨0, 0, 0, 0⟩] [.dat d, .any, .any] st ⟨fun _ s' => k (.dat .none) s', k, fun _ _ => False, fun _ _ => False⟩ := fun e q => db_one (ds_ret <| de_bl ⟨_, .dat _, by rw [e] at q; exact q⟩)
  refine db_cons (ds_if <| dt_w <| dw_or <| dt_not <| dt_val <| de_callB call_isi (by rfl) m1 boot_isinstance <| da_cons <| dv 0 <| da_cons <| de_bltn (v := .ty "tuple") m2 boot_tuple rfl <| da_nil <| dcall_isi (kit_tuple d) ⟨_, rfl, ⟨fun e => ⟨fun _ => ?_, fun z => absurd z (by decide)⟩, fun e => ?_⟩⟩)
  · have e2 : isShape d = false := by cases d <;> first | rfl | cases e
    exact db_one (ds_ret <| de_bl ⟨_, .dat _, by rw [e2] at h; exact h⟩)
  · obtain ⟨ds, rfl⟩ : ∃ ds, d = .tuple ds := by
      cases d <;> first | exact ⟨_, rfl⟩ | cases e
    refine dw_or1 <| dt_not <| dt_val <| dc_call C2 hr tk <| da_cons <| de_callB call_len_seq (by rfl) m3 boot_len <| da_cons <| dv 0 <| da_nil <| dcall_len (.dat _) (.tup _) <| da_nil fun A => ⟨_, rfl, isSz (.int ds.length), rfl, fun e1 => ?_, fun e1 => db_nil ?_⟩
    · have e3 : isSz (.int ds.length) = false := by simpa using e1
      exact db_one (ds_ret <| de_bl ⟨_, .dat _, by rw [isShape_tup, e3] at h; exact h⟩)
    have e3 : isSz (.int ds.length) = true := by simpa using e1
    have hl4 : ds.length ≤ 4 := by
      rw [isSz_len, Bool.and_eq_true] at e3
      exact of_decide_eq_true e3.2
    rw [isShape_tup, e3, Bool.true_and] at h
    refine db_cons (ds_if <| dt_not <| dt_val <| de_callB (cr_all rfl) (by rfl) m4 boot_all <| da_cons <| dlc 1 scIsShapeOf.nd <| di_tup <| dv 0 ⟨_, rfl, fun i acc s => acc = ((ds.take i).map isP).map .bool ∧ st = s, ⟨rfl, rfl⟩, ?_, ?_⟩)
    · rintro i d acc s hd ⟨rfl, rfl⟩
      have stp : ((ds.take i).map isP).map PyData.bool ++ [.bool (isP d)] = ((ds.take (i + 1)).map isP).map .bool := by
        rw [List.take_add_one, hd, List.map_append, List.map_append]
        rfl
      refine ⟨by rw [List.length_map, List.length_map, List.length_take]; omega, fun _ s0 H0 C cl fp => ?_, fun z => nomatch z⟩
      refine de_and <| dc_call C1 (hr.mono (by decide)) LamX.takes0 <| da_cons <| dv 1 <| da_nil fun A => ⟨d, rfl, isNum d, rfl, fun e => ?_, fun e => ?_⟩
      · obtain ⟨x, rfl⟩ : ∃ x, d = .int x := by
          cases d <;> first | exact ⟨_, rfl⟩ | cases e
        refine de_one <| de_chain op_le op_le <| de_int <| dv 1 ⟨_, rfl, dop_I0 rfl ⟨decide (0 ≤ x), rfl, fun e1 => ?_, fun e1 => ?_⟩⟩
        · refine de_con (v := .int 24) mp1 mp2 (fun _ _ => .int 24) <| dop_I0 rfl ⟨_, .dat .nil, rfl, ?_, rfl⟩
          rw [← stp, show isP (.int x) = (decide (0 ≤ x) && decide (x ≤ 24)) by rfl, e1]
          rfl
        · refine ⟨_, .dat .nil, rfl, ?_, rfl⟩
          rw [← stp, show isP (.int x) = (decide (0 ≤ x) && decide (x ≤ 24)) by rfl, e1]
          rfl
      · refine ⟨_, .dat .nil, rfl, ?_, rfl⟩
        rw [← stp, show isP d = false by cases d <;> first | rfl | cases e]
    rintro acc s ⟨rfl, rfl⟩ p
    rw [List.take_length]
    refine da_nil <| dcall_all (.own p _) ⟨_, rfl, ?_⟩
    have ea : (ds.map isP).all id = ds.all isP := by rw [List.all_map]; rfl
    rw [ea]
    refine ⟨fun e4 => ?_, fun e4 => db_nil ?_⟩
    · have e5 : ds.all isP = false := by simpa using e4
      exact db_one (ds_ret <| de_bl ⟨_, .dat _, by rw [e5] at h; exact h⟩)
    have e5 : ds.all isP = true := by simpa using e4
    rw [e5, Bool.true_and] at h
    refine db_one (ds_ret <| de_callB (cr_all rfl) (by rfl) m4 boot_all <| da_cons <| dlc2 1 2 scIsShapeOf.nd <| di_zipT m5 <| dv 0 <| de_slT <| dv 0 ⟨_, rfl, dp_some <| de_int ⟨_, rfl, dp_none ⟨ds, _, rfl, rfl, ?_⟩⟩⟩)
    have ec : DL.cutD ds (some 1) none = ds.drop 1 := by
      unfold DL.cutD
      rw [show HT.sIx ds.length 0 (some 1) = min 1 ds.length from HT.sIx_nat ds.length 0 1, HT.sIx_none]
      cases ds with
      | nil => rfl
      | cons x r =>
        rw [show min 1 (x :: r).length = 1 by rw [List.length_cons]; omega]
        show List.take ((x :: r).length - 1) r = r
        rw [List.length_cons, Nat.add_sub_cancel]
        exact List.take_length
    rw [ec]
    have zl : (zipD ds (ds.drop 1)).length ≤ 4 := by rw [zipD_len]; omega
    refine ⟨fun i d hd => ?_, fun i acc s => acc = (((zipD ds (ds.drop 1)).take i).map geD).map .bool ∧ st = s, ⟨rfl, rfl⟩, ?_, ?_⟩
    · obtain ⟨x, y, _, _, rfl⟩ := zipD_get hd
      exact ⟨x, y, rfl⟩
    · rintro i d1 d2 acc s hd ⟨rfl, rfl⟩
      obtain ⟨x, y, hx1, hy1, exy⟩ := zipD_get hd
      obtain ⟨a1, rfl⟩ : ∃ a1 : Int, d1 = .int a1 := by
        cases exy
        exact isP_int (List.all_eq_true.mp e5 d1 (List.mem_of_getElem? hx1))
      obtain ⟨a2, rfl⟩ : ∃ a2 : Int, d2 = .int a2 := by
        cases exy
        exact isP_int (List.all_eq_true.mp e5 d2 (List.mem_of_mem_drop (List.mem_of_getElem? hy1)))
      refine ⟨by rw [List.length_map, List.length_map, List.length_take]; omega, fun _ s0 H0 C cl fp => ?_, fun z => nomatch z⟩
      refine de_cmp op_ge (nomark _) <| dv 1 <| dv 2 <| dop_I0 rfl ⟨_, .dat .nil, rfl, ?_, rfl⟩
      rw [List.take_add_one, hd, List.map_append, List.map_append]
      rfl
    · rintro acc s ⟨rfl, rfl⟩ p
      rw [List.take_length]
      refine da_nil <| dcall_all (.own p _) ⟨_, .dat _, ?_⟩
      rw [List.all_map]
      exact h
end
end K33

namespace K33
open PySem PySem.Spec PyProof.Rows L2 DL LH
abbrev sTurned : Stmt := topS 15
abbrev sGrown : Stmt := topS 17
abbrev sMayFollow : Stmt := topS 18
abbrev sIsLadderOf : Stmt := topS 19
abbrev sIsLadder : Stmt := topS 20
theorem scTurned : FnScope ["shape", "many", "one"] ["shape"] (defScope sTurned) := ⟨rfl, rfl, rfl, by decide +kernel, rfl, by decide +kernel, by decide +kernel⟩
theorem scGrown : FnScope ["ahead", "shape", "found", "one", "other"] ["ahead", "shape"] (defScope sGrown) := ⟨rfl, rfl, rfl, by decide +kernel, rfl, by decide +kernel, by decide +kernel⟩
def nD (n : Nat) : PyData := .int n
def nsD (l : List Nat) : List PyData := l.map nD
theorem nsD_get {l : List Nat} {i : Nat} {d : PyData} (h : (nsD l)[i]? = some d) : ∃ n, l[i]? = some n ∧ d = nD n := by
  unfold nsD at h
  rw [List.getElem?_map] at h
  cases e : l[i]? with
  | none => rw [e] at h; cases h
  | some n => rw [e] at h; cases h; exact ⟨n, rfl, rfl⟩
/-- how many are at least m -/
def atLeast (l : List Nat) (m : Nat) : Nat := (l.filter fun n => decide (m ≤ n)).length
def turned (l : List Nat) : List Nat := (List.range (l.headD 0)).map fun m => atLeast l (m + 1)
section
variable {P : Program} {w : World} {K : PySem.W.Frag} {mg : Str → Option Value} {base : Heap}
def fTurned : Pd := fun m ss st k xk => ∃ (x : Nat) (l : List Nat), ss = [.dat (.tuple (nsD (x :: l)))] ∧ x ≤ 1000 ∧ l.length ≤ 1000 ∧ k (.dat (.tuple (nsD (turned (x :: l))))) st
theorem ok_turned (D : Df K mg "turned_shape_by" sTurned ["shape"]) (m1 : mg "tuple" = none) (m2 : mg "len" = none) (m3 : mg "range" = none) : Cal P w K mg base "turned_shape_by" sTurned ["shape"] 1 fTurned := by
  refine cal_of D scTurned (by rintro _ _ _ _ _ ⟨_, _, rfl, _⟩; rfl) fun f cdv A outer s1 H E c hr tk hp ss st k h => ?_
  obtain ⟨x, l, rfl, hx, hl, h⟩ := h
  refine db_one (ds_ret <| de_callTy call_tuple_of (by rfl) m1 boot_tuple <| da_cons <| dlc 1 scTurned.nd <| di_range2 m3 <| de_int ⟨_, rfl, de_bin op_add <| de_ix ix_tup <| dv 0 <| de_int <| dop_ixT (d := nD x) (atI_nat (j := 0) rfl) <| de_int <| dop_I0 rfl ⟨_, rfl, ⟨by decide, by decide, by omega, by omega⟩, ?_⟩⟩)
  refine ⟨fun i acc s => acc = ((List.range i).map fun m => nD (atLeast (x :: l) (m + 1))) ∧ st = s, ⟨rfl, rfl⟩, ?_, ?_⟩
  · rintro i d acc s hd ⟨rfl, rfl⟩
    obtain ⟨hi, rfl⟩ := ints_get hd
    have hix : i < x := by omega
    refine ⟨by rw [List.length_map, List.length_range]; omega, fun _ s0 H0 C cl fp => ?_, fun z => nomatch z⟩
    refine de_callB call_len_seq (by rfl) m2 boot_len <| da_cons <| dlc 2 scTurned.nd <| di_tup <| dv 0 ⟨_, rfl, fun j acc2 s2 => acc2 = nsD (((x :: l).take j).filter fun n => decide (i + 1 ≤ n)) ∧ st = s2, ⟨rfl, rfl⟩, ?_, ?_⟩
    · rintro j d acc2 s2 hd2 ⟨rfl, rfl⟩
      obtain ⟨n, hn, rfl⟩ := nsD_get hd2
      refine ⟨?_, fun s0 H0 C cl fp => dt_cmp op_ge (nomark _) <| dv 2 <| dv 1 <| dop_I0 rfl ⟨_, rfl, fun e => ?_, fun e => ?_⟩⟩
      · unfold nsD
        rw [List.length_map]
        refine Nat.lt_of_le_of_lt (List.length_filter_le _ _) ?_
        rw [List.length_take, List.length_cons]
        omega
      · have e1 : i + 1 ≤ n := by have := of_decide_eq_true e; omega
        refine fun s0 H0 C cl fp => dv 2 ⟨_, .dat .nil, rfl, ?_, rfl⟩
        unfold nsD
        rw [List.take_add_one, hn, List.filter_append, List.map_append]
        simp [e1]
      · have e1 : ¬ i + 1 ≤ n := fun z => of_decide_eq_false e (by omega)
        refine ⟨rfl, ?_, rfl⟩
        unfold nsD
        rw [List.take_add_one, hn, List.filter_append, List.map_append]
        simp [e1]
    · rintro acc2 s2 ⟨rfl, rfl⟩ p
      refine da_nil <| dcall_len (.own p _) (.lst _) ⟨_, .dat .nil, rfl, ?_, rfl⟩
      have e1 : (x :: l).take (nsD (x :: l)).length = x :: l := by unfold nsD; rw [List.length_map, List.take_length]
      rw [e1, List.range_succ, List.map_append]
      unfold nsD
      rw [List.length_map]
      rfl
  · rintro acc s ⟨rfl, rfl⟩ p
    refine da_nil <| dcall_tuple (.own p _) (.lst _) ⟨_, .dat _, ?_⟩
    have e1 : ((List.range (intsD 1 ((x : Int) + 1 - 1).toNat).length).map fun m => nD (atLeast (x :: l) (m + 1))) = nsD (turned (x :: l)) := by
      rw [ints_len, show ((x : Int) + 1 - 1).toNat = x by omega]
      unfold turned nsD
      rw [List.map_map]
      rfl
    rw [e1]
    exact h
/-- what grew, where each grew by one at most -/
def grow : List Nat → List Nat → Option (List Nat)
  | a :: as, b :: bs => if b = a then grow as bs else if b = a + 1 then (grow as bs).map (b :: ·) else none
  | _, _ => some []
theorem grow_step {as bs : List Nat} {i a b : Nat} (h1 : as[i]? = some a) (h2 : bs[i]? = some b) : grow (as.drop i) (bs.drop i) = if b = a then grow (as.drop (i + 1)) (bs.drop (i + 1)) else if b = a + 1 then (grow (as.drop (i + 1)) (bs.drop (i + 1))).map (b :: ·) else none := by
  have e1 : as.drop i = a :: as.drop (i + 1) := by
    have hi := (List.getElem?_eq_some_iff.mp h1).1
    rw [List.drop_eq_getElem_cons hi]
    rw [List.getElem?_eq_getElem hi] at h1
    rw [Option.some.inj h1]
  have e2 : bs.drop i = b :: bs.drop (i + 1) := by
    have hi := (List.getElem?_eq_some_iff.mp h2).1
    rw [List.drop_eq_getElem_cons hi]
    rw [List.getElem?_eq_getElem hi] at h2
    rw [Option.some.inj h2]
  rw [e1, e2, grow]
theorem grow_end {as bs : List Nat} {i : Nat} (h : min as.length bs.length ≤ i) : grow (as.drop i) (bs.drop i) = some [] := by
  rcases Nat.le_total as.length bs.length with z | z
  · rw [List.drop_eq_nil_of_le (show as.length ≤ i by omega), grow]
    intro _ _ _ _ e
    cases e
  · rw [List.drop_eq_nil_of_le (show bs.length ≤ i by omega), grow]
    intro _ _ _ _ _ e
    cases e
theorem in01 (z : Int) : inD (.int z) [.int 0, .int 1] = (decide ((0 : Int) = z) || decide ((1 : Int) = z)) := by
  show (PyData.eqv (.int 0) (.int z) || (PyData.eqv (.int 1) (.int z) || false)) = _
  rw [Bool.or_false, PyData.eqv, PyData.eqv]
  rfl
def growD : Option (List Nat) → PyData
  | none => .none
  | some l => .list (nsD l)
def fGrown : Pd := fun m ss st k xk => ∃ as bs : List Nat, ss = [.dat (.tuple (nsD as)), .dat (.tuple (nsD bs))] ∧ as.length ≤ 1000 ∧ k (.dat (growD (grow as bs))) st
theorem ok_grown (D : Df K mg "grown" sGrown ["ahead", "shape"]) (m1 : mg "zip" = none) : Cal P w K mg base "grown" sGrown ["ahead", "shape"] 1 fGrown := by
  refine cal_of D scGrown (by rintro _ _ _ _ _ ⟨_, _, rfl, _⟩; rfl) fun f cdv A outer s1 H E c hr tk hp ss st k h => ?_
  obtain ⟨as, bs, rfl, hl, h⟩ := h
  refine db_cons (dset 2 scGrown.nd <| de_lst <| da_nil ⟨_, .nil, by simp, fun p0 => ?_⟩)
  refine db_cons (ds_for hp rfl <| di_zipT m1 <| dv 0 <| dv 1 ⟨_, _, rfl, rfl, fun i ρ s => ∃ (p : Addr) (s3 s4 : DL.Slot) (pre : List Nat), ρ = [.dat (.tuple (nsD as)), .dat (.tuple (nsD bs)), .own p (nsD pre), s3, s4] ∧ st = s ∧ pre.length ≤ i ∧ i ≤ 1000 ∧ grow as bs = (grow (as.drop i) (bs.drop i)).map (pre ++ ·), ⟨p0, _, _, [], rfl, rfl, Nat.le_refl _, by omega, by simp⟩, ?_, ?_⟩)
  · rintro i d ρ s hd ⟨p, s3, s4, pre, rfl, rfl, hp1, hi, hg⟩
    obtain ⟨x, y, hx, hy, rfl⟩ := zipD_get hd
    obtain ⟨a, ha, rfl⟩ := nsD_get hx
    obtain ⟨b, hb, rfl⟩ := nsD_get hy
    have hia := (List.getElem?_eq_some_iff.mp ha).1
    rw [grow_step ha hb] at hg
    refine dg_tup rfl <| dgs_cons <| dgn 3 scGrown.nd <| dgs_cons <| dgn 4 scGrown.nd <| dgs_nil ?_
    refine db_cons (ds_if <| dt_cmp op_notIn_seq (by rfl) <| de_bin op_sub <| dv 4 <| dv 3 <| dop_I0 rfl <| de_tup <| da_cons <| de_int <| da_cons <| de_int <| da_nil ⟨_, .dat (.dat .nil), by simp, dop_in (neg := true) (.dat _) (.tup _) rfl rfl ⟨_, rfl, fun e => ?_, fun e => db_nil ?_⟩⟩)
    · have e2 : inD (.int ((b : Int) - a)) [.int 0, .int 1] = false := by simpa using e
      rw [in01, Bool.or_eq_false_iff] at e2
      have n1 : ¬ b = a := fun z => of_decide_eq_false e2.1 (by omega)
      have n2 : ¬ b = a + 1 := fun z => of_decide_eq_false e2.2 (by omega)
      rw [if_neg n1, if_neg n2] at hg
      refine db_one (ds_ret <| de_non ⟨_, .dat _, ?_⟩)
      rw [hg] at h
      exact h
    · have e2 : inD (.int ((b : Int) - a)) [.int 0, .int 1] = true := by simpa using e
      rw [in01, Bool.or_eq_true] at e2
      refine db_one (ds_if <| dt_cmp op_gt (nomark _) <| dv 4 <| dv 3 <| dop_I0 rfl ⟨_, rfl, fun e3 => ?_, fun e3 => db_nil ?_⟩)
      · have n1 : ¬ b = a := fun z => by have := of_decide_eq_true e3; omega
        have n2 : b = a + 1 := by
          rcases e2 with z | z
          · have := of_decide_eq_true z; omega
          · have := of_decide_eq_true z; omega
        rw [if_neg n1, if_pos n2] at hg
        refine db_one (ds_append (i := 2) rfl (.inl rfl) rfl <| dv 4 ⟨_, _, .dat .nil, rfl, ?_, ?_⟩)
        · unfold nsD
          rw [List.length_map]
          omega
        · refine ⟨p, .dat (nD a), .dat (nD b), pre ++ [b], ?_, rfl, by rw [List.length_append]; simp; omega, by omega, ?_⟩
          · unfold nsD
            rw [List.map_append]
            rfl
          · rw [hg, Option.map_map]
            congr 1
            funext l
            simp
      · have n1 : b = a := by
          have z0 := of_decide_eq_false e3
          rcases e2 with z | z
          · have := of_decide_eq_true z; omega
          · have := of_decide_eq_true z; omega
        rw [if_pos n1] at hg
        exact ⟨p, _, _, pre, rfl, rfl, by omega, by omega, hg⟩
  · rintro ρ s ⟨p, s3, s4, pre, rfl, rfl, _, _, hg⟩
    rw [zipD_len, grow_end (by unfold nsD; rw [List.length_map, List.length_map]; exact Nat.le_refl _)] at hg
    refine db_one (ds_ret <| dv 2 ⟨_, .vlst p _ 2 rfl, ?_⟩)
    rw [hg] at h
    simpa [growD] using h
end
end K33

namespace DL
open PySem PySem.Spec PyProof.Rows L2
section
variable {c : Cz} {ρ : Env} {st : c.m.St} {k : Slot → Env → c.m.St → Prop} {K : PySem.W.Frag}
def isNone : PyData → Bool
  | .none => true
  | _ => false
/-- x is None -/
theorem dop_isN {d : PyData} (h : k (.dat (.bool (isNone d))) ρ st) : DOp K c (fun x y H Q => y = .non ∧ Q (.bl (decide (x = .non))) H) (.dat d) (.dat .none) ρ st k := by
  intro τ σ H Q v1 v2 hh hl hk
  have e2 : v2 = .non := Option.some.inj (hh.int1 (w := .non) rfl)
  obtain ⟨v', e, qd⟩ := hh.dat (List.mem_append_right _ (List.mem_cons_of_mem _ List.mem_cons_self))
  cases e
  have e1 : decide (v1 = .non) = isNone d := by
    cases qd <;> first | rfl | exact decide_eq_false (fun z => by cases z) | exact decide_eq_true rfl
  refine ⟨e2, ?_⟩
  rw [e1]
  exact hk _ _ _ _ _ h (hh.two (v := .bl _) rfl) hl
end
end DL
namespace K33
open PySem PySem.Spec PyProof.Rows L2 DL LH
theorem scMayFollow : FnScope ["ahead", "news", "one", "late"] ["ahead", "news"] (defScope sMayFollow) := ⟨rfl, rfl, rfl, by decide +kernel, rfl, by decide +kernel, by decide +kernel⟩
def upTo (l : List Nat) (m : Nat) : Nat := (l.filter fun n => decide (n ≤ m)).length
def below (l : List Nat) (m : Nat) : Nat := (l.filter fun n => decide (n < m)).length
def follows (ah : Option (List Nat)) (nw : List Nat) : Bool := match ah with
  | none => true
  | some l => nw.all fun one => decide (upTo nw one ≤ below l one)
section
variable {P : Program} {w : World} {K : PySem.W.Frag} {mg : Str → Option Value} {base : Heap}
def fMayFollow : Pd := fun m ss st k xk => ∃ (ah : Option (List Nat)) (nw : List Nat), ss = [.dat (growD ah), .dat (.list (nsD nw))] ∧ nw.length ≤ 1000 ∧ (∀ l, ah = some l → l.length ≤ 1000) ∧ k (.dat (.bool (follows ah nw))) st
theorem ok_may_follow (D : Df K mg "may_follow" sMayFollow ["ahead", "news"]) (m1 : mg "len" = none) : Cal P w K mg base "may_follow" sMayFollow ["ahead", "news"] 1 fMayFollow := by
  refine cal_of D scMayFollow (by rintro _ _ _ _ _ ⟨_, _, rfl, _⟩; rfl) fun f cdv A outer s1 H E c hr tk hp ss st k h => ?_
  obtain ⟨ah, nw, rfl, hl, hl2, h⟩ := h
  refine db_cons (ds_if <| dt_cmp op_isN (nomark _) <| dv 0 <| de_non <| dop_isN ⟨_, rfl, fun e => ?_, fun e => db_nil ?_⟩)
  · cases ah with
    | none => exact db_one (ds_ret <| de_bl ⟨_, .dat _, h⟩)
    | some l => cases e
  cases ah with
  | none => cases e
  | some l =>
    have hl3 := hl2 l rfl
    refine db_cons (ds_for hp rfl <| di_list <| dv 1 <| .inl ⟨_, rfl, fun i ρ s => ∃ s2, ρ = [.dat (.list (nsD l)), .dat (.list (nsD nw)), s2, .any] ∧ st = s ∧ (nw.take i).all (fun one => decide (upTo nw one ≤ below l one)) = true, ⟨_, rfl, rfl, rfl⟩, ?_, ?_⟩)
    · rintro i d ρ s hd ⟨s2, rfl, rfl, hall⟩
      obtain ⟨n, hn, rfl⟩ := nsD_get hd
      refine dgn 2 scMayFollow.nd ?_
      have lc : ∀ {l' : List Nat}, l'.length ≤ 1000 → ∀ j : Nat, ((l'.take j).filter fun n' => decide (n' ≤ n)).length < 16000000 ∧ ((l'.take j).filter fun n' => decide (n' < n)).length < 16000000 := fun {l'} hz j => by
        constructor
        · refine Nat.lt_of_le_of_lt (List.length_filter_le _ _) ?_
          rw [List.length_take]
          omega
        · refine Nat.lt_of_le_of_lt (List.length_filter_le _ _) ?_
          rw [List.length_take]
          omega
      refine db_one (ds_if <| dt_cmp op_gt (nomark _) <| de_callB call_len_seq (by rfl) m1 boot_len <| da_cons <| dlc 3 scMayFollow.nd <| di_list <| dv 1 <| .inl ⟨_, rfl, fun j acc s2 => acc = nsD ((nw.take j).filter fun n' => decide (n' ≤ n)) ∧ st = s2, ⟨rfl, rfl⟩, ?_, ?_⟩)
      · rintro j d acc s2 hd2 ⟨rfl, rfl⟩
        obtain ⟨n', hn', rfl⟩ := nsD_get hd2
        refine ⟨by unfold nsD; rw [List.length_map]; exact (lc hl j).1, fun s0 H0 C cl fp => dt_cmp op_le (nomark _) <| dv 3 <| dv 2 <| dop_I0 rfl ⟨_, rfl, fun e => ?_, fun e => ?_⟩⟩
        · have e1 : n' ≤ n := by have := of_decide_eq_true e; omega
          refine fun s0 H0 C cl fp => dv 3 ⟨_, .dat .nil, rfl, ?_, rfl⟩
          unfold nsD
          rw [List.take_add_one, hn', List.filter_append, List.map_append]
          simp [e1]
        · have e1 : ¬ n' ≤ n := fun z => of_decide_eq_false e (by omega)
          refine ⟨rfl, ?_, rfl⟩
          unfold nsD
          rw [List.take_add_one, hn', List.filter_append, List.map_append]
          simp [e1]
      rintro acc s2 ⟨rfl, rfl⟩ p
      refine da_nil <| dcall_len (.own p _) (.lst _) ?_
      refine de_callB call_len_seq (by rfl) m1 boot_len <| da_cons <| dlc 3 scMayFollow.nd <| di_list <| dv 0 <| .inl ⟨_, rfl, fun j acc s2 => acc = nsD ((l.take j).filter fun n' => decide (n' < n)) ∧ st = s2, ⟨rfl, rfl⟩, ?_, ?_⟩
      · rintro j d acc s2 hd2 ⟨rfl, rfl⟩
        obtain ⟨n', hn', rfl⟩ := nsD_get hd2
        refine ⟨by unfold nsD; rw [List.length_map]; exact (lc hl3 j).2, fun s0 H0 C cl fp => dt_cmp op_lt (nomark _) <| dv 3 <| dv 2 <| dop_I0 rfl ⟨_, rfl, fun e => ?_, fun e => ?_⟩⟩
        · have e1 : n' < n := by have := of_decide_eq_true e; omega
          refine fun s0 H0 C cl fp => dv 3 ⟨_, .dat .nil, rfl, ?_, rfl⟩
          unfold nsD
          rw [List.take_add_one, hn', List.filter_append, List.map_append]
          simp [e1]
        · have e1 : ¬ n' < n := fun z => of_decide_eq_false e (by omega)
          refine ⟨rfl, ?_, rfl⟩
          unfold nsD
          rw [List.take_add_one, hn', List.filter_append, List.map_append]
          simp [e1]
      rintro acc s2 ⟨rfl, rfl⟩ p2
      have t1 : nw.take (nsD nw).length = nw := by unfold nsD; rw [List.length_map, List.take_length]
      have t2 : l.take (nsD l).length = l := by unfold nsD; rw [List.length_map, List.take_length]
      rw [t1, t2]
      refine da_nil <| dcall_len (.own p2 _) (.lst _) <| dop_I0 rfl ⟨_, rfl, fun e => ?_, fun e => db_nil ?_⟩
      · have e1 : ¬ upTo nw n ≤ below l n := fun z => by
          have e2 := of_decide_eq_true e
          unfold nsD at e2
          rw [List.length_map, List.length_map] at e2
          unfold upTo below at z
          omega
        have e2 : follows (some l) nw = false := by
          unfold follows
          refine List.all_eq_false.mpr ⟨n, List.mem_of_getElem? hn, ?_⟩
          simpa using e1
        exact db_one (ds_ret <| de_bl ⟨_, .dat _, by rw [e2] at h; exact h⟩)
      · have e1 : upTo nw n ≤ below l n := by
          have e2 := of_decide_eq_false e
          unfold nsD at e2
          rw [List.length_map, List.length_map] at e2
          unfold upTo below
          omega
        refine ⟨.dat (nD n), rfl, rfl, ?_⟩
        rw [List.take_add_one, hn, List.all_append, hall]
        simp [e1]
    · rintro ρ s ⟨s2, rfl, rfl, hall⟩
      have t1 : nw.take (nsD nw).length = nw := by unfold nsD; rw [List.length_map, List.take_length]
      rw [t1] at hall
      refine db_one (ds_ret <| de_bl ⟨_, .dat _, ?_⟩)
      have e2 : follows (some l) nw = true := hall
      rw [e2] at h
      exact h
end
end K33

namespace K33
open PySem PySem.Spec PyProof.Rows L2 DL LH
def lenD : PyData → Nat
  | .tuple ds => ds.length
  | _ => 0
theorem shape_tup {d : PyData} (h : isShape d = true) : ∃ ds, d = .tuple ds := by
  cases d <;> first | exact ⟨_, rfl⟩ | cases h
section
variable {P : Program} {w : World} {K : PySem.W.Frag} {mg : Str → Option Value} {base : Heap}
def fNeedShapes (CO CT : Addr) : Pd := fun m ss st k xk => ∃ d1 d2, ss = [.dat d1, .dat d2] ∧ (isShape d1 = false → xk ⟨.ref CO, []⟩ st) ∧ (isShape d1 = true → (isShape d2 && decide (lenD d2 = lenD d1)) = false → xk ⟨.ref CT, []⟩ st) ∧ (isShape d1 = true → isShape d2 = true → lenD d2 = lenD d1 → k (.dat .none) st)
theorem ok_need_shapes {CO CT CS : Addr} (D : Df K mg "need_shapes" sNeedShapes ["one", "other"]) (C1 : Cal P w K mg base "is_shape_of" sIsShapeOf ["thing"] 3 fIsShape) (EO : ErrC K mg "BadOne" CO CS) (ET : ErrC K mg "BadOther" CT CS) (m1 : mg "len" = none) : Cal P w K mg base "need_shapes" sNeedShapes ["one", "other"] 4 (fNeedShapes CO CT) := by
  refine cal_of D scNeedShapes (by rintro _ _ _ _ _ ⟨_, _, rfl, _⟩; rfl) fun f cdv A outer s1 H E c hr tk hp ss st k h => ?_
  obtain ⟨d1, d2, rfl, h1, h2, h3⟩ := h
  refine db_cons (ds_if <| dt_not <| dt_val <| dc_call C1 hr tk <| da_cons <| dv 0 <| da_nil fun A => ⟨d1, rfl, isShape d1, rfl, ⟨fun e => db_one (ds_raiseE EO rfl tk (h1 (by simpa using e))), fun e => db_nil ?_⟩⟩)
  have e1 : isShape d1 = true := by simpa using e
  refine db_one (ds_if <| dt_w <| dw_or <| dt_not <| dt_val <| dc_call C1 hr tk <| da_cons <| dv 1 <| da_nil fun A => ⟨d2, rfl, isShape d2, rfl, ⟨fun e2 => ⟨fun _ => ?_, fun z => absurd z (by decide)⟩, fun e2 => ?_⟩⟩)
  · have e3 : isShape d2 = false := by simpa using e2
    exact db_one (ds_raiseE ET rfl tk (h2 e1 (by rw [e3]; rfl)))
  have e3 : isShape d2 = true := by simpa using e2
  obtain ⟨ds1, rfl⟩ := shape_tup e1
  obtain ⟨ds2, rfl⟩ := shape_tup e3
  refine dw_or1 <| dt_cmp op_ne (nomark _) <| de_callB call_len_seq (by rfl) m1 boot_len <| da_cons <| dv 1 <| da_nil <| dcall_len (.dat _) (.tup _) <| de_callB call_len_seq (by rfl) m1 boot_len <| da_cons <| dv 0 <| da_nil <| dcall_len (.dat _) (.tup _) <| dop_ne (x := .int _) (y := .int _) rfl rfl rfl ⟨_, rfl, ⟨fun e4 => ?_, fun e4 => db_nil ?_⟩⟩
  · have e5 : ¬ ds2.length = ds1.length := fun z => by
      have e6 : decide (V.int (ds2.length : Int) = V.int (ds1.length : Int)) = false := by simpa using e4
      exact of_decide_eq_false e6 (by rw [z])
    exact db_one (ds_raiseE ET rfl tk (h2 e1 (by rw [e3]; exact decide_eq_false e5)))
  · have e6 : decide (V.int (ds2.length : Int) = V.int (ds1.length : Int)) = true := by simpa using e4
    have e5 : ds2.length = ds1.length := Int.ofNat.inj (V.int.inj (of_decide_eq_true e6))
    exact h3 e1 e3 e5
def fNeedThree (CO CT CW : Addr) : Pd := fun m ss st k xk => ∃ d1 d2 d3, ss = [.dat d1, .dat d2, .dat d3] ∧ (isShape d1 = false → xk ⟨.ref CO, []⟩ st) ∧ (isShape d1 = true → (isShape d2 && decide (lenD d2 = lenD d1)) = false → xk ⟨.ref CT, []⟩ st) ∧
  (isShape d1 = true → isShape d2 = true → lenD d2 = lenD d1 → ((isShape d3 && decide (lenD d3 = lenD d1)) = false → xk ⟨.ref CW, []⟩ st) ∧ (isShape d3 = true → lenD d3 = lenD d1 → k (.dat .none) st))
theorem ok_need_three {CO CT CW CS : Addr} (D : Df K mg "need_three" sNeedThree ["one", "other", "whole"]) (C1 : Cal P w K mg base "is_shape_of" sIsShapeOf ["thing"] 3 fIsShape) (C2 : Cal P w K mg base "need_shapes" sNeedShapes ["one", "other"] 4 (fNeedShapes CO CT)) (EW : ErrC K mg "BadWhole" CW CS) (m1 : mg "len" = none) : Cal P w K mg base "need_three" sNeedThree ["one", "other", "whole"] 5 (fNeedThree CO CT CW) := by
  refine cal_of D scNeedThree (by rintro _ _ _ _ _ ⟨_, _, _, rfl, _⟩; rfl) fun f cdv A outer s1 H E c hr tk hp ss st k h => ?_
  obtain ⟨d1, d2, d3, rfl, h1, h2, h3⟩ := h
  refine db_cons (ds_expr <| dc_call C2 hr tk <| da_cons <| dv 0 <| da_cons <| dv 1 <| da_nil fun A => ⟨d1, d2, rfl, h1, h2, fun e1 e2 e3 => ?_⟩)
  obtain ⟨h4, h5⟩ := h3 e1 e2 e3
  refine db_one (ds_if <| dt_w <| dw_or <| dt_not <| dt_val <| dc_call C1 (hr.mono (by decide)) tk <| da_cons <| dv 2 <| da_nil fun A => ⟨d3, rfl, isShape d3, rfl, ⟨fun e4 => ⟨fun _ => ?_, fun z => absurd z (by decide)⟩, fun e4 => ?_⟩⟩)
  · have e5 : isShape d3 = false := by simpa using e4
    exact db_one (ds_raiseE EW rfl tk (h4 (by rw [e5]; rfl)))
  have e5 : isShape d3 = true := by simpa using e4
  obtain ⟨ds1, rfl⟩ := shape_tup e1
  obtain ⟨ds3, rfl⟩ := shape_tup e5
  refine dw_or1 <| dt_cmp op_ne (nomark _) <| de_callB call_len_seq (by rfl) m1 boot_len <| da_cons <| dv 2 <| da_nil <| dcall_len (.dat _) (.tup _) <| de_callB call_len_seq (by rfl) m1 boot_len <| da_cons <| dv 0 <| da_nil <| dcall_len (.dat _) (.tup _) <| dop_ne (x := .int _) (y := .int _) rfl rfl rfl ⟨_, rfl, ⟨fun e6 => ?_, fun e6 => db_nil ?_⟩⟩
  · have e7 : ¬ ds3.length = ds1.length := fun z => by
      have e8 : decide (V.int (ds3.length : Int) = V.int (ds1.length : Int)) = false := by simpa using e6
      exact of_decide_eq_false e8 (by rw [z])
    exact db_one (ds_raiseE EW rfl tk (h4 (by rw [e5]; exact decide_eq_false e7)))
  · have e8 : decide (V.int (ds3.length : Int) = V.int (ds1.length : Int)) = true := by simpa using e6
    exact h5 e5 (Int.ofNat.inj (V.int.inj (of_decide_eq_true e8)))
end
end K33

namespace K33
open PySem PySem.Spec PyProof.Rows L2 DL LH
theorem scIsLadderOf : FnScope ["one", "other", "whole", "thing", "counts", "ahead", "at", "many", "news", "shape"] ["one", "other", "whole", "thing"] (defScope sIsLadderOf) := ⟨rfl, rfl, rfl, by decide +kernel, rfl, by decide +kernel, by decide +kernel⟩
/-- the numbers of a shape -/
def natsOf : PyData → List Nat
  | .tuple ds => ds.map fun d => match d with | .int i => i.toNat | _ => 0
  | _ => []
theorem shape_nats {d : PyData} (h : isShape d = true) : d = .tuple (nsD (natsOf d)) := by
  obtain ⟨ds, rfl⟩ := shape_tup h
  rw [isShape_tup, Bool.and_eq_true, Bool.and_eq_true] at h
  have hp := h.2.1
  have go : ∀ l : List PyData, l.all isP = true → nsD (l.map fun d => match d with | .int i => i.toNat | _ => 0) = l := by
    intro l
    induction l with
    | nil => intro _; rfl
    | cons x l ih =>
      intro hl
      rw [List.all_cons, Bool.and_eq_true] at hl
      obtain ⟨i, rfl⟩ := isP_int hl.1
      have h0 : 0 ≤ i := by
        have z := hl.1
        unfold isP at z
        rw [Bool.and_eq_true] at z
        exact of_decide_eq_true z.1
      show nD i.toNat :: nsD _ = _
      rw [ih hl.2]
      unfold nD
      rw [Int.toNat_of_nonneg h0]
  unfold natsOf
  rw [go ds hp]
/-- step by step: what grows is as many as told, and follows what grew ahead -/
def climbs : Option (List Nat) → List (List Nat) → List Nat → Bool
  | ah, a :: b :: r, m :: ms => match grow a b with
    | none => false
    | some nw => decide (nw.length = m) && (follows ah nw && climbs (some nw) (b :: r) ms)
  | _, _, _ => true
def isLadder (one other whole : List Nat) : PyData → Bool
  | .tuple ts => decide (ts.length = (turned other).length + 1) && (ts.all isShape && (PyData.eqv (ts.headD .none) (.tuple (nsD one)) && (PyData.eqv (ts.getLastD .none) (.tuple (nsD whole)) && (ts.all (fun t => decide (lenD t = one.length)) && climbs none (ts.map natsOf) (turned other)))))
  | _ => false
theorem isLadder_tup (one other whole : List Nat) (ts : List PyData) : isLadder one other whole (.tuple ts) = (decide (ts.length = (turned other).length + 1) && (ts.all isShape && (PyData.eqv (ts.headD .none) (.tuple (nsD one)) && (PyData.eqv (ts.getLastD .none) (.tuple (nsD whole)) && (ts.all (fun t => decide (lenD t = one.length)) && climbs none (ts.map natsOf) (turned other)))))) := rfl
section
variable {P : Program} {w : World} {K : PySem.W.Frag} {mg : Str → Option Value} {base : Heap}
def fIsLadderOf : Pd := fun m ss st k xk => ∃ (one whole : List Nat) (x : Nat) (l : List Nat) (th : PyData), ss = [.dat (.tuple (nsD one)), .dat (.tuple (nsD (x :: l))), .dat (.tuple (nsD whole)), .dat th] ∧ one.length ≤ 1000 ∧ x ≤ 24 ∧ l.length ≤ 3 ∧ k (.dat (.bool (isLadder one (x :: l) whole th))) st
theorem grow_le : ∀ {as bs nw : List Nat}, grow as bs = some nw → nw.length ≤ as.length
  | [], _, _, h => by
    simp [grow] at h
    subst h
    exact Nat.le_refl _
  | _ :: _, [], _, h => by
    simp [grow] at h
    subst h
    exact Nat.zero_le _
  | a :: as, b :: bs, nw, h => by
    rw [grow] at h
    split at h
    · exact Nat.le_trans (grow_le h) (Nat.le_succ _)
    · split at h
      · obtain ⟨n2, h2, rfl⟩ := Option.map_eq_some_iff.mp h
        exact Nat.succ_le_succ (grow_le h2)
      · cases h
theorem turned_len (x : Nat) (l : List Nat) : (turned (x :: l)).length = x := by unfold turned; rw [List.length_map, List.length_range]; rfl
theorem nsD_len (l : List Nat) : (nsD l).length = l.length := List.length_map _
theorem ok_nsD (l : List Nat) : okD (.tuple (nsD l)) := by
  have dep : PyData.depthAll (nsD l) ≤ 0 := depthAll_le.mpr fun x hx => by
    obtain ⟨n, _, rfl⟩ := List.mem_map.mp hx
    exact Nat.le_refl _
  refine ⟨?_, ?_⟩
  · rw [PyData.canLay0]
    refine canAll_iff.mpr fun x hx => ?_
    obtain ⟨n, _, rfl⟩ := List.mem_map.mp hx
    rfl
  · rw [PyData.depth]
    omega
theorem ok_is_ladder_of (D : Df K mg "is_ladder_of" sIsLadderOf ["one", "other", "whole", "thing"]) (C1 : Cal P w K mg base "is_shape_of" sIsShapeOf ["thing"] 3 fIsShape) (C2 : Cal P w K mg base "turned_shape_by" sTurned ["shape"] 1 fTurned) (C3 : Cal P w K mg base "grown" sGrown ["ahead", "shape"] 1 fGrown) (C4 : Cal P w K mg base "may_follow" sMayFollow ["ahead", "news"] 1 fMayFollow)
    (m1 : mg "isinstance" = none) (m2 : mg "tuple" = none) (m3 : mg "len" = none) (m4 : mg "all" = none) (m5 : mg "enumerate" = none) : Cal P w K mg base "is_ladder_of" sIsLadderOf ["one", "other", "whole", "thing"] 4 fIsLadderOf := by
  refine cal_of D scIsLadderOf (by rintro _ _ _ _ _ ⟨_, _, _, _, _, rfl, _⟩; rfl) fun f cdv A outer s1 H E c hr tk hp ss st k h => ?_
  obtain ⟨one, whole, x, l, th, rfl, ho, hx, hl, h⟩ := h
  refine db_cons (dset 4 scIsLadderOf.nd <| dc_call C2 (hr.mono (by decide)) tk <| da_cons <| dv 1 <| da_nil fun A => ⟨x, l, rfl, by omega, by omega, ?_⟩)
  refine db_cons (ds_if <| dt_w <| dw_or <| dt_not <| dt_val <| de_callB call_isi (by rfl) m1 boot_isinstance <| da_cons <| dv 3 <| da_cons <| de_bltn (v := .ty "tuple") m2 boot_tuple rfl <| da_nil <| dcall_isi (kit_tuple th) ⟨_, rfl, ⟨fun e => ⟨fun _ => ?_, fun z => absurd z (by decide)⟩, fun e => ?_⟩⟩)
  · have e2 : isLadder one (x :: l) whole th = false := by cases th <;> first | rfl | cases e
    exact db_one (ds_ret <| de_bl ⟨_, .dat _, by rw [e2] at h; exact h⟩)
  obtain ⟨ts, rfl⟩ : ∃ ts, th = .tuple ts := by
    cases th <;> first | exact ⟨_, rfl⟩ | cases e
  refine dw_or1 <| dt_cmp op_ne (nomark _) <| de_callB call_len_seq (by rfl) m3 boot_len <| da_cons <| dv 3 <| da_nil <| dcall_len (.dat _) (.tup _) <| de_bin op_add <| de_callB call_len_seq (by rfl) m3 boot_len <| da_cons <| dv 4 <| da_nil <| dcall_len (.dat _) (.tup _) <| de_int <| dop_I0 rfl <| dop_ne (x := .int _) (y := .int _) rfl rfl rfl ⟨_, rfl, ⟨fun e4 => ?_, fun e4 => db_nil ?_⟩⟩
  · have e5 : ¬ ts.length = (turned (x :: l)).length + 1 := fun z => by
      have e8 : decide (V.int (ts.length : Int) = V.int (((nsD (turned (x :: l))).length : Int) + 1)) = false := by simpa using e4
      exact of_decide_eq_false e8 (by rw [z, nsD_len]; rfl)
    have e6 : isLadder one (x :: l) whole (.tuple ts) = false := by
      rw [isLadder_tup, decide_eq_false e5]
      rfl
    exact db_one (ds_ret <| de_bl ⟨_, .dat _, by rw [e6] at h; exact h⟩)
  have e5 : ts.length = (turned (x :: l)).length + 1 := by
    have e8 : decide (V.int (ts.length : Int) = V.int (((nsD (turned (x :: l))).length : Int) + 1)) = true := by simpa using e4
    have := V.int.inj (of_decide_eq_true e8)
    rw [nsD_len] at this
    omega
  have hts : ts.length ≤ 25 := by rw [e5, turned_len]; omega
  refine db_cons (ds_if <| dt_not <| dt_val <| de_callB (cr_all rfl) (by rfl) m4 boot_all <| da_cons <| dlc 9 scIsLadderOf.nd <| di_tup <| dv 3 ⟨_, rfl, fun i acc s => acc = ((ts.take i).map isShape).map .bool ∧ st = s, ⟨rfl, rfl⟩, ?_, ?_⟩)
  · rintro i d acc s hd ⟨rfl, rfl⟩
    refine ⟨by rw [List.length_map, List.length_map, List.length_take]; omega, fun _ s0 H0 C cl fp => ?_, fun z => nomatch z⟩
    refine dc_call C1 hr LamX.takes0 <| da_cons <| dv 9 <| da_nil fun A => ⟨d, rfl, _, .dat .nil, rfl, ?_, rfl⟩
    rw [List.take_add_one, hd, List.map_append, List.map_append]
    rfl
  rintro acc s ⟨rfl, rfl⟩ p
  rw [List.take_length]
  refine da_nil <| dcall_all (.own p _) ⟨_, rfl, ?_⟩
  have ea : (ts.map isShape).all id = ts.all isShape := by rw [List.all_map]; rfl
  rw [ea]
  refine ⟨fun e6 => ?_, fun e6 => db_nil ?_⟩
  · have e7 : ts.all isShape = false := by simpa using e6
    have e8 : isLadder one (x :: l) whole (.tuple ts) = false := by
      rw [isLadder_tup, e7, Bool.false_and, Bool.and_false]
    exact db_one (ds_ret <| de_bl ⟨_, .dat _, by rw [e8] at h; exact h⟩)
  have e7 : ts.all isShape = true := by simpa using e6
  obtain ⟨t0, r, rfl⟩ : ∃ t0 r, ts = t0 :: r := by
    cases ts with
    | nil => cases e5
    | cons t0 r => exact ⟨t0, r, rfl⟩
  have sh : ∀ t ∈ t0 :: r, isShape t = true := fun t ht => List.all_eq_true.mp e7 t ht
  have okS : ∀ t ∈ t0 :: r, SeqAt.shaped t = true := fun t ht => by rw [shape_nats (sh t ht)]; exact shaped_ok (ok_nsD _)
  have hlast : L2.atI (t0 :: r) (-1) = some ((t0 :: r).getLastD .none) := by
    have e9 : (t0 :: r) = (t0 :: r).dropLast ++ [(t0 :: r).getLast (List.cons_ne_nil _ _)] := (List.dropLast_concat_getLast (List.cons_ne_nil _ _)).symm
    have e10 : (t0 :: r).getLastD .none = (t0 :: r).getLast (List.cons_ne_nil _ _) := by simp [List.getLastD_eq_getLast?, List.getLast?_eq_getLast (List.cons_ne_nil t0 r)]
    rw [e10]
    conv => lhs; rw [e9]
    exact atI_last _ _
  have hlm : (t0 :: r).getLastD .none ∈ t0 :: r := by
    have e10 : (t0 :: r).getLastD .none = (t0 :: r).getLast (List.cons_ne_nil _ _) := by simp [List.getLastD_eq_getLast?, List.getLast?_eq_getLast (List.cons_ne_nil t0 r)]
    rw [e10]
    exact List.getLast_mem _
  rw [isLadder_tup, e7, decide_eq_true e5, Bool.true_and, Bool.true_and] at h
  refine db_cons (ds_if <| dt_w <| dw_or <| dt_cmp (op_neD hr.units) (nomark _) <| de_ix ix_tup <| dv 3 <| de_int <| dop_ixT (d := t0) (atI_nat (j := 0) rfl) <| dv 0 <| dop_neD (.dat _) (.dat _) (okS t0 List.mem_cons_self) (shaped_ok (ok_nsD _)) ⟨_, rfl, ⟨fun e8 => ⟨fun _ => ?_, fun z => nomatch z⟩, fun e8 => ?_⟩⟩)
  · have e9 : PyData.eqv ((t0 :: r).headD .none) (.tuple (nsD one)) = false := by simpa using e8
    exact db_one (ds_ret <| de_bl ⟨_, .dat _, by rw [e9] at h; exact h⟩)
  have e9 : PyData.eqv ((t0 :: r).headD .none) (.tuple (nsD one)) = true := by simpa using e8
  rw [e9, Bool.true_and] at h
  refine dw_or <| dt_cmp (op_neD hr.units) (nomark _) <| de_ix ix_tup <| dv 3 <| de_neg <| de_int ⟨_, rfl, dop_ixT (d := (t0 :: r).getLastD .none) hlast <| dv 2 <| dop_neD (.dat _) (.dat _) (okS _ hlm) (shaped_ok (ok_nsD _)) ⟨_, rfl, ⟨fun e10 => ⟨fun _ => ?_, fun z => nomatch z⟩, fun e10 => ?_⟩⟩⟩
  · have e11 : PyData.eqv ((t0 :: r).getLastD .none) (.tuple (nsD whole)) = false := by simpa using e10
    exact db_one (ds_ret <| de_bl ⟨_, .dat _, by rw [e11] at h; exact h⟩)
  have e11 : PyData.eqv ((t0 :: r).getLastD .none) (.tuple (nsD whole)) = true := by simpa using e10
  rw [e11, Bool.true_and] at h
  have tupS : ∀ t ∈ t0 :: r, ∃ ds, t = .tuple ds := fun t ht => ⟨_, shape_nats (sh t ht)⟩
  generalize hts0 : t0 :: r = ts at *
  refine dw_or1 <| dt_not <| dt_val <| de_callB (cr_all rfl) (by rfl) m4 boot_all <| da_cons <| dlc 9 scIsLadderOf.nd <| di_tup <| dv 3 ⟨_, rfl, fun i acc s => acc = ((ts.take i).map fun t => decide (lenD t = one.length)).map .bool ∧ st = s, ⟨rfl, rfl⟩, ?_, ?_⟩
  · rintro i d acc s hd ⟨rfl, rfl⟩
    obtain ⟨ds, hds⟩ := tupS d (List.mem_of_getElem? hd)
    refine ⟨by rw [List.length_map, List.length_map, List.length_take]; omega, fun _ s0 H0 C cl fp => ?_, fun z => nomatch z⟩
    subst hds
    refine de_cmp op_eq (nomark _) <| de_callB call_len_seq (by rfl) m3 boot_len <| da_cons <| dv 9 <| da_nil <| dcall_len (.dat _) (.tup _) <| de_callB call_len_seq (by rfl) m3 boot_len <| da_cons <| dv 0 <| da_nil <| dcall_len (.dat _) (.tup _) <| dop_eq (x := .int _) (y := .int _) rfl rfl rfl ⟨_, .dat .nil, rfl, ?_, rfl⟩
    have eq : decide (V.int (ds.length : Int) = V.int ((nsD one).length : Int)) = decide (lenD (.tuple ds) = one.length) := by
      refine decide_eq_decide.mpr ⟨fun z => ?_, fun z => ?_⟩
      · have := V.int.inj z
        rw [nsD_len] at this
        exact Int.ofNat.inj this
      · rw [nsD_len]
        have z : ds.length = one.length := z
        rw [z]
    rw [eq, List.take_add_one, hd, List.map_append, List.map_append]
    rfl
  rintro acc s ⟨rfl, rfl⟩ p
  rw [List.take_length]
  refine da_nil <| dcall_all (.own p _) ⟨_, rfl, ?_⟩
  have ea : (ts.map fun t => decide (lenD t = one.length)).all id = ts.all fun t => decide (lenD t = one.length) := by rw [List.all_map]; rfl
  rw [ea]
  refine ⟨fun e12 => ?_, fun e12 => db_nil ?_⟩
  · have e13 : (ts.all fun t => decide (lenD t = one.length)) = false := by simpa using e12
    exact db_one (ds_ret <| de_bl ⟨_, .dat _, by rw [e13] at h; exact h⟩)
  have e13 : (ts.all fun t => decide (lenD t = one.length)) = true := by simpa using e12
  rw [e13, Bool.true_and] at h
  refine db_cons (dset 5 scIsLadderOf.nd <| de_non ?_)
  have hL : ∀ t ∈ ts, t = .tuple (nsD (natsOf t)) ∧ (natsOf t).length ≤ 1000 := fun t ht => by
    refine ⟨shape_nats (sh t ht), ?_⟩
    have z := of_decide_eq_true (List.all_eq_true.mp e13 t ht)
    rw [shape_nats (sh t ht)] at z
    have z2 : (nsD (natsOf t)).length = one.length := z
    rw [nsD_len] at z2
    omega
  refine db_cons (ds_for hp rfl <| di_enumT m5 <| dv 4 ⟨_, rfl, fun i ρ s => ∃ (ah : Option (List Nat)) (s6 s7 s8 s9 : DL.Slot), ρ = [.dat (.tuple (nsD one)), .dat (.tuple (nsD (x :: l))), .dat (.tuple (nsD whole)), .dat (.tuple ts), .dat (.tuple (nsD (turned (x :: l)))), .dat (growD ah), s6, s7, s8, s9] ∧ st = s ∧ (∀ l, ah = some l → l.length ≤ 1000) ∧ climbs none (ts.map natsOf) (turned (x :: l)) = climbs ah ((ts.map natsOf).drop i) ((turned (x :: l)).drop i), ⟨none, _, _, _, _, rfl, rfl, (fun _ z => nomatch z), rfl⟩, ?_, ?_⟩)
  · rintro i d ρ s hd ⟨ah, s6, s7, s8, s9, rfl, rfl, hah, hcl⟩
    obtain ⟨mm, hmm, rfl⟩ := enumD_get hd
    obtain ⟨m, hm, rfl⟩ := nsD_get hmm
    rw [Nat.zero_add]
    have hic := (List.getElem?_eq_some_iff.mp hm).1
    obtain ⟨a, ha⟩ : ∃ a, ts[i]? = some a := ⟨_, List.getElem?_eq_getElem (by omega)⟩
    obtain ⟨b, hb⟩ : ∃ b, ts[i + 1]? = some b := ⟨_, List.getElem?_eq_getElem (by omega)⟩
    obtain ⟨a1, a2⟩ := hL a (List.mem_of_getElem? ha)
    obtain ⟨b1, b2⟩ := hL b (List.mem_of_getElem? hb)
    have d1 : (ts.map natsOf).drop i = natsOf a :: natsOf b :: (ts.map natsOf).drop (i + 2) := by
      have q1 : (ts.map natsOf)[i]? = some (natsOf a) := by rw [List.getElem?_map, ha]; rfl
      have q2 : (ts.map natsOf)[i + 1]? = some (natsOf b) := by rw [List.getElem?_map, hb]; rfl
      obtain ⟨h1, g1⟩ := List.getElem?_eq_some_iff.mp q1
      obtain ⟨h2, g2⟩ := List.getElem?_eq_some_iff.mp q2
      rw [List.drop_eq_getElem_cons h1, List.drop_eq_getElem_cons h2, g1, g2]
    have d3 : (ts.map natsOf).drop (i + 1) = natsOf b :: (ts.map natsOf).drop (i + 2) := by
      have q2 : (ts.map natsOf)[i + 1]? = some (natsOf b) := by rw [List.getElem?_map, hb]; rfl
      obtain ⟨h2, g2⟩ := List.getElem?_eq_some_iff.mp q2
      rw [List.drop_eq_getElem_cons h2, g2]
    have d2 : (turned (x :: l)).drop i = m :: (turned (x :: l)).drop (i + 1) := by
      obtain ⟨h1, g1⟩ := List.getElem?_eq_some_iff.mp hm
      rw [List.drop_eq_getElem_cons h1, g1]
    have ab1 : List.map normS [DL.Slot.dat a, DL.Slot.dat b] = [DL.Slot.dat (.tuple (nsD (natsOf a))), DL.Slot.dat (.tuple (nsD (natsOf b)))] := by
      rw [← a1, ← b1]
      rfl
    refine dg_tup rfl <| dgs_cons <| dgn 6 scIsLadderOf.nd <| dgs_cons <| dgn 7 scIsLadderOf.nd <| dgs_nil ?_
    refine db_cons (dset 8 scIsLadderOf.nd <| dc_call C3 (hr.mono (by decide)) tk <| da_cons <| de_ix ix_tup <| dv 3 <| dv 6 <| dop_ixT (d := a) (atI_nat ha) <| da_cons <| de_ix ix_tup <| dv 3 <| de_bin op_add <| dv 6 <| de_int <| dop_I0 rfl <| dop_ixT (d := b) (atI_nat (j := i + 1) hb) <| da_nil fun A => ⟨natsOf a, natsOf b, ab1, a2, ?_⟩)
    rw [d1, d2] at hcl
    cases hg : grow (natsOf a) (natsOf b) with
    | none =>
      have e14 : climbs none (ts.map natsOf) (turned (x :: l)) = false := by rw [hcl, climbs, hg]
      refine db_cons (ds_if <| dt_w <| dw_or <| dt_cmp op_isN (nomark _) <| dv 8 <| de_non <| dop_isN ⟨_, rfl, ⟨fun e => ⟨fun _ => ?_, fun z => ?_⟩, fun e => ?_⟩⟩)
      rotate_left
      · cases z
      · cases e
      exact db_one (ds_ret <| de_bl ⟨_, .dat _, by rw [e14] at h; exact h⟩)
    | some nw =>
      have hnw : nw.length ≤ 1000 := Nat.le_trans (grow_le hg) a2
      refine db_cons (ds_if <| dt_w <| dw_or <| dt_cmp op_isN (nomark _) <| dv 8 <| de_non <| dop_isN ⟨_, rfl, ⟨fun e => ?_, fun e => ?_⟩⟩)
      · cases e
      refine dw_or <| dt_cmp op_ne (nomark _) <| de_callB call_len_seq (by rfl) m3 boot_len <| da_cons <| dv 8 <| da_nil <| dcall_len (.dat _) (.lst _) <| dv 7 <| dop_ne (x := .int _) (y := .int _) rfl rfl rfl ⟨_, rfl, ⟨fun e15 => ⟨fun _ => ?_, fun z => nomatch z⟩, fun e15 => ?_⟩⟩
      · have e16 : ¬ nw.length = m := fun z => by
          have e8 : (!decide (V.int ((nsD nw).length : Int) = V.int (m : Int))) = true := e15
          rw [nsD_len, z] at e8
          simp at e8
        have e14 : climbs none (ts.map natsOf) (turned (x :: l)) = false := by
          rw [hcl, climbs, hg]
          show (decide (nw.length = m) && _) = false
          rw [decide_eq_false e16]
          rfl
        exact db_one (ds_ret <| de_bl ⟨_, .dat _, by rw [e14] at h; exact h⟩)
      have e16 : nw.length = m := by
        have e8 : (!decide (V.int ((nsD nw).length : Int) = V.int (m : Int))) = false := e15
        rw [nsD_len] at e8
        have e9 : decide (V.int (nw.length : Int) = V.int (m : Int)) = true := by simpa using e8
        have := V.int.inj (of_decide_eq_true e9)
        omega
      have e17 : climbs ah (natsOf a :: natsOf b :: (ts.map natsOf).drop (i + 2)) (m :: (turned (x :: l)).drop (i + 1)) = (follows ah nw && climbs (some nw) ((ts.map natsOf).drop (i + 1)) ((turned (x :: l)).drop (i + 1))) := by
        rw [climbs, hg, d3]
        show (decide (nw.length = m) && _) = _
        rw [decide_eq_true e16]
        rfl
      rw [e17] at hcl
      have ab2 : List.map normS [DL.Slot.dat (growD ah), DL.Slot.dat (growD (some nw))] = [DL.Slot.dat (growD ah), DL.Slot.dat (.list (nsD nw))] := by cases ah <;> rfl
      refine dw_or1 <| dt_not <| dt_val <| dc_call C4 (hr.mono (by decide)) tk <| da_cons <| dv 5 <| da_cons <| dv 8 <| da_nil fun A => ⟨ah, nw, ab2, hnw, hah, ⟨_, rfl, ⟨fun e18 => ?_, fun e18 => db_nil ?_⟩⟩⟩
      · have e19 : follows ah nw = false := by simpa using e18
        have e14 : climbs none (ts.map natsOf) (turned (x :: l)) = false := by rw [hcl, e19]; rfl
        exact db_one (ds_ret <| de_bl ⟨_, .dat _, by rw [e14] at h; exact h⟩)
      · have e19 : follows ah nw = true := by simpa using e18
        rw [e19, Bool.true_and] at hcl
        refine db_one (dset 5 scIsLadderOf.nd <| dv 8 ⟨some nw, _, _, _, _, rfl, rfl, ?_, hcl⟩)
        intro l' e20
        cases e20
        exact hnw
  · rintro ρ s ⟨ah, s6, s7, s8, s9, rfl, rfl, hah, hcl⟩
    rw [show (enumD 0 (nsD (turned (x :: l)))).length = (turned (x :: l)).length by rw [enumD_len, nsD_len], List.drop_length] at hcl
    have e14 : climbs none (ts.map natsOf) (turned (x :: l)) = true := by
      rw [hcl]
      unfold climbs
      split <;> first | rfl | contradiction
    exact db_one (ds_ret <| de_bl ⟨_, .dat _, by rw [e14] at h; exact h⟩)
end
end K33

namespace K33
open PySem PySem.Spec PyProof.Rows L2 DL LH
theorem scIsLadder : FnScope ["one", "other", "whole", "thing"] ["one", "other", "whole", "thing"] (defScope sIsLadder) := ⟨rfl, rfl, rfl, by decide +kernel, rfl, by decide +kernel, by decide +kernel⟩
/-- what a shape's numbers are -/
theorem nats_shape {d : PyData} (h : isShape d = true) : ∃ x l, natsOf d = x :: l ∧ x ≤ 24 ∧ l.length ≤ 3 ∧ d = .tuple (nsD (x :: l)) := by
  have e := shape_nats h
  cases hn : natsOf d with
  | nil => rw [hn] at e; rw [e] at h; cases h
  | cons x l =>
    rw [hn] at e
    rw [e, isShape_tup, Bool.and_eq_true, Bool.and_eq_true] at h
    obtain ⟨h0, h2, _⟩ := h
    have h0 : (decide (1 ≤ ((nsD (x :: l)).length : Int)) && decide (((nsD (x :: l)).length : Int) ≤ 4)) = true := h0
    rw [Bool.and_eq_true] at h0
    obtain ⟨_, h1⟩ := h0
    have z := of_decide_eq_true h1
    rw [nsD_len, List.length_cons] at z
    have z2 : (isP (nD x) && _) = true := h2
    rw [Bool.and_eq_true] at z2
    have z3 : (decide (0 ≤ (x : Int)) && decide ((x : Int) ≤ 24)) = true := z2.1
    rw [Bool.and_eq_true] at z3
    have := of_decide_eq_true z3.2
    exact ⟨x, l, rfl, by omega, by omega, e⟩
section
variable {P : Program} {w : World} {K : PySem.W.Frag} {mg : Str → Option Value} {base : Heap}
def fIsLadder (CO CT CW : Addr) : Pd := fun m ss st k xk => ∃ d1 d2 d3 th, ss = [.dat d1, .dat d2, .dat d3, .dat th] ∧ (isShape d1 = false → xk ⟨.ref CO, []⟩ st) ∧ (isShape d1 = true → (isShape d2 && decide (lenD d2 = lenD d1)) = false → xk ⟨.ref CT, []⟩ st) ∧
  (isShape d1 = true → isShape d2 = true → lenD d2 = lenD d1 → ((isShape d3 && decide (lenD d3 = lenD d1)) = false → xk ⟨.ref CW, []⟩ st) ∧ (isShape d3 = true → lenD d3 = lenD d1 → k (.dat (.bool (isLadder (natsOf d1) (natsOf d2) (natsOf d3) th))) st))
theorem ok_is_ladder {CO CT CW : Addr} (D : Df K mg "is_ladder" sIsLadder ["one", "other", "whole", "thing"]) (C1 : Cal P w K mg base "need_three" sNeedThree ["one", "other", "whole"] 5 (fNeedThree CO CT CW)) (C2 : Cal P w K mg base "is_ladder_of" sIsLadderOf ["one", "other", "whole", "thing"] 4 fIsLadderOf) : Cal P w K mg base "is_ladder" sIsLadder ["one", "other", "whole", "thing"] 6 (fIsLadder CO CT CW) := by
  refine cal_of D scIsLadder (by rintro _ _ _ _ _ ⟨_, _, _, _, rfl, _⟩; rfl) fun f cdv A outer s1 H E c hr tk hp ss st k h => ?_
  obtain ⟨d1, d2, d3, th, rfl, h1, h2, h3⟩ := h
  refine db_cons (ds_expr <| dc_call C1 hr tk <| da_cons <| dv 0 <| da_cons <| dv 1 <| da_cons <| dv 2 <| da_nil fun A => ⟨d1, d2, d3, rfl, h1, h2, fun e1 e2 e3 => ⟨(h3 e1 e2 e3).1, fun e4 e5 => ?_⟩⟩)
  obtain ⟨x1, l1, n1, a1, b1, q1⟩ := nats_shape e1
  obtain ⟨x2, l2, n2, a2, b2, q2⟩ := nats_shape e2
  obtain ⟨x3, l3, n3, a3, b3, q3⟩ := nats_shape e4
  have h6 := (h3 e1 e2 e3).2 e4 e5
  rw [n1, n2, n3] at h6
  clear h1 h2 h3 e1 e2 e3 e4 e5 n1 n2 n3
  subst q1 q2 q3
  exact db_one (ds_ret <| dc_call C2 (hr.mono (by decide)) tk <| da_cons <| dv 0 <| da_cons <| dv 1 <| da_cons <| dv 2 <| da_cons <| dv 3 <| da_nil fun A => ⟨x1 :: l1, x3 :: l3, x2, l2, th, rfl, by rw [List.length_cons]; omega, a2, b2, ⟨_, .dat _, h6⟩⟩)
end
end K33

namespace K33
open PySem PySem.Spec PyProof.Rows L2 DL LH
abbrev sOdd : Stmt := topS 30
abbrev sLIsNumber : Stmt := topS 31
abbrev sLRaised : Stmt := topS 32
abbrev sSlant : Stmt := topS 33
abbrev sLIsShape : Stmt := topS 34
abbrev sLTurned : Stmt := topS 41
theorem scOdd : FnScope ["draw"] ["draw"] (defScope sOdd) := ⟨rfl, rfl, rfl, by decide +kernel, rfl, by decide +kernel, by decide +kernel⟩
theorem scLIsNumber : FnScope ["thing"] ["thing"] (defScope sLIsNumber) := ⟨rfl, rfl, rfl, by decide +kernel, rfl, by decide +kernel, by decide +kernel⟩
theorem scLRaised : FnScope ["prime", "power", "found", "lap"] ["prime", "power"] (defScope sLRaised) := ⟨rfl, rfl, rfl, by decide +kernel, rfl, by decide +kernel, by decide +kernel⟩
theorem scSlant : FnScope ["numbers", "at", "number", "to"] ["numbers"] (defScope sSlant) := ⟨rfl, rfl, rfl, by decide +kernel, rfl, by decide +kernel, by decide +kernel⟩
theorem scLIsShape : FnScope ["thing", "one"] ["thing"] (defScope sLIsShape) := ⟨rfl, rfl, rfl, by decide +kernel, rfl, by decide +kernel, by decide +kernel⟩
theorem scLTurned : FnScope ["shape", "many", "one"] ["shape"] (defScope sLTurned) := ⟨rfl, rfl, rfl, by decide +kernel, rfl, by decide +kernel, by decide +kernel⟩
/-! ### shapes as lists of numbers -/
def Shp (B n : Nat) (l : List Nat) : Prop := l.length = n ∧ l.Pairwise (fun a b => b ≤ a) ∧ ∀ x ∈ l, x ≤ B
theorem eqvN : ∀ a b : List Nat, PyData.eqvAll (nsD a) (nsD b) = decide (a = b)
  | [], [] => rfl
  | [], _ :: _ => rfl
  | _ :: _, [] => rfl
  | x :: a, y :: b => by
    show (PyData.eqv (nD x) (nD y) && PyData.eqvAll (nsD a) (nsD b)) = _
    rw [eqvN a b]
    have e : PyData.eqv (nD x) (nD y) = decide (x = y) := by
      show ((x : Int) == (y : Int)) = _
      by_cases h : x = y
      · subst h; simp
      · rw [decide_eq_false h]
        exact beq_eq_false_iff_ne.mpr fun z => h (Int.ofNat.inj z)
    rw [e]
    by_cases h1 : x = y
    · subst h1
      by_cases h2 : a = b
      · subst h2; simp
      · simp [h2]
    · simp [h1]
theorem sortN (l : List Nat) : sortD true (nsD l) = nsD (l.mergeSort fun a b => decide (b ≤ a)) := by
  unfold sortD nsD
  rw [← PySem.W.sort_maps (r := fun a b : Nat => decide (b ≤ a)) nD fun a _ b _ => ?_]
  have e := congrFun (congrFun (PySem.W.dataGe_int (fun x : Int => x)) (a : Int)) (b : Int)
  have e2 : PySem.W.dataLe true (fun d : PyData => d) (nD a) (nD b) = decide ((b : Int) ≤ (a : Int)) := e
  rw [e2]
  exact decide_eq_decide.mpr (by omega)
theorem down_sort (l : List Nat) : (l.mergeSort fun a b => decide (b ≤ a)).Pairwise (fun a b => b ≤ a) := by
  have := List.pairwise_mergeSort (le := fun a b : Nat => decide (b ≤ a)) (fun a b c h1 h2 => by simp at *; omega) (fun a b => by simp; omega) l
  exact this.imp fun h => by simpa using h
theorem sort_same {l : List Nat} : (l.mergeSort fun a b => decide (b ≤ a)) = l ↔ l.Pairwise (fun a b => b ≤ a) :=
  ⟨fun h => by rw [← h]; exact down_sort l, fun h => List.mergeSort_of_pairwise (h.imp fun h => by simpa using h)⟩
theorem geN : ∀ l : List Nat, (zipD (nsD l) ((nsD l).drop 1)).all geD = decide (l.Pairwise (fun a b => b ≤ a))
  | [] => rfl
  | [x] => by rw [decide_eq_true (List.pairwise_singleton _ _)]; rfl
  | x :: y :: l => by
    have ih := geN (y :: l)
    have e : (zipD (nsD (x :: y :: l)) ((nsD (x :: y :: l)).drop 1)).all geD = (decide ((y : Int) ≤ (x : Int)) && (zipD (nsD (y :: l)) ((nsD (y :: l)).drop 1)).all geD) := rfl
    rw [e, ih, ← Bool.decide_and]
    refine decide_eq_decide.mpr ⟨fun ⟨h1, h2⟩ => ?_, fun h => ⟨?_, (List.pairwise_cons.mp h).2⟩⟩
    · refine List.pairwise_cons.mpr ⟨fun z hz => ?_, h2⟩
      rcases List.mem_cons.mp hz with rfl | hz
      · omega
      · have := (List.pairwise_cons.mp h2).1 z hz
        omega
    · have := (List.pairwise_cons.mp h).1 y List.mem_cons_self
      omega
theorem allP (l : List Nat) : (nsD l).all isP = l.all fun x => decide (x ≤ 24) := by
  unfold nsD
  rw [List.all_map]
  congr 1
  funext x
  show (decide (0 ≤ (x : Int)) && decide ((x : Int) ≤ 24)) = _
  rw [decide_eq_true (show (0 : Int) ≤ x by omega), Bool.true_and]
  exact decide_eq_decide.mpr (by omega)
theorem isShape_nsD (l : List Nat) : isShape (.tuple (nsD l)) = ((decide (1 ≤ l.length) && decide (l.length ≤ 4)) && ((l.all fun x => decide (x ≤ 24)) && decide (l.Pairwise (fun a b => b ≤ a)))) := by
  show ((decide (1 ≤ (nsD l).length) && decide ((nsD l).length ≤ 4)) && ((nsD l).all isP && (zipD (nsD l) ((nsD l).drop 1)).all geD)) = _
  rw [geN, allP, nsD_len]
theorem shp_is {B n : Nat} {l : List Nat} (h : Shp B n l) (h1 : 1 ≤ n) (h4 : n ≤ 4) (hB : B ≤ 24) : isShape (.tuple (nsD l)) = true := by
  rw [isShape_nsD, decide_eq_true (show 1 ≤ l.length by rw [h.1]; exact h1), decide_eq_true (show l.length ≤ 4 by rw [h.1]; exact h4), decide_eq_true h.2.1]
  simp only [Bool.and_true, Bool.true_and]
  exact List.all_eq_true.mpr fun x hx => decide_eq_true (Nat.le_trans (h.2.2 x hx) hB)
theorem is_shp {d : PyData} (h : isShape d = true) : ∃ l, d = .tuple (nsD l) ∧ 1 ≤ l.length ∧ l.length ≤ 4 ∧ Shp 24 l.length l := by
  refine ⟨natsOf d, shape_nats h, ?_⟩
  rw [shape_nats h, isShape_nsD, Bool.and_eq_true, Bool.and_eq_true, Bool.and_eq_true] at h
  obtain ⟨⟨h1, h2⟩, h3, h4⟩ := h
  exact ⟨of_decide_eq_true h1, of_decide_eq_true h2, rfl, of_decide_eq_true h4, fun x hx => of_decide_eq_true (List.all_eq_true.mp h3 x hx)⟩
theorem shaped_nsDl (l : List Nat) : SeqAt.shaped (.list (nsD l)) = true := shaped_list fun x hx => by
  obtain ⟨n, _, rfl⟩ := List.mem_map.mp hx
  exact ⟨rfl, by show PyData.depth (.int n) ≤ 60; simp [PyData.depth]⟩
theorem alikeN (a b : Nat) : PySem.W.alike (nD a) (nD b) = true := by simp [PySem.W.alike, nD]
theorem srtsN {l : List Nat} (h : l.length ≤ 16000000) : Srts (nsD l) where
  al := fun d hd d' hd' => by
    obtain ⟨a, _, rfl⟩ := List.mem_map.mp hd
    obtain ⟨b, _, rfl⟩ := List.mem_map.mp hd'
    exact alikeN a b
  ok := .inr fun d hd => by
    obtain ⟨a, _, rfl⟩ := List.mem_map.mp hd
    exact ⟨fun z => (nomatch z), fun _ z => (nomatch z)⟩
  len := by rw [nsD_len]; exact h
  dep := fun d hd => by
    obtain ⟨a, _, rfl⟩ := List.mem_map.mp hd
    show PyData.depth (.int a) ≤ 8
    simp [PyData.depth]
  can := canAll_iff.mpr fun d hd => by
    obtain ⟨a, _, rfl⟩ := List.mem_map.mp hd
    rfl
/-- a value that the law's own judge may be asked of -/
def tupOk (d : PyData) : Prop := ofTuple d = true → okD d ∧ szD d ≤ 1000
theorem lenA : ∀ xs : List PyData, xs.length ≤ szA xs
  | [] => by simp [szA]
  | x :: xs => by have := szD_pos x; have := lenA xs; rw [List.length_cons, szA]; omega
section
variable {P : Program} {w : World} {K : PySem.W.Frag} {mg : Str → Option Value} {base : Heap}
def fOdd : Pd := fun m ss st k xk => ∃ (dr la ca : Addr) (cs : List Int) (hd : HasDraw m dr la ca cs), ss = [.raw (.ref dr)] ∧ ∀ (d : PyData), tupOk d → ∀ st' : m.St, k (.dat d) st'
def oddD : List PyData := [.none, .int 0, .int (-1), .bool true, .str "", .str "a", .tuple [], .list [], .dict [], .tuple [.int 0, .int 0], .tuple [.int 1, .int 2], .list [.tuple [.int 0, .int 1]], .dict [(.str "a", .int 1)], .int 9, .tuple [.bool true, .int 1], .tuple [.tuple [.int 0, .int 1]]]
theorem odd_ok : ∀ d ∈ oddD, tupOk d := by
  intro d hd
  unfold oddD at hd
  simp only [List.mem_cons, List.not_mem_nil, or_false] at hd
  rcases hd with rfl | rfl | rfl | rfl | rfl | rfl | rfl | rfl | rfl | rfl | rfl | rfl | rfl | rfl | rfl | rfl <;> intro h <;> first | exact ⟨⟨by decide, by decide⟩, by decide⟩ | exact ⟨⟨rfl, by simp [PyData.depth, PyData.depthAll]⟩, by simp [szD, szA]⟩ | (exfalso; revert h; decide)
theorem ok_odd (D : Df K mg "_law_odd" sOdd ["draw"]) (C1 : Cal P w K mg base "_law_pick" sPick ["draw", "some"] 3 fPick) : Cal P w K mg base "_law_odd" sOdd ["draw"] 4 fOdd := by
  refine cal_of D scOdd (by rintro _ _ _ _ _ ⟨_, _, _, _, _, rfl, _⟩; rfl) fun f cdv A outer s1 H E c hr tk hp ss st k h => ?_
  obtain ⟨dr, la, ca, cs, hd, rfl, h⟩ := h
  refine db_one (ds_ret <| dc_call C1 hr tk <| da_cons <| dv 0 <| da_cons <| de_lst ?_)
  refine da_cons ?_
  refine de_non ?_
  refine da_cons ?_
  refine de_int ?_
  refine da_cons ?_
  refine de_neg <| de_int ⟨_, rfl, ?_⟩
  refine da_cons ?_
  refine de_bl ?_
  refine da_cons ?_
  refine de_str ?_
  refine da_cons ?_
  refine de_str ?_
  refine da_cons ?_
  refine de_tup <| da_nil ⟨_, .nil, by simp, ?_⟩
  refine da_cons ?_
  refine de_lst <| da_nil ⟨_, .nil, by simp, fun p1 => ?_⟩
  refine da_cons ?_
  refine de_dict0 ?_
  refine da_cons ?_
  refine de_tup <| da_cons <| de_int <| da_cons <| de_int <| da_nil ⟨_, .dat (.dat .nil), by simp, ?_⟩
  refine da_cons ?_
  refine de_tup <| da_cons <| de_int <| da_cons <| de_int <| da_nil ⟨_, .dat (.dat .nil), by simp, ?_⟩
  refine da_cons ?_
  refine de_lst <| da_cons <| de_tup <| da_cons <| de_int <| da_cons <| de_int <| da_nil ⟨_, .dat (.dat .nil), by simp, da_nil ⟨_, .dat .nil, by simp, fun p2 => ?_⟩⟩
  refine da_cons ?_
  refine de_dict1 pe_str pe_int rfl ?_
  refine da_cons ?_
  refine de_int ?_
  refine da_cons ?_
  refine de_tup <| da_cons <| de_bl <| da_cons <| de_int <| da_nil ⟨_, .dat (.dat .nil), by simp, ?_⟩
  refine da_cons ?_
  refine de_tup <| da_cons <| de_tup <| da_cons <| de_int <| da_cons <| de_int <| da_nil ⟨_, .dat (.dat .nil), by simp, da_nil ⟨_, .dat .nil, by simp, ?_⟩⟩
  refine da_nil ⟨oddD, ?_, by decide, fun p3 => da_nil fun A => ⟨dr, la, ca, cs, hd.avoid A, oddD, rfl, by decide, by decide, fun d hd' st' => ⟨_, .dat _, h d (odd_ok d hd') st'⟩⟩⟩
  exact .dat (.dat (.dat (.dat (.dat (.dat (.dat (.own (.dat (.dat (.dat (.own (.dat (.dat (.dat (.dat .nil)))))))))))))))
theorem ok_lis_number (D : Df K mg "_law_is_number" sLIsNumber ["thing"]) (m1 : mg "isinstance" = none) (m2 : mg "int" = none) (m3 : mg "bool" = none) : Cal P w K mg base "_law_is_number" sLIsNumber ["thing"] 1 fIsNumber := by
  refine cal_of D scLIsNumber (by rintro _ _ _ _ _ ⟨d, rfl, _⟩; rfl) fun f cdv A outer s1 H E c hr tk hp ss st k h => ?_
  obtain ⟨d, rfl, h⟩ := h
  refine db_one (ds_ret <| de_and <| de_callB call_isi (by rfl) m1 boot_isinstance <| da_cons <| dv 0 <| da_cons <| de_bltn (v := .ty "int") m2 boot_int rfl <| da_nil <| dcall_isi (kit_int d) ⟨_, rfl, fun e => ?_, fun e => ?_⟩)
  · exact de_one <| de_not <| de_callB call_isi (by rfl) m1 boot_isinstance <| da_cons <| dv 0 <| da_cons <| de_bltn (v := .ty "bool") m3 boot_bool rfl <| da_nil <| dcall_isi (kit_bool d) ⟨_, rfl, _, .dat _, by rw [isn_true e]; exact h⟩
  · exact ⟨_, .dat _, by rw [isn_false e]; exact h⟩
def fRaised : Pd := fun m ss st k xk => ∃ n : Nat, ss = [.dat (.int 2), .dat (nD n)] ∧ n ≤ 10 ∧ k (.dat (nD (2 ^ n))) st
theorem ok_lraised (D : Df K mg "_law_raised" sLRaised ["prime", "power"]) (m1 : mg "range" = none) : Cal P w K mg base "_law_raised" sLRaised ["prime", "power"] 1 fRaised := by
  refine cal_of D scLRaised (by rintro _ _ _ _ _ ⟨n, rfl, _⟩; rfl) fun f cdv A outer s1 H E c hr tk hp ss st k h => ?_
  obtain ⟨e, rfl, he1, h⟩ := h
  refine db_cons (dset 2 scLRaised.nd <| de_int ?_)
  refine db_cons (ds_for hp rfl <| di_range1 m1 <| dv 1 ⟨(e : Int), rfl, by omega, by omega, fun i ρ s => ∃ s3, ρ = [.dat (.int 2), .dat (nD e), .dat (nD (2 ^ i)), s3] ∧ st = s, ⟨_, rfl, rfl⟩, ?_, ?_⟩)
  · rintro i d ρ s hd ⟨s3, rfl, rfl⟩
    refine dgn 3 scLRaised.nd ?_
    refine db_one (dset 2 scLRaised.nd <| de_bin op_mul <| dv 2 <| dv 0 <| dop_I (d := nD (2 ^ (i + 1))) (i := (2 ^ i : Nat)) (j := 2) ?_ (.inr (by decide)) ⟨_, rfl, rfl⟩)
    show some (PyData.int _) = some (PyData.int _)
    rw [Nat.pow_succ, Int.natCast_mul]
    rfl
  · rintro ρ s ⟨s3, rfl, rfl⟩
    refine db_one (ds_ret <| dv 2 ⟨_, .dat _, ?_⟩)
    rw [ints_len]
    exact h
end
end K33

namespace K33
open PySem PySem.Spec PyProof.Rows L2 DL LH
end K33
namespace DL
open PySem PySem.Spec PyProof.Rows L2
section
variable {X : Cx} {c : Cz} {e : Expr} {ρ : Env} {st : c.m.St} {kb kb' : Bool → Env → c.m.St → Prop}
theorem dt_imp (h : DT X c e ρ st kb') (q : ∀ b ρ st, kb' b ρ st → kb b ρ st) : DT X c e ρ st kb := fun τ σ H Q hh hl hk hx => h τ σ H Q hh hl (fun b ρ' st' H' hk' => hk b ρ' st' H' (q _ _ _ hk')) hx
end
end DL
namespace K33
open PySem PySem.Spec PyProof.Rows L2 DL LH
section
variable {P : Program} {w : World} {K : PySem.W.Frag} {mg : Str → Option Value} {base : Heap}
theorem ok_lturned (D : Df K mg "_law_turned_shape" sLTurned ["shape"]) (m1 : mg "tuple" = none) (m2 : mg "len" = none) (m3 : mg "range" = none) : Cal P w K mg base "_law_turned_shape" sLTurned ["shape"] 1 fTurned := by
  refine cal_of D scLTurned (by rintro _ _ _ _ _ ⟨_, _, rfl, _⟩; rfl) fun f cdv A outer s1 H E c hr tk hp ss st k h => ?_
  obtain ⟨x, l, rfl, hx, hl, h⟩ := h
  refine db_one (ds_ret <| de_callTy call_tuple_of (by rfl) m1 boot_tuple <| da_cons <| dlc 1 scLTurned.nd <| di_range2 m3 <| de_int ⟨_, rfl, de_bin op_add <| de_ix ix_tup <| dv 0 <| de_int <| dop_ixT (d := nD x) (atI_nat (j := 0) rfl) <| de_int <| dop_I0 rfl ⟨_, rfl, ⟨by decide, by decide, by omega, by omega⟩, ?_⟩⟩)
  refine ⟨fun i acc s => acc = ((List.range i).map fun m => nD (atLeast (x :: l) (m + 1))) ∧ st = s, ⟨rfl, rfl⟩, ?_, ?_⟩
  · rintro i d acc s hd ⟨rfl, rfl⟩
    obtain ⟨hi, rfl⟩ := ints_get hd
    have hix : i < x := by omega
    refine ⟨by rw [List.length_map, List.length_range]; omega, fun _ s0 H0 C cl fp => ?_, fun z => nomatch z⟩
    refine de_callB call_len_seq (by rfl) m2 boot_len <| da_cons <| dlc 2 scLTurned.nd <| di_tup <| dv 0 ⟨_, rfl, fun j acc2 s2 => acc2 = nsD (((x :: l).take j).filter fun n => decide (i + 1 ≤ n)) ∧ st = s2, ⟨rfl, rfl⟩, ?_, ?_⟩
    · rintro j d acc2 s2 hd2 ⟨rfl, rfl⟩
      obtain ⟨n, hn, rfl⟩ := nsD_get hd2
      refine ⟨?_, fun s0 H0 C cl fp => dt_cmp op_ge (nomark _) <| dv 2 <| dv 1 <| dop_I0 rfl ⟨_, rfl, fun e => ?_, fun e => ?_⟩⟩
      · rw [nsD_len]
        refine Nat.lt_of_le_of_lt (List.length_filter_le _ _) ?_
        rw [List.length_take, List.length_cons]
        omega
      · have e1 : i + 1 ≤ n := by have := of_decide_eq_true e; omega
        refine fun s0 H0 C cl fp => dv 2 ⟨_, .dat .nil, rfl, ?_, rfl⟩
        unfold nsD
        rw [List.take_add_one, hn, List.filter_append, List.map_append]
        simp [e1]
      · have e1 : ¬ i + 1 ≤ n := fun z => of_decide_eq_false e (by omega)
        refine ⟨rfl, ?_, rfl⟩
        unfold nsD
        rw [List.take_add_one, hn, List.filter_append, List.map_append]
        simp [e1]
    · rintro acc2 s2 ⟨rfl, rfl⟩ p
      refine da_nil <| dcall_len (.own p _) (.lst _) ⟨_, .dat .nil, rfl, ?_, rfl⟩
      have e1 : (x :: l).take (nsD (x :: l)).length = x :: l := by rw [nsD_len, List.take_length]
      rw [e1, List.range_succ, List.map_append, nsD_len]
      rfl
  · rintro acc s ⟨rfl, rfl⟩ p
    refine da_nil <| dcall_tuple (.own p _) (.lst _) ⟨_, .dat _, ?_⟩
    have e1 : ((List.range (intsD 1 ((x : Int) + 1 - 1).toNat).length).map fun m => nD (atLeast (x :: l) (m + 1))) = nsD (turned (x :: l)) := by
      rw [ints_len, show ((x : Int) + 1 - 1).toNat = x by omega]
      unfold turned nsD
      rw [List.map_map]
      rfl
    rw [e1]
    exact h
def fLIsShape : Pd := fun m ss st k xk => ∃ d, ss = [.dat d] ∧ tupOk d ∧ k (.dat (.bool (isShape d))) st
theorem eqv_empty (xs : List PyData) : PyData.eqv (.list xs) (.list []) = xs.isEmpty := by cases xs <;> rfl
/-- all but the falling -/
def pre : PyData → Bool
  | .tuple ds => (decide (1 ≤ ds.length) && decide (ds.length ≤ 4)) && ds.all isP
  | _ => false
theorem pre_no {d : PyData} (h : pre d = false) : isShape d = false := by
  cases d with
  | tuple ds =>
    show ((decide (1 ≤ ds.length) && decide (ds.length ≤ 4)) && (ds.all isP && _)) = false
    rw [← Bool.and_assoc]
    have h : ((decide (1 ≤ ds.length) && decide (ds.length ≤ 4)) && ds.all isP) = false := h
    rw [h]
    rfl
  | _ => rfl
theorem pre_yes {d : PyData} (h : pre d = true) : ∃ l, d = .tuple (nsD l) ∧ isShape (.tuple (nsD l)) = decide (l.Pairwise fun a b => b ≤ a) ∧ l.length ≤ 4 := by
  cases d with
  | tuple ds =>
    have h : ((decide (1 ≤ ds.length) && decide (ds.length ≤ 4)) && ds.all isP) = true := h
    rw [Bool.and_eq_true, Bool.and_eq_true] at h
    have go : ∀ l : List PyData, l.all isP = true → ∃ ns, l = nsD ns := by
      intro l
      induction l with
      | nil => intro _; exact ⟨[], rfl⟩
      | cons x l ih =>
        intro hh
        rw [List.all_cons, Bool.and_eq_true] at hh
        obtain ⟨ns, rfl⟩ := ih hh.2
        obtain ⟨i, rfl⟩ := isP_int hh.1
        have h1 : (decide (0 ≤ i) && decide (i ≤ 24)) = true := hh.1
        rw [Bool.and_eq_true] at h1
        have := of_decide_eq_true h1.1
        exact ⟨i.toNat :: ns, by show PyData.int i :: nsD ns = nD i.toNat :: nsD ns; unfold nD; rw [Int.toNat_of_nonneg this]⟩
    obtain ⟨l, rfl⟩ := go ds h.2
    refine ⟨l, rfl, ?_, ?_⟩
    · rw [isShape_nsD]
      have h2 := h.2
      rw [allP] at h2
      have h1 := h.1
      rw [nsD_len] at h1
      rw [h1.1, h1.2, h2]
      rfl
    · have := of_decide_eq_true h.1.2
      rw [nsD_len] at this
      exact this
  | _ => cases h
theorem no_bad {l : List PyData} : (l.filter fun x => !isP x).isEmpty = l.all isP := by
  induction l with
  | nil => rfl
  | cons x l ih =>
    rw [List.filter_cons, List.all_cons]
    cases isP x with
    | true => simpa using ih
    | false => rfl
theorem ok_lis_shape (D : Df K mg "_law_is_shape" sLIsShape ["thing"]) (C1 : Cal P w K mg base "_law_is_number" sLIsNumber ["thing"] 1 fIsNumber) (m1 : mg "isinstance" = none) (m2 : mg "tuple" = none) (m3 : mg "len" = none) (m4 : mg "list" = none) (m5 : mg "sorted" = none) :
    Cal P w K mg base "_law_is_shape" sLIsShape ["thing"] 2 fLIsShape := by
  refine cal_of D scLIsShape (by rintro _ _ _ _ _ ⟨d, rfl, _⟩; rfl) fun f cdv A outer s1 H E c hr tk hp ss st k h => ?_
  obtain ⟨d, rfl, hok, h⟩ := h
  have two : ∀ x, DTb (cxOf (L2.CX P w) P w K mg base ["thing", "one"] "_law_is_shape" (defScope sLIsShape) f cdv A outer s1 H E) (match (defBody sLIsShape).getD 0 (.Pass ⟨0, 0, 0, 0⟩) with | .If (.BoolOp _ [_, _, .Compare (.ListComp _ _ sc _) _ _ _] _) _ _ _ => sc | _ => defScope sLIsShape) c
      (match (defBody sLIsShape).getD 0 (.Pass ⟨0, 0, 0, 0⟩) with | .If (.BoolOp _ [_, _, .Compare (.ListComp _ [⟨_, _, ifs, _⟩] _ _) _ _ _] _) _ _ _ => ifs | _ => []) [.dat d, .dat x] st fun b ρ' s' => b = (!isP x) ∧ ρ' = [.dat d, .dat x] ∧ st = s' := fun x => by
    refine fun s0 H0 C cl fp => dt_w <| dw_or <| dt_not <| dt_val <| dc_call C1 hr LamX.takes0 <| da_cons <| dv 1 <| da_nil fun A => ⟨x, rfl, isNum x, rfl, ⟨fun e => ⟨?_, rfl, rfl⟩, fun e => ?_⟩⟩
    · have e2 : isNum x = false := by simpa using e
      cases x <;> first | rfl | cases e2
    · have e2 : isNum x = true := by simpa using e
      obtain ⟨i, rfl⟩ : ∃ i, x = .int i := by
        cases x <;> first | exact ⟨_, rfl⟩ | cases e2
      refine dw_or1 <| dt_not <| dt_chain op_le op_le <| de_int <| dv 1 ⟨_, rfl, dop_I0 rfl ⟨decide (0 ≤ i), rfl, fun e3 => ?_, fun e3 => ⟨?_, rfl, rfl⟩⟩⟩
      · refine de_int <| dop_I0 rfl ⟨_, rfl, ?_, rfl, rfl⟩
        show (!decide (i ≤ 24)) = !(decide (0 ≤ i) && decide (i ≤ 24))
        rw [e3, Bool.true_and]
      · show (!false) = !(decide (0 ≤ i) && decide (i ≤ 24))
        rw [e3]
        rfl
  refine db_cons (ds_if <| dt_imp (kb' := fun b ρ' s' => b = (!pre d) ∧ ρ' = [.dat d, .any] ∧ st = s') ?_ ?_)
  · refine dt_w <| dw_or <| dt_not <| dt_val <| de_callB call_isi (by rfl) m1 boot_isinstance <| da_cons <| dv 0 <| da_cons <| de_bltn (v := .ty "tuple") m2 boot_tuple rfl <| da_nil <| dcall_isi (kit_tuple d) ⟨_, rfl, ⟨fun e => ⟨?_, rfl, rfl⟩, fun e => ?_⟩⟩
    · cases d <;> first | rfl | cases e
    obtain ⟨ds, rfl⟩ : ∃ ds, d = .tuple ds := by
      cases d <;> first | exact ⟨_, rfl⟩ | cases e
    obtain ⟨hk, hsz⟩ := hok rfl
    have hl : ds.length ≤ 1000 := by
      have := lenA ds
      have e : szD (.tuple ds) = szA ds + 1 := by simp [szD]
      omega
    have okE : ∀ x ∈ ds, okD x := fun x hx => ok_kids hk x hx
    refine dw_or <| dt_not <| dt_chain op_le op_le <| de_int <| de_callB call_len_seq (by rfl) m3 boot_len <| da_cons <| dv 0 <| da_nil <| dcall_len (.dat _) (.tup _) ⟨_, rfl, dop_I0 rfl ⟨decide ((1 : Int) ≤ ds.length), rfl, fun e1 => de_int <| dop_I0 rfl ⟨_, rfl, ⟨fun e2 => ⟨?_, rfl, rfl⟩, fun e2 => ?_⟩⟩, fun e1 => ⟨fun _ => ⟨?_, rfl, rfl⟩, fun z => absurd z (by decide)⟩⟩⟩
    · have e3 : decide ((ds.length : Int) ≤ 4) = false := by simpa using e2
      have e4 : ¬ ds.length ≤ 4 := fun z => of_decide_eq_false e3 (by omega)
      show true = !((decide (1 ≤ ds.length) && decide (ds.length ≤ 4)) && ds.all isP)
      rw [decide_eq_false e4, Bool.and_false]
      rfl
    · have e3 : decide ((ds.length : Int) ≤ 4) = true := by simpa using e2
      have e4 : ds.length ≤ 4 := by have := of_decide_eq_true e3; omega
      have e5 : 1 ≤ ds.length := by have := of_decide_eq_true e1; omega
      refine dw_or1 <| dt_cmp (op_neD hr.units) (nomark _) <| dlc 1 scLIsShape.nd <| di_tup <| dv 0 ⟨_, rfl, fun i acc s => acc = (ds.take i).filter (fun x => !isP x) ∧ st = s, ⟨rfl, rfl⟩, ?_, ?_⟩
      · rintro i x acc s hd ⟨rfl, rfl⟩
        refine ⟨?_, fun s0 H0 C cl fp => dt_imp (two x s0 H0 C cl fp) ?_⟩
        · refine Nat.lt_of_le_of_lt (List.length_filter_le _ _) ?_
          rw [List.length_take]
          omega
        · rintro b ρ' s' ⟨rfl, rfl, rfl⟩
          refine ⟨fun e6 s0 H0 C cl fp => dv 1 ⟨x, .dat .nil, rfl, ?_, rfl⟩, fun e6 => ⟨rfl, ?_, rfl⟩⟩
          · rw [List.take_add_one, hd, List.filter_append]
            simp [e6]
          · rw [List.take_add_one, hd, List.filter_append]
            simp [e6]
      · rintro acc s ⟨rfl, rfl⟩ p
        rw [List.take_length]
        refine de_lst <| da_nil ⟨_, .nil, by simp, fun p0 => dop_neD (.own p _) (.own p0 _) (shaped_list fun x hx => okE x (List.mem_filter.mp hx).1) (by decide) ⟨_, rfl, ?_, rfl, rfl⟩⟩
        rw [eqv_empty]
        show (!(ds.filter fun x => !isP x).isEmpty) = !((decide (1 ≤ ds.length) && decide (ds.length ≤ 4)) && ds.all isP)
        rw [decide_eq_true e4, decide_eq_true e5]
        congr 1
        show _ = ds.all isP
        rw [no_bad]
    · have e4 : ¬ 1 ≤ ds.length := fun z => of_decide_eq_false e1 (by omega)
      show true = !((decide (1 ≤ ds.length) && decide (ds.length ≤ 4)) && ds.all isP)
      rw [decide_eq_false e4]
      rfl
  rintro b ρ' s' ⟨rfl, rfl, rfl⟩
  refine ⟨fun e => ?_, fun e => db_nil ?_⟩
  · have e2 : isShape d = false := pre_no (by simpa using e)
    exact db_one (ds_ret <| de_bl ⟨_, .dat _, by rw [e2] at h; exact h⟩)
  · obtain ⟨l, rfl, e1, e2⟩ := pre_yes (show pre d = true by simpa using e)
    have hl : l.length ≤ 4 := e2
    refine db_one (ds_ret <| de_cmp (op_eqD hr.units) (nomark _) <| de_callTy call_list_of (by rfl) m4 boot_list <| da_cons <| dv 0 <| da_nil <| dcall_list (.dat _) (.tup _) fun p1 => de_sortedR m5 hr.units <| dv 0 ⟨_, nsD l, .dat _, .tup _, srtsN (l := l) (by omega), fun p2 => ?_⟩)
    rw [sortN]
    refine dop_eqD (.own p1 _) (.own p2 _) (shaped_nsDl _) (shaped_nsDl _) ⟨_, .dat _, ?_⟩
    rw [e1] at h
    show k (.dat (.bool (PyData.eqvAll (nsD l) (nsD _)))) _
    rw [eqvN]
    have e3 : decide (l = l.mergeSort fun a b => decide (b ≤ a)) = decide (l.Pairwise fun a b => b ≤ a) := decide_eq_decide.mpr ⟨fun h => sort_same.mp h.symm, fun h => (sort_same.mpr h).symm⟩
    rw [e3]
    exact h
end
end K33

namespace K33
open PySem PySem.Spec PyProof.Rows L2 DL LH
abbrev sShapes : Stmt := topS 35
abbrev sNearShape : Stmt := topS 40
abbrev sSets : Stmt := topS 45
theorem scShapes : FnScope ["draw", "size", "most", "found", "way", "at", "lap"] ["draw", "size"] (defScope sShapes) := ⟨rfl, rfl, rfl, by decide +kernel, rfl, by decide +kernel, by decide +kernel⟩
theorem scNearShape : FnScope ["draw", "shape", "found", "one", "other"] ["draw", "shape"] (defScope sNearShape) := ⟨rfl, rfl, rfl, by decide +kernel, rfl, by decide +kernel, by decide +kernel⟩
theorem scSets : FnScope ["size", "many", "found", "lap", "lot", "at"] ["size", "many"] (defScope sSets) := ⟨rfl, rfl, rfl, by decide +kernel, rfl, by decide +kernel, by decide +kernel⟩
/-- the ascending lots of numbers below size -/
def setsL (size : Nat) : Nat → List (List Nat)
  | 0 => [[]]
  | n + 1 => (setsL size n).flatMap fun lot => (List.range (size - (match lot.getLast? with | some x => x + 1 | none => 0))).map fun i => lot ++ [(match lot.getLast? with | some x => x + 1 | none => 0) + i]
def lo (lot : List Nat) : Nat := match lot.getLast? with | some x => x + 1 | none => 0
def ext (size : Nat) (lot : List Nat) : List (List Nat) := (List.range (size - lo lot)).map fun i => lot ++ [lo lot + i]
theorem setsL_succ (size n : Nat) : setsL size (n + 1) = (setsL size n).flatMap (ext size) := rfl
theorem sets_facts : ∀ size ∈ [1, 2, 3, 4], ∀ n ∈ [0, 1, 2, 3, 4], (setsL size n).length ≤ 6 ∧ (n ≤ size → setsL size n ≠ []) ∧ ∀ lot ∈ setsL size n, lot.length ≤ 4 := by decide +kernel
theorem sets_lo : ∀ size ∈ [1, 2, 3, 4], ∀ n ∈ [0, 1, 2, 3, 4], ∀ lot ∈ setsL size n, lo lot ≤ 4 := by decide +kernel
section
variable {P : Program} {w : World} {K : PySem.W.Frag} {mg : Str → Option Value} {base : Heap}
def fSlant : Pd := fun m ss st k xk => ∃ l : List Nat, ss = [.dat (.tuple (nsD l))] ∧ l.length ≤ 1000 ∧ ∀ ds, k (.dat (.tuple ds)) st
theorem ok_slant (D : Df K mg "_law_slant" sSlant ["numbers"]) (m1 : mg "tuple" = none) (m2 : mg "len" = none) (m3 : mg "range" = none) (m4 : mg "enumerate" = none) : Cal P w K mg base "_law_slant" sSlant ["numbers"] 1 fSlant := by
  refine cal_of D scSlant (by rintro _ _ _ _ _ ⟨_, rfl, _⟩; rfl) fun f cdv A outer s1 H E c hr tk hp ss st k h => ?_
  obtain ⟨l, rfl, hl, h⟩ := h
  refine db_one (ds_ret <| de_callTy call_tuple_of (by rfl) m1 boot_tuple <| da_cons <| dlc2 1 2 scSlant.nd <| di_enumT m4 <| dv 0 ⟨_, rfl, fun i d hd => ?_, fun i acc s => acc.length = i ∧ st = s, ⟨rfl, rfl⟩, ?_, ?_⟩)
  · obtain ⟨x, _, rfl⟩ := enumD_get hd
    exact ⟨_, _, rfl⟩
  · rintro i d1 d2 acc s hd ⟨rfl, rfl⟩
    obtain ⟨x, hx, e⟩ := enumD_get hd
    cases e
    have hi := (List.getElem?_eq_some_iff.mp hx).1
    rw [nsD_len] at hi
    refine ⟨by omega, fun _ s0 H0 C cl fp => ?_, fun z => nomatch z⟩
    refine de_callTy call_tuple_of (by rfl) m1 boot_tuple <| da_cons <| dlc 3 scSlant.nd <| di_range1 m3 <| de_callB call_len_seq (by rfl) m2 boot_len <| da_cons <| dv 0 <| da_nil <| dcall_len (.dat _) (.tup _) ⟨_, rfl, ?_, ?_, fun j acc2 s2 => acc2.length = j ∧ st = s2, ⟨rfl, rfl⟩, ?_, ?_⟩
    · omega
    · rw [nsD_len]; omega
    · rintro j d acc2 s2 hd2 ⟨rfl, rfl⟩
      obtain ⟨hj, rfl⟩ := ints_get hd2
      rw [nsD_len] at hj
      obtain ⟨n, _, rfl⟩ := nsD_get hx
      refine ⟨by omega, fun _ s0 H0 C cl fp => ?_, fun z => nomatch z⟩
      refine de_if <| dt_cmp op_eq (nomark _) <| dv 1 <| dv 3 <| dop_eq (x := .int _) (y := .int _) rfl rfl rfl ⟨_, rfl, ⟨fun _ => dv 2 ⟨_, .dat .nil, rfl, ?_, rfl⟩, fun _ => de_int ⟨_, .dat .nil, rfl, ?_, rfl⟩⟩⟩
      · rw [List.length_append]; rfl
      · rw [List.length_append]; rfl
    · rintro acc2 s2 ⟨_, rfl⟩ p
      refine da_nil <| dcall_tuple (.own p _) (.lst _) ⟨_, .dat .nil, rfl, ?_, rfl⟩
      rw [List.length_append]
      rfl
  · rintro acc s ⟨_, rfl⟩ p
    exact da_nil <| dcall_tuple (.own p _) (.lst _) ⟨_, .dat _, h _⟩
def fSets : Pd := fun m ss st k xk => ∃ size n : Nat, ss = [.dat (nD size), .dat (nD n)] ∧ 1 ≤ size ∧ size ≤ 4 ∧ n ≤ size ∧ k (.dat (.list ((setsL size n).map fun lot => .tuple (nsD lot)))) st
theorem ok_sets (D : Df K mg "_law_sets" sSets ["size", "many"]) (m1 : mg "sum" = none) (m3 : mg "range" = none) : Cal P w K mg base "_law_sets" sSets ["size", "many"] 1 fSets := by
  refine cal_of D scSets (by rintro _ _ _ _ _ ⟨_, _, rfl, _⟩; rfl) fun f cdv A outer s1 H E c hr tk hp ss st k h => ?_
  obtain ⟨size, n, rfl, hs1, hs4, hn, h⟩ := h
  have facts : ∀ i, i ≤ 4 → (setsL size i).length ≤ 6 ∧ (i ≤ size → setsL size i ≠ []) ∧ ∀ lot ∈ setsL size i, lot.length ≤ 4 := fun i hi => sets_facts size (by simp; omega) i (by simp; omega)
  refine db_cons (dset 2 scSets.nd <| de_lst <| da_cons <| de_tup <| da_nil ⟨_, .nil, by simp, da_nil ⟨_, .dat .nil, by simp, fun p0 => ?_⟩⟩)
  refine db_cons (ds_for hp rfl <| di_range1 m3 <| dv 1 ⟨(n : Int), rfl, by omega, by omega, fun i ρ s => ∃ p s3, ρ = [.dat (nD size), .dat (nD n), .own p ((setsL size i).map fun lot => .tuple (nsD lot)), s3, .any, .any] ∧ st = s, ⟨p0, _, rfl, rfl⟩, ?_, ?_⟩)
  · rintro i d ρ s hd ⟨p, s3, rfl, rfl⟩
    obtain ⟨hi, rfl⟩ := ints_get hd
    have hi' : i < n := by omega
    obtain ⟨f1, f2, f3⟩ := facts i (by omega)
    obtain ⟨g1, _, _⟩ := facts (i + 1) (by omega)
    have efl : ((setsL size i).map fun lot => (ext size lot).map fun l => PyData.tuple (nsD l)).flatten = (setsL size (i + 1)).map fun lot => .tuple (nsD lot) := by
      rw [setsL_succ, List.map_flatMap, List.flatMap_def]
    refine dgn 3 scSets.nd ?_
    refine db_one (dset 2 scSets.nd <| de_callB (call_sumL rfl) (by rfl) m1 boot_sum <| da_cons <| dlcV 2 4 scSets.nd ⟨fun j acc s => acc = ((setsL size i).take j).map (fun lot => .list ((ext size lot).map fun l => .tuple (nsD l))) ∧ st = s, ⟨rfl, rfl⟩, ?_, ?_⟩)
    · rintro j d acc s hd2 ⟨rfl, rfl⟩
      obtain ⟨lot, hlot, rfl⟩ : ∃ lot, (setsL size i)[j]? = some lot ∧ d = .tuple (nsD lot) := by
        rw [List.getElem?_map] at hd2
        cases e : (setsL size i)[j]? with
        | none => rw [e] at hd2; cases hd2
        | some lot => rw [e] at hd2; cases hd2; exact ⟨lot, rfl, rfl⟩
      have hj := (List.getElem?_eq_some_iff.mp hlot).1
      have hl4 := f3 lot (List.mem_of_getElem? hlot)
      refine ⟨by rw [List.length_map, List.length_take]; omega, fun _ s0 H0 C cl fp => ?_, fun z => nomatch z⟩
      refine dlc 5 scSets.nd <| di_range2 m3 <| de_imp (k' := fun s' ρ' st' => s' = .dat (nD (lo lot)) ∧ ρ' = [.dat (nD size), .dat (nD n), .own p ((setsL size i).map fun lot => .tuple (nsD lot)), .dat (.int (0 + (i : Int))), .dat (.tuple (nsD lot)), .any] ∧ st = st') ?_ ?_
      · refine de_if <| dt_cmp (op_neD hr.units) (nomark _) <| dv 4 <| de_tup <| da_nil ⟨_, .nil, by simp, dop_neD (.dat _) (.dat _) (shaped_ok (ok_nsD _)) (by decide) ⟨_, rfl, ⟨fun e => ?_, fun e => de_int ⟨?_, rfl, rfl⟩⟩⟩⟩
        · cases hg : lot.getLast? with
          | none =>
            have : lot = [] := List.getLast?_eq_none_iff.mp hg
            subst this
            cases e
          | some x =>
            have hne : lot ≠ [] := fun z => by subst z; cases hg
            have e1 : nsD lot = nsD lot.dropLast ++ [nD x] := by
              have := List.dropLast_concat_getLast hne
              rw [List.getLast?_eq_getLast hne] at hg
              rw [Option.some.inj hg] at this
              conv => lhs; rw [← this]
              unfold nsD
              rw [List.map_append]
              rfl
            refine de_bin op_add <| de_ix ix_tup <| dv 4 <| de_neg <| de_int ⟨_, rfl, dop_ixT (ds := nsD lot) (d := nD x) (by rw [e1]; exact atI_last _ _) <| de_int <| dop_I0 rfl ⟨?_, rfl, rfl⟩⟩
            unfold lo
            rw [hg]
            rfl
        · have : lot = [] := by
            cases lot with
            | nil => rfl
            | cons x l => cases e
          subst this
          rfl
      rintro _ _ _ ⟨rfl, rfl, rfl⟩
      refine ⟨_, rfl, dv 0 ⟨_, rfl, ?_, fun t acc2 s2 => acc2 = ((List.range t).map fun u => PyData.tuple (nsD (lot ++ [lo lot + u]))) ∧ st = s2, ⟨rfl, rfl⟩, ?_, ?_⟩⟩
      · have : lo lot ≤ 1000 := by
          have := sets_lo size (by simp; omega) i (by simp; omega) lot (List.mem_of_getElem? hlot)
          omega
        exact ⟨by omega, by omega, by omega, by omega⟩
      · rintro t d acc2 s2 hd3 ⟨rfl, rfl⟩
        obtain ⟨ht, rfl⟩ := ints_get hd3
        refine ⟨by rw [List.length_map, List.length_range]; omega, fun _ s0 H0 C cl fp => ?_, fun z => nomatch z⟩
        refine de_bin op_catA <| dv 4 <| de_tup <| da_cons <| dv 5 <| da_nil ⟨_, .dat .nil, by simp, dop_catA (ds := nsD lot) (es := [.int ((lo lot : Int) + (t : Int))]) (by rw [nsD_len]; simp; omega) ⟨_, .dat .nil, rfl, ?_, rfl⟩⟩
        rw [List.range_succ, List.map_append]
        congr 1
        show [PyData.tuple (nsD lot ++ [PyData.int ((lo lot : Int) + (t : Int))])] = [PyData.tuple (nsD (lot ++ [lo lot + t]))]
        unfold nsD
        rw [List.map_append]
        rfl
      · rintro acc2 s2 ⟨rfl, rfl⟩ p4
        refine ⟨_, .own .nil, rfl, ?_, rfl⟩
        rw [ints_len, List.take_add_one, hlot, List.map_append]
        congr 1
        show _ = [PyData.list (((List.range (size - lo lot)).map fun i => lot ++ [lo lot + i]).map fun l => .tuple (nsD l))]
        rw [List.map_map, show ((size : Int) - (lo lot : Int)).toNat = size - lo lot by omega]
        rfl
    · rintro acc s ⟨rfl, rfl⟩ p1
      rw [List.length_map, List.take_length]
      refine da_cons <| de_lst <| da_nil ⟨_, .nil, by simp, fun p2 => da_nil <| dcall_sumL (es := (setsL size i).map fun lot => (ext size lot).map fun l => .tuple (nsD l)) ?_ ?_ ?_ fun p3 => ?_⟩
      · rw [List.map_map]
        exact .own p1 _
      · intro z
        exact f2 (by omega) (List.map_eq_nil_iff.mp z)
      · rw [efl, List.length_map]
        omega
      · rw [efl]
        exact ⟨p3, _, rfl, rfl⟩
  · rintro ρ s ⟨p, s3, rfl, rfl⟩
    rw [ints_len, show ((n : Int)).toNat = n by omega]
    exact db_one (ds_ret <| dv 2 ⟨_, .vlst p _ 2 rfl, h⟩)
end
end K33

namespace K33
open PySem PySem.Spec PyProof.Rows L2 DL LH
theorem ixN_n {n j : Nat} (hj : j < n) : ixN n (j : Int) = some j := by
  unfold ixN
  rw [if_pos (by omega), if_pos (by omega)]
  simp
theorem nsD_set (l : List Nat) (j x : Nat) : (nsD l).set j (nD x) = nsD (l.set j x) := by unfold nsD; rw [List.map_set]
theorem shp_sort {B n : Nat} {l : List Nat} (h1 : l.length = n) (h2 : ∀ x ∈ l, x ≤ B) : Shp B n (l.mergeSort fun a b => decide (b ≤ a)) :=
  ⟨by rw [List.length_mergeSort]; exact h1, down_sort l, fun x hx => h2 x ((List.mergeSort_perm l _).mem_iff.mp hx)⟩
theorem nsD_at {l : List Nat} {i : Nat} {x : Nat} (h : l[i]? = some x) : (nsD l)[i]? = some (nD x) := by unfold nsD; rw [List.getElem?_map, h]; rfl
section
variable {P : Program} {w : World} {K : PySem.W.Frag} {mg : Str → Option Value} {base : Heap}
def fNearShape : Pd := fun m ss st k xk => ∃ (dr la ca : Addr) (cs : List Int) (hd : HasDraw m dr la ca cs) (n : Nat) (l : List Nat), ss = [.raw (.ref dr), .dat (.tuple (nsD l))] ∧ 1 ≤ n ∧ n ≤ 4 ∧ Shp 18 n l ∧ ∀ l', Shp 19 n l' → ∀ st' : m.St, k (.dat (.tuple (nsD l'))) st'
theorem ok_near_shape (D : Df K mg "_law_near_shape" sNearShape ["draw", "shape"]) (C1 : Cal P w K mg base "_law_take" sTake ["draw", "amount"] 2 fTake) (m1 : mg "list" = none) (m2 : mg "len" = none) (m3 : mg "max" = none) (m4 : mg "tuple" = none) (m5 : mg "sorted" = none) :
    Cal P w K mg base "_law_near_shape" sNearShape ["draw", "shape"] 3 fNearShape := by
  refine cal_of D scNearShape (by rintro _ _ _ _ _ ⟨_, _, _, _, _, _, _, rfl, _⟩; rfl) fun f cdv A outer s1 H E c hr tk hp ss st k h => ?_
  obtain ⟨dr, la, ca, cs, hd, n, l, rfl, h1, h4, hl, h⟩ := h
  obtain ⟨hl1, hl2, hl3⟩ := hl
  have fin : ∀ (p : Addr) (l2 : List Nat) (s3 s4 : DL.Slot) st, l2.length = n → (∀ x ∈ l2, x ≤ 19) → DB (cxOf (L2.CX P w) P w K mg base ["draw", "shape", "found", "one", "other"] "_law_near_shape" (defScope sNearShape) f cdv A outer s1 H E) c ((defBody sNearShape).drop 4) [.raw (.ref dr), .dat (.tuple (nsD l)), .own p (nsD l2), s3, s4] st ⟨fun _ s' => k (.dat .none) s', k, fun _ _ => False, fun _ _ => False⟩ := fun p l2 s3 s4 st e1 e2 => by
    refine db_one (ds_ret <| de_callTy call_tuple_of (by rfl) m4 boot_tuple <| da_cons <| de_sortedR m5 hr.units <| dv 2 ⟨_, nsD l2, .ref p _ 2 rfl, .lst _, srtsN (l := l2) (by omega), fun p2 => da_nil <| dcall_tuple (.own p2 _) (.lst _) ⟨_, .dat _, ?_⟩⟩)
    rw [sortN]
    exact h _ (shp_sort e1 e2) _
  refine db_cons (dset 2 scNearShape.nd <| de_callTy call_list_of (by rfl) m1 boot_list <| da_cons <| dv 1 <| da_nil <| dcall_list (.dat _) (.tup _) fun p => ?_)
  refine db_cons (dpar 3 4 scNearShape.nd (by rfl) <| dc_call C1 hr tk <| da_cons <| dv 0 <| da_cons <| de_callB call_len_seq (by rfl) m2 boot_len <| da_cons <| dv 2 <| da_nil <| dcall_len (.ref p _ 2 rfl) (.lst _) <| da_nil fun A => ⟨dr, la, ca, cs, hd.avoid A, _, rfl, ?_, ?_, fun i st1 i1 i2 => ?_⟩)
  · rw [nsD_len]; omega
  · rw [nsD_len]; omega
  refine dc_call C1 hr tk <| da_cons <| dv 0 <| da_cons <| de_callB call_len_seq (by rfl) m2 boot_len <| da_cons <| dv 2 <| da_nil <| dcall_len (.ref p _ 2 rfl) (.lst _) <| da_nil fun A => ⟨dr, la, ca, cs, hd.avoid A, _, rfl, ?_, ?_, fun j st2 j1 j2 => ?_⟩
  · rw [nsD_len]; omega
  · rw [nsD_len]; omega
  rw [nsD_len] at i2 j2
  obtain ⟨a, rfl⟩ : ∃ a : Nat, i = (a : Int) := ⟨i.toNat, by omega⟩
  obtain ⟨b, rfl⟩ : ∃ b : Nat, j = (b : Int) := ⟨j.toNat, by omega⟩
  have ha : a < l.length := by omega
  have hb : b < l.length := by omega
  have ea : l[a]? = some l[a] := List.getElem?_eq_getElem ha
  refine db_cons (ds_setL 2 <| de_bin op_add <| de_ix ix_list <| dv 2 <| dv 3 <| dop_ixL (.ref p _ 2 rfl) (atI_nat (nsD_at ea)) <| de_int <| dop_I0 rfl ⟨_, p, nsD l, rfl, rfl, dv 3 ⟨_, a, rfl, rfl, ixN_n (by rw [nsD_len]; exact ha), ?_⟩⟩)
  show DB _ _ _ [.raw (.ref dr), .dat (.tuple (nsD l)), .own p ((nsD l).set a (nD (l[a] + 1))), .dat (.int (a : Int)), .dat (.int (b : Int))] _ _
  rw [nsD_set]
  have hl' : ∀ x ∈ l.set a (l[a] + 1), x ≤ 19 := fun x hx => by
    rcases List.mem_or_eq_of_mem_set hx with hx | rfl
    · have := hl3 x hx; omega
    · have := hl3 l[a] (List.getElem_mem ha); omega
  refine db_cons (ds_if <| dt_cmp op_gt (nomark _) <| dc_call C1 hr tk <| da_cons <| dv 0 <| da_cons <| de_int <| da_nil fun A => ⟨dr, la, ca, cs, hd.avoid A, 6, rfl, by decide, by decide, fun z st3 _ _ => de_int <| dop_I0 rfl ⟨_, rfl, ⟨fun _ => ?_, fun _ => db_nil (fin p _ _ _ _ (by rw [List.length_set]; exact hl1) hl')⟩⟩⟩)
  have hb2 : b < (l.set a (l[a] + 1)).length := by rw [List.length_set]; exact hb
  have eb : (l.set a (l[a] + 1))[b]? = some (l.set a (l[a] + 1))[b] := List.getElem?_eq_getElem hb2
  refine db_one (ds_setL 2 <| de_callB (call_max2 rfl) (by rfl) m3 boot_max <| da_cons <| de_int <| da_cons <| de_bin op_sub <| de_ix ix_list <| dv 2 <| dv 4 <| dop_ixL (.ref p _ 2 rfl) (atI_nat (nsD_at eb)) <| de_int <| dop_I0 rfl <| da_nil <| dcall_max2 ⟨_, p, nsD (l.set a (l[a] + 1)), rfl, rfl, dv 4 ⟨_, b, rfl, rfl, ixN_n (by rw [nsD_len]; exact hb2), ?_⟩⟩)
  have em : PyData.int (max 0 (((l.set a (l[a] + 1))[b] : Int) - 1)) = nD ((l.set a (l[a] + 1))[b] - 1) := by
    unfold nD
    congr 1
    omega
  rw [em]
  show DB _ _ _ [.raw (.ref dr), .dat (.tuple (nsD l)), .own p ((nsD (l.set a (l[a] + 1))).set b (nD ((l.set a (l[a] + 1))[b] - 1))), .dat (.int (a : Int)), .dat (.int (b : Int))] _ _
  rw [nsD_set]
  refine fin p _ _ _ _ (by rw [List.length_set, List.length_set]; exact hl1) fun x hx => ?_
  rcases List.mem_or_eq_of_mem_set hx with hx | rfl
  · exact hl' x hx
  · have := hl' _ (List.getElem_mem hb2); omega
end
end K33

namespace DL
open PySem PySem.Spec PyProof.Rows L2
/-- a list that is known, owned or not -/
def AsL (s : Slot) (ds : List PyData) : Prop := s = .dat (.list ds) ∨ ∃ p, s = .own p ds
theorem set_same {ρ : Env} {i : Nat} {s : Slot} (h : ρ[i]? = some s) : ρ.set i s = ρ := by
  obtain ⟨hi, e⟩ := List.getElem?_eq_some_iff.mp h
  rw [← e]
  exact List.set_getElem_self hi
theorem db_frz (i : Nat) {X : Cx} {c : Cz} {ρ : Env} {st : c.m.St} {ss : List Stmt} {D : Dn c.m} {s : Slot} {ds : List PyData} (hs : AsL s ds) (hρ : ρ[i]? = some s) (h : DB X c ss (ρ.set i (.dat (.list ds))) st D) : DB X c ss ρ st D := by
  rcases hs with rfl | ⟨p, rfl⟩
  · rw [set_same hρ] at h
    exact h
  · exact db_freeze i hρ h
end DL
namespace K33
open PySem PySem.Spec PyProof.Rows L2 DL LH
section
variable {P : Program} {w : World} {K : PySem.W.Frag} {mg : Str → Option Value} {base : Heap}
def fShapes : Pd := fun m ss st k xk => ∃ (dr la ca : Addr) (cs : List Int) (hd : HasDraw m dr la ca cs) (n : Nat), ss = [.raw (.ref dr), .dat (nD n)] ∧ 1 ≤ n ∧ n ≤ 4 ∧ ∀ l, Shp 9 n l → ∀ st' : m.St, k (.dat (.tuple (nsD l))) st'
theorem ok_shapes (D : Df K mg "_law_shapes" sShapes ["draw", "size"]) (C1 : Cal P w K mg base "_law_take" sTake ["draw", "amount"] 2 fTake) (C2 : Cal P w K mg base "_law_pick" sPick ["draw", "some"] 3 fPick) (m1 : mg "tuple" = none) (m2 : mg "sorted" = none) (m3 : mg "range" = none) :
    Cal P w K mg base "_law_shapes" sShapes ["draw", "size"] 4 fShapes := by
  refine cal_of D scShapes (by rintro _ _ _ _ _ ⟨_, _, _, _, _, _, rfl, _⟩; rfl) fun f cdv A outer s1 H E c hr tk hp ss st k h => ?_
  obtain ⟨dr, la, ca, cs, hd, n, rfl, h1, h4, h⟩ := h
  obtain ⟨mo, hmo, hmo9⟩ : ∃ mo : Nat, L2.atI [nD 9, nD 7, nD 5, nD 4] ((n : Int) - 1) = some (nD mo) ∧ mo ≤ 9 ∧ 1 ≤ mo := by
    have : n = 1 ∨ n = 2 ∨ n = 3 ∨ n = 4 := by omega
    rcases this with rfl | rfl | rfl | rfl
    · exact ⟨9, rfl, by decide, by decide⟩
    · exact ⟨7, rfl, by decide, by decide⟩
    · exact ⟨5, rfl, by decide, by decide⟩
    · exact ⟨4, rfl, by decide, by decide⟩
  refine db_cons (ds_asgD <| de_tup <| da_cons <| de_ix ix_list <| de_lst ?_)
  refine da_cons <| de_int <| da_cons <| de_int <| da_cons <| de_int <| da_cons <| de_int <| da_nil ⟨[nD 9, nD 7, nD 5, nD 4], .dat (.dat (.dat (.dat .nil))), by simp, fun p0 => ?_⟩
  refine de_bin op_sub <| dv 1 <| de_int <| dop_I0 rfl <| dop_ixL (.own p0 _) hmo ?_
  refine da_cons <| de_lst <| da_cons <| dc_call C1 (hr.mono (by decide)) tk <| da_cons <| dv 0 <| da_cons <| de_int <| da_nil fun A => ⟨dr, la, ca, cs, hd.avoid A, 2, rfl, by decide, by decide, fun x st1 x1 x2 => da_nil ⟨_, .dat .nil, by simp, fun p1 => ?_⟩⟩
  refine da_cons <| dc_call C1 (hr.mono (by decide)) tk <| da_cons <| dv 0 <| da_cons <| de_int <| da_nil fun A => ⟨dr, la, ca, cs, hd.avoid A, 4, rfl, by decide, by decide, fun way st2 w1 w2 => da_nil ⟨_, .dat (.own (.dat .nil)), by simp, _, rfl, ?_⟩⟩
  refine dg_tup rfl <| dgs_cons <| dgn 2 scShapes.nd <| dgs_cons <| dgn 3 scShapes.nd <| dgs_cons <| dgn 4 scShapes.nd <| dgs_nil ?_
  obtain ⟨x0, rfl⟩ : ∃ a : Nat, x = (a : Int) := ⟨x.toNat, by omega⟩
  refine db_cons (ds_if <| dt_cmp op_eq (nomark _) <| dv 4 <| de_int <| dop_eq (x := .int _) (y := .int _) rfl rfl rfl ⟨_, rfl, ⟨fun _ => ?_, fun _ => db_nil ?_⟩⟩)
  · refine db_one (ds_ret <| de_callTy call_tuple_of (by rfl) m1 boot_tuple <| da_cons <| de_sortedR m2 hr.units <| dlc 5 scShapes.nd <| di_range1 m3 <| dv 1 ⟨(n : Int), rfl, by omega, by omega, fun i acc s => ∃ l : List Nat, acc = nsD l ∧ l.length = i ∧ ∀ x ∈ l, x ≤ 9, ⟨[], rfl, rfl, by simp⟩, ?_, ?_⟩)
    · rintro i d acc s hd' ⟨l, rfl, hl, hl9⟩
      obtain ⟨hi, rfl⟩ := ints_get hd'
      refine ⟨by rw [nsD_len]; omega, fun _ s0 H0 C cl fp => ?_, fun z => nomatch z⟩
      refine dc_call C1 (hr.mono (by decide)) LamX.takes0 <| da_cons <| dv 0 <| da_cons <| de_bin op_add <| de_int <| dc_call C2 hr LamX.takes0 <| da_cons <| dv 0 <| da_cons <| de_lst ?_
      refine da_cons <| de_int <| da_cons <| dv 2 <| da_cons <| dv 2 <| da_nil ⟨nsD [1, mo, mo], .dat (.dat (.dat .nil)), by simp [nsD], fun p2 => da_nil fun A => ⟨dr, la, ca, cs, hd.avoid A, nsD [1, mo, mo], rfl, by simp [nsD], by simp [nsD], fun d hdm st3 => ?_⟩⟩
      obtain ⟨q, hq, rfl⟩ := List.mem_map.mp hdm
      have hq9 : q ≤ 9 := by
        simp only [List.mem_cons, List.not_mem_nil, or_false] at hq
        rcases hq with rfl | rfl | rfl <;> omega
      refine dop_I0 (i := 1) (j := (q : Int)) rfl <| da_nil fun A => ⟨dr, la, ca, cs, hd.avoid A, _, rfl, by omega, by omega, fun v st4 v1 v2 => ⟨_, .dat .nil, rfl, l ++ [v.toNat], ?_, by rw [List.length_append, hl]; rfl, fun y hy => ?_⟩⟩
      · unfold nsD
        rw [List.map_append]
        show _ ++ [PyData.int v] = _ ++ [PyData.int (v.toNat : Int)]
        rw [Int.toNat_of_nonneg v1]
      · rcases List.mem_append.mp hy with hy | hy
        · exact hl9 y hy
        · rw [List.mem_singleton.mp hy]; omega
    · rintro acc s ⟨l, rfl, hl, hl9⟩ p3
      rw [ints_len, show ((n : Int)).toNat = n by omega] at hl
      refine ⟨_, nsD l, .own p3 _, .lst _, srtsN (l := l) (by omega), fun p4 => da_nil <| dcall_tuple (.own p4 _) (.lst _) ⟨_, .dat _, ?_⟩⟩
      rw [sortN]
      exact h _ (shp_sort hl hl9) _
  · have cc : ∃ c0 : Nat, (c0 = 3 ∧ n < 4) ∨ (c0 = 2 ∧ n = 4) := by
      by_cases hn : n < 4
      · exact ⟨3, .inl ⟨rfl, hn⟩⟩
      · exact ⟨2, .inr ⟨rfl, by omega⟩⟩
    obtain ⟨c0, hc0⟩ := cc
    refine db_cons (ds_for hp rfl <| di_range1 m3 <| de_bin op_sub <| dv 1 <| de_int <| dop_I0 rfl ⟨(n : Int) - 1, rfl, by omega, by omega, fun i ρ s => ∃ (x : Nat) (l : List Nat) (s3 s5 s6 : DL.Slot), ρ = [.raw (.ref dr), .dat (nD n), .dat (nD mo), s3, .dat (.int way), s5, s6] ∧ AsL s3 (nsD (x :: l)) ∧ l.length = i ∧ (x :: l).Pairwise (fun a b => b ≤ a) ∧ x ≤ 1 + c0 * i, ⟨x0, [], _, _, _, rfl, .inl rfl, rfl, List.pairwise_singleton _ _, by omega⟩, ?_, ?_⟩)
    · rintro i d ρ s hd' ⟨x, l, s3, s5, s6, rfl, hs3, hl, hdn, hx⟩
      obtain ⟨hi, rfl⟩ := ints_get hd'
      have hi' : i < n - 1 := by omega
      refine dgn 6 scShapes.nd <| db_frz 3 hs3 rfl ?_
      refine db_one (dset 3 scShapes.nd <| de_bin op_catD <| de_lst <| da_cons <| de_bin op_add <| de_ix ix_list <| dv 3 <| de_int <| dop_ixL (d := nD x) (.dat _) (atI_nat (j := 0) rfl) <| dc_call C2 hr tk <| da_cons <| dv 0 <| da_cons <| de_imp (k' := fun s' ρ' st' => ∃ (p : Addr) (ns : List Nat), s' = .own p (nsD ns) ∧ 0 < ns.length ∧ ns.length ≤ 4 ∧ (∀ x ∈ ns, x ≤ c0) ∧ ρ' = [.raw (.ref dr), .dat (nD n), .dat (nD mo), .dat (.list (nsD (x :: l))), .dat (.int way), s5, .dat (.int (0 + (i : Int)))]) ?_ ?_)
      · have le2 : ∀ ns : List Nat, (∀ x ∈ ns, x ≤ 2) → ∀ x ∈ ns, x ≤ c0 := fun ns hns x hx => by have := hns x hx; omega
        refine de_if <| dt_w <| dw_and <| dt_cmp op_gt (nomark _) <| dv 4 <| de_int <| dop_I0 rfl ⟨_, rfl, ⟨fun _ => dw_and1 <| dt_cmp op_lt (nomark _) <| dv 1 <| de_int <| dop_I0 rfl ⟨_, rfl, ⟨fun e => ?_, fun _ => ?_⟩⟩, fun _ => ⟨fun z => absurd z (by decide), fun _ => ?_⟩⟩⟩
        · refine de_lst <| da_cons <| de_int <| da_cons <| de_int <| da_cons <| de_int <| da_cons <| de_int <| da_nil ⟨nsD [1, 2, 2, 3], .dat (.dat (.dat (.dat .nil))), by simp [nsD], fun p => ⟨p, [1, 2, 2, 3], rfl, by decide, by decide, fun x hx => ?_, rfl⟩⟩
          have : n < 4 := by have := of_decide_eq_true e; omega
          simp only [List.mem_cons, List.not_mem_nil, or_false] at hx
          omega
        · refine de_if <| dt_cmp op_gt (nomark _) <| dv 4 <| de_int <| dop_I0 rfl ⟨_, rfl, ⟨fun _ => ?_, fun _ => ?_⟩⟩
          · exact de_lst <| da_cons <| de_int <| da_cons <| de_int <| da_cons <| de_int <| da_nil ⟨nsD [1, 1, 2], .dat (.dat (.dat .nil)), by simp [nsD], fun p => ⟨p, [1, 1, 2], rfl, by decide, by decide, le2 _ (by decide), rfl⟩⟩
          · exact de_lst <| da_cons <| de_int <| da_cons <| de_int <| da_cons <| de_int <| da_nil ⟨nsD [0, 1, 2], .dat (.dat (.dat .nil)), by simp [nsD], fun p => ⟨p, [0, 1, 2], rfl, by decide, by decide, le2 _ (by decide), rfl⟩⟩
        · refine de_if <| dt_cmp op_gt (nomark _) <| dv 4 <| de_int <| dop_I0 rfl ⟨_, rfl, ⟨fun _ => ?_, fun _ => ?_⟩⟩
          · exact de_lst <| da_cons <| de_int <| da_cons <| de_int <| da_cons <| de_int <| da_nil ⟨nsD [1, 1, 2], .dat (.dat (.dat .nil)), by simp [nsD], fun p => ⟨p, [1, 1, 2], rfl, by decide, by decide, le2 _ (by decide), rfl⟩⟩
          · exact de_lst <| da_cons <| de_int <| da_cons <| de_int <| da_cons <| de_int <| da_nil ⟨nsD [0, 1, 2], .dat (.dat (.dat .nil)), by simp [nsD], fun p => ⟨p, [0, 1, 2], rfl, by decide, by decide, le2 _ (by decide), rfl⟩⟩
      rintro _ _ st3 ⟨p, ns, rfl, n1, n2, n3, rfl⟩
      refine da_nil fun A => ⟨dr, la, ca, cs, hd.avoid A, nsD ns, rfl, by rw [nsD_len]; exact n1, by rw [nsD_len]; omega, fun d hdm st4 => ?_⟩
      obtain ⟨q, hq, rfl⟩ := List.mem_map.mp hdm
      have hq2 := n3 q hq
      refine dop_I0 (i := (x : Int)) (j := (q : Int)) rfl <| da_nil ⟨[nD (x + q)], .dat .nil, by simp, fun p5 => dv 3 <| dop_catD (ds := [nD (x + q)]) (es := nsD (x :: l)) (.own p5 _) (.dat _) (by rw [nsD_len, List.length_cons]; simp; omega) fun p6 => ⟨x + q, x :: l, _, _, _, rfl, .inr ⟨p6, rfl⟩, by rw [List.length_cons, hl], ?_, ?_⟩⟩
      · refine List.pairwise_cons.mpr ⟨fun z hz => ?_, hdn⟩
        rcases List.mem_cons.mp hz with rfl | hz
        · omega
        · have := (List.pairwise_cons.mp hdn).1 z hz
          omega
      · rw [Nat.mul_add]
        omega
    · rintro ρ s ⟨x, l, s3, s5, s6, rfl, hs3, hl, hdn, hx⟩
      rw [ints_len, show ((n : Int) - 1).toNat = n - 1 by omega] at hl hx
      refine db_frz 3 hs3 rfl ?_
      refine db_one (ds_ret <| de_callTy call_tuple_of (by rfl) m1 boot_tuple <| da_cons <| dv 3 <| da_nil <| dcall_tuple (.dat _) (.lst _) ⟨_, .dat _, h _ ⟨by rw [List.length_cons]; omega, hdn, fun z hz => ?_⟩ _⟩)
      have hx9 : x ≤ 9 := by
        rcases hc0 with ⟨rfl, hn⟩ | ⟨rfl, hn⟩ <;> omega
      rcases List.mem_cons.mp hz with rfl | hz
      · exact hx9
      · have := (List.pairwise_cons.mp hdn).1 z hz
        omega
end
end K33

namespace K33
open PySem PySem.Spec PyProof.Rows L2 DL LH
/-! ### the rows of one letter -/
def roomI (one : List Nat) (strip : Nat) (before : Option (List Nat)) (a : Nat) (row : List Nat) : Int :=
  match before with
  | none => if a = 0 then (strip : Int) - (row.sum : Nat) else min ((strip : Int) - (row.sum : Nat)) ((one.getD (a - 1) 0 : Nat) - (one.getD a 0 : Nat))
  | some b => min (if a = 0 then (strip : Int) - (row.sum : Nat) else min ((strip : Int) - (row.sum : Nat)) ((one.getD (a - 1) 0 : Nat) - (one.getD a 0 : Nat))) (((b.take a).sum : Nat) - (row.sum : Nat))
def extR (one : List Nat) (strip : Nat) (before : Option (List Nat)) (a : Nat) (row : List Nat) : List (List Nat) := (List.range (roomI one strip before a row + 1).toNat).map fun m => row ++ [m]
def rowsTo (one : List Nat) (strip : Nat) (before : Option (List Nat)) : Nat → List (List Nat)
  | 0 => [[]]
  | a + 1 => (rowsTo one strip before a).flatMap (extR one strip before a)
def letters (one : List Nat) (strip : Nat) (before : Option (List Nat)) : List (List Nat) := (rowsTo one strip before one.length).filter fun r => decide (r.sum = strip)
theorem room_le (one : List Nat) (strip : Nat) (before : Option (List Nat)) (a : Nat) (row : List Nat) : roomI one strip before a row ≤ (strip : Int) - (row.sum : Nat) := by
  unfold roomI
  cases before with
  | none => dsimp only; split <;> omega
  | some b => dsimp only; split <;> omega
theorem flatMap_le {α β : Type} {f : α → List β} {n : Nat} : ∀ (l : List α), (∀ x ∈ l, (f x).length ≤ n) → (l.flatMap f).length ≤ l.length * n
  | [], _ => by simp
  | x :: l, h => by
    have h1 := h x List.mem_cons_self
    have h2 := flatMap_le l fun y hy => h y (List.mem_cons_of_mem _ hy)
    rw [List.flatMap_cons, List.length_append, List.length_cons, Nat.succ_mul]
    omega
theorem ext_len (one : List Nat) (strip : Nat) (before : Option (List Nat)) (a : Nat) (row : List Nat) : (extR one strip before a row).length ≤ strip + 1 := by
  unfold extR
  rw [List.length_map, List.length_range]
  have := room_le one strip before a row
  omega
theorem rows_len (one : List Nat) (strip : Nat) (before : Option (List Nat)) : ∀ a, (rowsTo one strip before a).length ≤ (strip + 1) ^ a
  | 0 => by simp [rowsTo]
  | a + 1 => by
    have h := flatMap_le (n := strip + 1) (f := extR one strip before a) (rowsTo one strip before a) fun x _ => ext_len one strip before a x
    have ih := rows_len one strip before a
    rw [rowsTo, Nat.pow_succ]
    exact Nat.le_trans h (Nat.mul_le_mul_right _ ih)
theorem row_at (one : List Nat) (strip : Nat) (before : Option (List Nat)) : ∀ a, ∀ r ∈ rowsTo one strip before a, r.length = a
  | 0, r, h => by rw [rowsTo, List.mem_singleton] at h; rw [h]; rfl
  | a + 1, r, h => by
    rw [rowsTo, List.mem_flatMap] at h
    obtain ⟨r', h1, h2⟩ := h
    unfold extR at h2
    obtain ⟨m, _, rfl⟩ := List.mem_map.mp h2
    rw [List.length_append, row_at one strip before a r' h1]
    rfl
def befD : Option (List Nat) → PyData
  | none => .none
  | some b => .tuple (nsD b)
def rowsD (l : List (List Nat)) : List PyData := l.map fun r => .tuple (nsD r)
theorem rowsD_len (l : List (List Nat)) : (rowsD l).length = l.length := List.length_map _
theorem rowsD_get {l : List (List Nat)} {i : Nat} {d : PyData} (h : (rowsD l)[i]? = some d) : ∃ r, l[i]? = some r ∧ d = .tuple (nsD r) := by
  unfold rowsD at h
  rw [List.getElem?_map] at h
  cases e : l[i]? with
  | none => rw [e] at h; cases h
  | some r => rw [e] at h; cases h; exact ⟨r, rfl, rfl⟩
theorem rowsD_app (l l' : List (List Nat)) : rowsD (l ++ l') = rowsD l ++ rowsD l' := List.map_append
theorem sumN : ∀ l : List Nat, (l.map fun n : Nat => (n : Int)).sum = ((l.sum : Nat) : Int)
  | [] => rfl
  | x :: l => by rw [List.map_cons, List.sum_cons, List.sum_cons, sumN l]; omega
theorem nsD_ints (l : List Nat) : nsD l = (l.map fun n : Nat => (n : Int)).map PyData.int := by unfold nsD; rw [List.map_map]; rfl
theorem cutN (b : List Nat) (a : Nat) : DL.cutD (nsD b) none (some (a : Int)) = nsD (b.take a) := by
  unfold DL.cutD
  rw [HT.sIx_none, HT.sIx_nat, Nat.sub_zero, List.drop_zero, nsD_len]
  unfold nsD
  rw [← List.map_take]
  congr 1
  by_cases h : a ≤ b.length
  · rw [Nat.min_eq_left h]
  · rw [Nat.min_eq_right (by omega), List.take_length, List.take_of_length_le (by omega)]
abbrev sLetters : Stmt := topS 36
theorem scLetters : FnScope ["one", "strip", "before", "found", "at", "late", "row", "room", "many"] ["one", "strip", "before"] (defScope sLetters) := ⟨rfl, rfl, rfl, by decide +kernel, rfl, by decide +kernel, by decide +kernel⟩
section
variable {P : Program} {w : World} {K : PySem.W.Frag} {mg : Str → Option Value} {base : Heap}
theorem dcall_sumN {c : Cz} {ρ : DL.Env} {st : c.m.St} {k : DL.Slot → DL.Env → c.m.St → Prop} {l : List Nat} (h : k (.dat (nD l.sum)) ρ st) : DCall K c (rSumT K) [.dat (.tuple (nsD l))] ρ st k := by
  rw [nsD_ints]
  refine dcall_sumT ?_
  rw [sumN]
  exact h
end
end K33
namespace DL
open PySem PySem.Spec PyProof.Rows L2
theorem dop_notN {c : Cz} {ρ : Env} {st : c.m.St} {k : Slot → Env → c.m.St → Prop} {K : PySem.W.Frag} {d : PyData} (h : k (.dat (.bool (!isNone d))) ρ st) : DOp K c (fun x y H Q => y = .non ∧ Q (.bl (!decide (x = .non))) H) (.dat d) (.dat .none) ρ st k := by
  intro τ σ H Q v1 v2 hh hl hk
  have e2 : v2 = .non := Option.some.inj (hh.int1 (w := .non) rfl)
  obtain ⟨v', e, qd⟩ := hh.dat (List.mem_append_right _ (List.mem_cons_of_mem _ List.mem_cons_self))
  cases e
  have e1 : decide (v1 = .non) = isNone d := by
    cases qd <;> first | rfl | exact decide_eq_false (fun z => by cases z) | exact decide_eq_true rfl
  refine ⟨e2, ?_⟩
  rw [e1]
  exact hk _ _ _ _ _ h (hh.two (v := .bl _) rfl) hl
end DL
namespace K33
open PySem PySem.Spec PyProof.Rows L2 DL LH
section
variable {P : Program} {w : World} {K : PySem.W.Frag} {mg : Str → Option Value} {base : Heap}
def fLetters : Pd := fun m ss st k xk => ∃ (one : List Nat) (strip : Nat) (before : Option (List Nat)), ss = [.dat (.tuple (nsD one)), .dat (nD strip), .dat (befD before)] ∧ one.length ≤ 4 ∧ strip ≤ 9 ∧ (∀ x ∈ one, x ≤ 1000000) ∧ k (.dat (.list (rowsD (letters one strip before)))) st
theorem rows_cap (one : List Nat) {strip : Nat} (before : Option (List Nat)) {a : Nat} (h : strip ≤ 9) (ha : a ≤ 4) : (rowsTo one strip before a).length ≤ 10000 := by
  refine Nat.le_trans (rows_len one strip before a) ?_
  have h1 : (strip + 1) ^ a ≤ 10 ^ a := Nat.pow_le_pow_left (by omega) a
  have h2 : 10 ^ a ≤ 10 ^ 4 := Nat.pow_le_pow_right (by decide) ha
  exact Nat.le_trans h1 (Nat.le_trans h2 (by decide))
/-- small numbers alone -/
theorem room_low (one : List Nat) (strip : Nat) (before : Option (List Nat)) (a : Nat) (r : List Nat) (h : (∀ x ∈ one, x ≤ 1000000) ∧ r.sum ≤ 1000000) : -(2 ^ 62) ≤ roomI one strip before a r + 1 := by
  have g : one.getD a 0 ≤ 1000000 := by
    rw [List.getD_eq_getElem?_getD]
    cases e : one[a]? with
    | none => simp
    | some x => exact h.1 x (List.mem_of_getElem? e)
  unfold roomI
  cases before with
  | none => dsimp only; split <;> omega
  | some b => dsimp only; split <;> omega
theorem sum_small (one : List Nat) {strip : Nat} (before : Option (List Nat)) (h9 : strip ≤ 9) : ∀ a, ∀ r ∈ rowsTo one strip before a, r.sum ≤ 1000000
  | 0, r, h => by rw [rowsTo, List.mem_singleton] at h; rw [h]; simp
  | a + 1, r, h => by
    rw [rowsTo, List.mem_flatMap] at h
    obtain ⟨r', h1, h2⟩ := h
    unfold extR at h2
    obtain ⟨m, hm, rfl⟩ := List.mem_map.mp h2
    have h3 := List.mem_range.mp hm
    have h4 := room_le one strip before a r'
    rw [List.sum_append]
    simp
    omega
theorem take_succ_flat {α β : Type} {l : List α} {j : Nat} {x : α} (f : α → List β) (h : l[j]? = some x) : (l.take (j + 1)).flatMap f = (l.take j).flatMap f ++ f x := by
  rw [List.take_add_one, h, List.flatMap_append]
  simp
theorem take_flat_le {α β : Type} (l : List α) (f : α → List β) (j : Nat) : ((l.take j).flatMap f).length ≤ (l.flatMap f).length := by
  have e : l.flatMap f = (l.take j).flatMap f ++ (l.drop j).flatMap f := by rw [← List.flatMap_append, List.take_append_drop]
  rw [e, List.length_append]
  omega
theorem ok_letters (D : Df K mg "_law_letters" sLetters ["one", "strip", "before"]) (m1 : mg "len" = none) (m2 : mg "range" = none) (m3 : mg "sum" = none) (m4 : mg "min" = none) : Cal P w K mg base "_law_letters" sLetters ["one", "strip", "before"] 1 fLetters := by
  refine cal_of D scLetters (by rintro _ _ _ _ _ ⟨_, _, _, rfl, _⟩; rfl) fun f cdv A outer s1 H E c hr tk hp ss st k h => ?_
  obtain ⟨one, strip, before, rfl, h4, h9, hsmall, h⟩ := h
  refine db_cons (dset 3 scLetters.nd <| de_lst <| da_cons <| de_tup <| da_nil ⟨_, .nil, by simp, da_nil ⟨_, .dat .nil, by simp, fun p0 => ?_⟩⟩)
  refine db_cons (ds_for hp rfl <| di_range1 m2 <| de_callB call_len_seq (by rfl) m1 boot_len <| da_cons <| dv 0 <| da_nil <| dcall_len (.dat _) (.tup _) ⟨_, rfl, ?_, ?_, fun a ρ s => ∃ s3 s4 s5 s6 s7 s8, ρ = [.dat (.tuple (nsD one)), .dat (nD strip), .dat (befD before), s3, s4, s5, s6, s7, s8] ∧ AsL s3 (rowsD (rowsTo one strip before a)) ∧ st = s, ⟨_, _, _, _, _, _, rfl, .inr ⟨p0, rfl⟩, rfl⟩, ?_, ?_⟩)
  · omega
  · rw [nsD_len]; omega
  · rintro a d ρ s hd ⟨s3, s4, s5, s6, s7, s8, rfl, hs3, rfl⟩
    obtain ⟨ha, rfl⟩ := ints_get hd
    rw [nsD_len] at ha
    have ha4 : a < one.length := by omega
    rw [Int.zero_add]
    refine dgn 4 scLetters.nd <| db_frz 3 hs3 rfl ?_
    refine db_cons (dset 5 scLetters.nd <| de_lst <| da_nil ⟨_, .nil, by simp, fun p5 => ?_⟩)
    refine db_cons (ds_for hp rfl <| di_list <| dv 3 <| .inl ⟨_, rfl, fun j ρ s => ∃ s5 s6 s7 s8, ρ = [.dat (.tuple (nsD one)), .dat (nD strip), .dat (befD before), .dat (.list (rowsD (rowsTo one strip before a))), .dat (.int (a : Int)), s5, s6, s7, s8] ∧ AsL s5 (rowsD (((rowsTo one strip before a).take j).flatMap (extR one strip before a))) ∧ st = s, ⟨_, _, _, _, rfl, .inr ⟨p5, rfl⟩, rfl⟩, ?_, ?_⟩)
    · rintro j d ρ s hd2 ⟨s5, s6, s7, s8, rfl, hs5, rfl⟩
      obtain ⟨r, hr1, rfl⟩ := rowsD_get hd2
      refine dgn 6 scLetters.nd <| db_frz 5 hs5 rfl ?_
      have cap := rows_cap one before h9 (a := a + 1) (by omega)
      have stp := take_succ_flat (extR one strip before a) hr1
      have le1 := take_flat_le (rowsTo one strip before a) (extR one strip before a) (j + 1)
      have hsm : (∀ x ∈ one, x ≤ 1000000) ∧ r.sum ≤ 1000000 := ⟨hsmall, sum_small one before h9 a r (List.mem_of_getElem? hr1)⟩
      have hrl := row_at one strip before a r (List.mem_of_getElem? hr1)
      have rest : ∀ (D : Dn c.m) (st : c.m.St), (∀ p, D.nx [.dat (.tuple (nsD one)), .dat (nD strip), .dat (befD before), .dat (.list (rowsD (rowsTo one strip before a))), .dat (.int (a : Int)), .own p (rowsD (((rowsTo one strip before a).take (j + 1)).flatMap (extR one strip before a))), .dat (.tuple (nsD r)), .dat (.int (roomI one strip before a r)), .any] st) → DB (cxOf (L2.CX P w) P w K mg base ["one", "strip", "before", "found", "at", "late", "row", "room", "many"] "_law_letters" (defScope sLetters) f cdv A outer s1 H E) c
          (match (defBody sLetters).getD 1 (.Pass ⟨0, 0, 0, 0⟩) with | .For _ _ b _ _ => (match b.getD 1 (.Pass ⟨0, 0, 0, 0⟩) with | .For _ _ b2 _ _ => b2.drop 2 | _ => []) | _ => []) [.dat (.tuple (nsD one)), .dat (nD strip), .dat (befD before), .dat (.list (rowsD (rowsTo one strip before a))), .dat (.int (a : Int)), .dat (.list (rowsD (((rowsTo one strip before a).take j).flatMap (extR one strip before a)))), .dat (.tuple (nsD r)), .dat (.int (roomI one strip before a r)), s8] st D := fun D st hD => by
        have hrm := room_le one strip before a r
        have hlow : -100 ≤ roomI one strip before a r + 1 ∨ roomI one strip before a r + 1 < -100 := by omega
        have hbig : -(2 ^ 62) ≤ roomI one strip before a r + 1 := room_low one strip before a r hsm
        refine db_one (dset 5 scLetters.nd <| de_bin op_catD <| dv 5 <| dlc 8 scLetters.nd <| di_range1 m2 <| de_bin op_add <| dv 7 <| de_int <| dop_I0 rfl ⟨roomI one strip before a r + 1, rfl, hbig, by omega, fun t acc s => acc = rowsD ((List.range t).map fun m => r ++ [m]) ∧ st = s, ⟨rfl, rfl⟩, ?_, ?_⟩)
        · rintro t d acc s hd3 ⟨rfl, rfl⟩
          obtain ⟨ht, rfl⟩ := ints_get hd3
          refine ⟨by rw [rowsD_len, List.length_map, List.length_range]; omega, fun _ s0 H0 C cl fp => ?_, fun z => nomatch z⟩
          refine de_bin op_catA <| dv 6 <| de_tup <| da_cons <| dv 8 <| da_nil ⟨_, .dat .nil, by simp, dop_catA (ds := nsD r) (es := [.int (0 + (t : Int))]) (by rw [nsD_len]; simp; omega) ⟨_, .dat .nil, rfl, ?_, rfl⟩⟩
          rw [List.range_succ, List.map_append, rowsD_app, Int.zero_add]
          congr 1
          show [PyData.tuple (nsD r ++ [PyData.int (t : Int)])] = [PyData.tuple (nsD (r ++ [t]))]
          unfold nsD
          rw [List.map_append]
          rfl
        · rintro acc s ⟨rfl, rfl⟩ p
          rw [ints_len]
          have e1 : rowsD ((List.range (roomI one strip before a r + 1).toNat).map fun m => r ++ [m]) = rowsD (extR one strip before a r) := rfl
          rw [e1]
          refine dop_catD (ds := rowsD (((rowsTo one strip before a).take j).flatMap (extR one strip before a))) (es := rowsD (extR one strip before a r)) (.dat _) (.own p _) ?_ fun p2 => ?_
          · rw [rowsD_len, rowsD_len, ← List.length_append, ← stp]
            exact Nat.le_trans le1 (Nat.le_trans (show _ ≤ 10000 from cap) (by decide))
          · rw [← rowsD_app, ← stp]
            exact hD p2
      have at1 : ∀ x, x < one.length → L2.atI (nsD one) ((x : Nat) : Int) = some (nD (one.getD x 0)) := fun x hx => atI_nat (nsD_at (by rw [List.getD_eq_getElem?_getD, List.getElem?_eq_getElem hx]; rfl))
      obtain ⟨base0, hb0⟩ : ∃ b : Int, b = if a = 0 then (strip : Int) - (r.sum : Nat) else min ((strip : Int) - (r.sum : Nat)) ((one.getD (a - 1) 0 : Nat) - (one.getD a 0 : Nat)) := ⟨_, rfl⟩
      refine db_cons (dset 7 scLetters.nd <| de_imp (k' := fun s' ρ' st' => s' = .dat (.int base0) ∧ ρ' = [.dat (.tuple (nsD one)), .dat (nD strip), .dat (befD before), .dat (.list (rowsD (rowsTo one strip before a))), .dat (.int (a : Int)), .dat (.list (rowsD (((rowsTo one strip before a).take j).flatMap (extR one strip before a)))), .dat (.tuple (nsD r)), s7, s8] ∧ st = st') ?_ ?_)
      · refine de_if <| dt_cmp op_eq (nomark _) <| dv 4 <| de_int <| dop_eq (x := .int _) (y := .int _) rfl rfl rfl ⟨_, rfl, ⟨fun e => ?_, fun e => ?_⟩⟩
        · have e1 : a = 0 := by have := V.int.inj (of_decide_eq_true e); omega
          rw [if_pos e1] at hb0
          exact de_bin op_sub <| dv 1 <| de_callB (call_sumT rfl) (by rfl) m3 boot_sum <| da_cons <| dv 6 <| da_nil <| dcall_sumN <| dop_I0 rfl ⟨by rw [hb0], rfl, rfl⟩
        · have e1 : ¬ a = 0 := fun z => of_decide_eq_false e (by rw [z]; rfl)
          rw [if_neg e1] at hb0
          refine de_callB (call_min2 rfl) (by rfl) m4 boot_min <| da_cons <| de_bin op_sub <| dv 1 <| de_callB (call_sumT rfl) (by rfl) m3 boot_sum <| da_cons <| dv 6 <| da_nil <| dcall_sumN <| dop_I0 rfl <| da_cons <| de_bin op_sub <| de_ix ix_tup <| dv 0 <| de_bin op_sub <| dv 4 <| de_int <| dop_I0 rfl <| dop_ixT (ds := nsD one) (d := nD (one.getD (a - 1) 0)) ?_ <| de_ix ix_tup <| dv 0 <| dv 4 <| dop_ixT (ds := nsD one) (d := nD (one.getD a 0)) (at1 a ha4) <| dop_I0 rfl <| da_nil <| dcall_min2 ⟨by rw [hb0], rfl, rfl⟩
          rw [show (a : Int) - 1 = ((a - 1 : Nat) : Int) by omega]
          exact at1 (a - 1) (by omega)
      rintro _ _ _ ⟨rfl, rfl, rfl⟩
      cases before with
      | none =>
        refine db_cons (ds_if <| dt_cmp op_notN (nomark _) <| dv 2 <| de_non <| dop_notN ⟨_, rfl, ⟨fun e => ?_, fun e => db_nil ?_⟩⟩)
        · cases e
        · have e1 : base0 = roomI one strip none a r := hb0
          rw [e1]
          exact rest _ _ fun p => ⟨_, _, _, _, rfl, .inr ⟨p, rfl⟩, rfl⟩
      | some b =>
        have hb : DL.cutD (nsD b) none (some (a : Int)) = nsD (b.take a) := cutN b a
        refine db_cons (ds_if <| dt_cmp op_notN (nomark _) <| dv 2 <| de_non <| dop_notN ⟨_, rfl, ⟨fun e => ?_, fun e => ?_⟩⟩)
        · refine db_one (dset 7 scLetters.nd <| de_callB (call_min2 rfl) (by rfl) m4 boot_min <| da_cons <| dv 7 <| da_cons <| de_bin op_sub <| de_callB (call_sumT rfl) (by rfl) m3 boot_sum <| da_cons <| de_slT <| dv 2 ⟨_, rfl, dp_none <| dp_some <| dv 4 ⟨_, rfl, ?_⟩⟩)
          rw [hb]
          refine da_nil <| dcall_sumN <| de_callB (call_sumT rfl) (by rfl) m3 boot_sum <| da_cons <| dv 6 <| da_nil <| dcall_sumN <| dop_I0 rfl <| da_nil <| dcall_min2 ?_
          have e1 : min base0 ((((b.take a).sum : Nat) : Int) - ((r.sum : Nat) : Int)) = roomI one strip (some b) a r := by rw [hb0]; rfl
          rw [e1]
          exact rest _ _ fun p => ⟨_, _, _, _, rfl, .inr ⟨p, rfl⟩, rfl⟩
        · cases e
    · rintro ρ s ⟨s5, s6, s7, s8, rfl, hs5, rfl⟩
      rw [rowsD_len, List.take_length] at hs5
      refine db_frz 5 hs5 rfl ?_
      exact db_one (dset 3 scLetters.nd <| dv 5 ⟨_, _, _, _, _, _, rfl, .inl rfl, rfl⟩)
  · rintro ρ s ⟨s3, s4, s5, s6, s7, s8, rfl, hs3, rfl⟩
    rw [ints_len, nsD_len, show ((one.length : Int)).toNat = one.length by omega] at hs3
    refine db_frz 3 hs3 rfl ?_
    have cap := rows_cap one before h9 (a := one.length) h4
    refine db_one (ds_ret <| dlc 6 scLetters.nd <| di_list <| dv 3 <| .inl ⟨_, rfl, fun j acc s => acc = rowsD (((rowsTo one strip before one.length).take j).filter fun r => decide (r.sum = strip)) ∧ st = s, ⟨rfl, rfl⟩, ?_, ?_⟩)
    · rintro j d acc s hd ⟨rfl, rfl⟩
      obtain ⟨r, hr1, rfl⟩ := rowsD_get hd
      refine ⟨?_, fun s0 H0 C cl fp => dt_cmp op_eq (nomark _) <| de_callB (call_sumT rfl) (by rfl) m3 boot_sum <| da_cons <| dv 6 <| da_nil <| dcall_sumN <| dv 1 <| dop_eq (x := .int _) (y := .int _) rfl rfl rfl ⟨_, rfl, fun e => ?_, fun e => ?_⟩⟩
      · rw [rowsD_len]
        refine Nat.lt_of_le_of_lt (List.length_filter_le _ _) ?_
        rw [List.length_take]
        omega
      · have e1 : r.sum = strip := by have := V.int.inj (of_decide_eq_true e); omega
        refine fun s0 H0 C cl fp => dv 6 ⟨_, .dat .nil, rfl, ?_, rfl⟩
        rw [List.take_add_one, hr1, List.filter_append, rowsD_app]
        simp [e1, rowsD]
      · have e1 : ¬ r.sum = strip := fun z => of_decide_eq_false e (by rw [z])
        refine ⟨rfl, ?_, rfl⟩
        rw [List.take_add_one, hr1, List.filter_append]
        simp [e1]
    · rintro acc s ⟨rfl, rfl⟩ p
      rw [rowsD_len, List.take_length]
      exact ⟨_, .lst p _, h⟩
end
end K33

namespace K33
open PySem PySem.Spec PyProof.Rows L2 DL LH
/-! ### what the rows of a letter are -/
theorem getD_app_l {l : List Nat} {t : Nat} (x : List Nat) (h : t < l.length) : (l ++ x).getD t 0 = l.getD t 0 := by
  rw [List.getD_eq_getElem?_getD, List.getD_eq_getElem?_getD, List.getElem?_append_left h]
theorem getD_app_e {l : List Nat} {m : Nat} : (l ++ [m]).getD l.length 0 = m := by
  rw [List.getD_eq_getElem?_getD, List.getElem?_concat_length]
  rfl
theorem row_room {one : List Nat} {strip : Nat} {before : Option (List Nat)} : ∀ {a : Nat} {r : List Nat}, r ∈ rowsTo one strip before a → ∀ t, t < a → ((r.getD t 0 : Nat) : Int) ≤ roomI one strip before t (r.take t)
  | 0, _, _, t, ht => by omega
  | a + 1, r, h, t, ht => by
    rw [rowsTo, List.mem_flatMap] at h
    obtain ⟨r', h1, h2⟩ := h
    have hl := row_at one strip before a r' h1
    unfold extR at h2
    obtain ⟨m, hm, rfl⟩ := List.mem_map.mp h2
    have h3 := List.mem_range.mp hm
    by_cases e : t = a
    · subst e
      rw [← hl, getD_app_e, List.take_left' rfl]
      rw [hl]
      omega
    · have ht2 : t < a := by omega
      rw [getD_app_l [m] (by omega), List.take_append_of_le_length (by omega)]
      exact row_room h1 t ht2
theorem room_row {one : List Nat} {strip : Nat} {before : Option (List Nat)} : ∀ {a : Nat} {r : List Nat}, r.length = a → (∀ t, t < a → ((r.getD t 0 : Nat) : Int) ≤ roomI one strip before t (r.take t)) → r ∈ rowsTo one strip before a
  | 0, r, hl, _ => by rw [List.eq_nil_of_length_eq_zero hl]; simp [rowsTo]
  | a + 1, r, hl, h => by
    have hne : r ≠ [] := fun z => by subst z; cases hl
    obtain ⟨r', m, rfl⟩ : ∃ r' m, r = r' ++ [m] := ⟨_, _, (List.dropLast_concat_getLast hne).symm⟩
    rw [List.length_append, List.length_singleton] at hl
    have hl' : r'.length = a := by omega
    rw [rowsTo, List.mem_flatMap]
    refine ⟨r', room_row hl' fun t ht => ?_, ?_⟩
    · have := h t (by omega)
      rw [getD_app_l [m] (by omega), List.take_append_of_le_length (by omega)] at this
      exact this
    · have := h a (by omega)
      rw [← hl', getD_app_e, List.take_left' rfl, hl'] at this
      unfold extR
      exact List.mem_map.mpr ⟨m, List.mem_range.mpr (by omega), rfl⟩
def Z (j : Nat) (r : List Nat) : Prop := ∀ t, t < j → r.getD t 0 = 0
theorem sum_take_Z {b : List Nat} {j : Nat} (h : Z j b) : ∀ t, t ≤ j → (b.take t).sum = 0
  | 0, _ => rfl
  | t + 1, ht => by
    have ih := sum_take_Z h t (by omega)
    have e := h t (by omega)
    rw [List.take_add_one, List.sum_append, ih]
    rw [List.getD_eq_getElem?_getD] at e
    cases hb : b[t]? with
    | none => simp
    | some x => rw [hb] at e; have e : x = 0 := e; simp [e]
theorem room_Z {one : List Nat} {strip : Nat} {b : List Nat} {j t : Nat} (h : Z j b) (ht : t ≤ j) (r : List Nat) : roomI one strip (some b) t r ≤ 0 := by
  have e := sum_take_Z h t ht
  unfold roomI
  dsimp only
  rw [e]
  split <;> omega
theorem row_Z {one : List Nat} {strip : Nat} {b : List Nat} {j a : Nat} {r : List Nat} (h : Z j b) (hr : r ∈ rowsTo one strip (some b) a) : Z (j + 1) r := fun t ht => by
  by_cases hta : t < a
  · have h1 := row_room hr t hta
    have h2 := room_Z (one := one) (strip := strip) h (show t ≤ j by omega) (r.take t)
    omega
  · have hl := row_at one strip _ a r hr
    rw [List.getD_eq_getElem?_getD, List.getElem?_eq_none (by omega)]
    rfl
/-- how many rows there are at most -/
theorem rows_len_Z {one : List Nat} {strip : Nat} {b : List Nat} {j : Nat} (h : Z j b) (h9 : strip ≤ 9) : ∀ a, (rowsTo one strip (some b) a).length ≤ 10 ^ (a - (j + 1))
  | 0 => by simp [rowsTo]
  | a + 1 => by
    have ih := rows_len_Z (one := one) h h9 a
    rw [rowsTo]
    by_cases hj : a ≤ j
    · have h1 := flatMap_le (n := 1) (f := extR one strip (some b) a) (rowsTo one strip (some b) a) fun x _ => by
        unfold extR
        rw [List.length_map, List.length_range]
        have := room_Z (one := one) (strip := strip) h hj x
        omega
      rw [show a + 1 - (j + 1) = a - (j + 1) by omega]
      omega
    · have h1 := flatMap_le (n := 10) (f := extR one strip (some b) a) (rowsTo one strip (some b) a) fun x _ => Nat.le_trans (ext_len one strip (some b) a x) (by omega)
      rw [show a + 1 - (j + 1) = (a - (j + 1)) + 1 by omega, Nat.pow_succ]
      exact Nat.le_trans h1 (Nat.mul_le_mul_right _ ih)
theorem filter_ext_le (one : List Nat) (strip : Nat) (before : Option (List Nat)) (a : Nat) (r : List Nat) : ((extR one strip before a r).filter fun r => decide (r.sum = strip)).length ≤ 1 := by
  unfold extR
  have go : ∀ n : Nat, (((List.range n).map fun m => r ++ [m]).filter fun r => decide (r.sum = strip)).length ≤ 1 ∧ ((((List.range n).map fun m => r ++ [m]).filter fun r => decide (r.sum = strip)).length = 1 → r.sum + (n - 1) ≥ strip ∧ 0 < n) := by
    intro n
    induction n with
    | zero => simp
    | succ n ih =>
      rw [List.range_succ, List.map_append, List.filter_append, List.length_append]
      obtain ⟨i1, i2⟩ := ih
      have e : ([n].map fun m => r ++ [m]).filter (fun r => decide (r.sum = strip)) = if r.sum + n = strip then [r ++ [n]] else [] := by
        show (match decide ((r ++ [n]).sum = strip) with | true => [r ++ [n]] | false => []) = _
        have e2 : (r ++ [n]).sum = r.sum + n := by rw [List.sum_append]; simp
        rw [e2]
        by_cases hc : r.sum + n = strip
        · rw [if_pos hc, decide_eq_true hc]
        · rw [if_neg hc, decide_eq_false hc]
      rw [e]
      generalize hL : (((List.range n).map fun m => r ++ [m]).filter fun r => decide (r.sum = strip)).length = L at i1 i2 ⊢
      by_cases hc : r.sum + n = strip
      · rw [if_pos hc, List.length_singleton]
        have hne : L ≠ 1 := fun z => by
          obtain ⟨z1, z2⟩ := i2 z
          omega
        exact ⟨by omega, fun _ => ⟨by omega, by omega⟩⟩
      · rw [if_neg hc, List.length_nil]
        refine ⟨by omega, fun z => ?_⟩
        obtain ⟨z1, z2⟩ := i2 (by omega)
        exact ⟨by omega, by omega⟩
  exact (go _).1
theorem letters_le (one : List Nat) (strip : Nat) (before : Option (List Nat)) {n : Nat} (h : one.length = n + 1) : (letters one strip before).length ≤ (rowsTo one strip before n).length := by
  unfold letters
  rw [h, rowsTo, List.filter_flatMap]
  have := flatMap_le (n := 1) (f := fun x => (extR one strip before n x).filter fun r => decide (r.sum = strip)) (rowsTo one strip before n) fun x _ => filter_ext_le one strip before n x
  omega
theorem mem_letters {one : List Nat} {strip : Nat} {before : Option (List Nat)} {r : List Nat} : r ∈ letters one strip before ↔ r ∈ rowsTo one strip before one.length ∧ r.sum = strip := by
  unfold letters
  rw [List.mem_filter]
  exact and_congr Iff.rfl ⟨of_decide_eq_true, decide_eq_true⟩
def addL (a b : List Nat) : List Nat := List.zipWith (· + ·) a b
theorem addL_len {a b : List Nat} (h : a.length = b.length) : (addL a b).length = a.length := by unfold addL; rw [List.length_zipWith, h, Nat.min_self]
theorem addL_getD {a b : List Nat} (h : a.length = b.length) (t : Nat) : (addL a b).getD t 0 = a.getD t 0 + b.getD t 0 := by
  unfold addL
  rw [List.getD_eq_getElem?_getD, List.getD_eq_getElem?_getD, List.getD_eq_getElem?_getD, List.getElem?_zipWith]
  by_cases ht : t < a.length
  · rw [List.getElem?_eq_getElem ht, List.getElem?_eq_getElem (by omega)]
    rfl
  · rw [List.getElem?_eq_none (by omega), List.getElem?_eq_none (by omega)]
    rfl
/-- falling, place by place -/
def Down (l : List Nat) : Prop := ∀ t, t + 1 < l.length → l.getD (t + 1) 0 ≤ l.getD t 0
theorem down_pair {l : List Nat} : Down l ↔ l.Pairwise (fun a b => b ≤ a) := by
  constructor
  · intro h
    rw [List.pairwise_iff_getElem]
    intro i j hi hj hij
    have go : ∀ d, i + d < l.length → l.getD (i + d) 0 ≤ l.getD i 0 := by
      intro d
      induction d with
      | zero => intro _; exact Nat.le_refl _
      | succ d ih => intro hd; exact Nat.le_trans (h (i + d) hd) (ih (by omega))
    have := go (j - i) (by omega)
    rw [show i + (j - i) = j by omega, List.getD_eq_getElem?_getD, List.getD_eq_getElem?_getD, List.getElem?_eq_getElem hi, List.getElem?_eq_getElem hj] at this
    exact this
  · intro h t ht
    rw [List.pairwise_iff_getElem] at h
    have := h t (t + 1) (by omega) ht (by omega)
    rw [List.getD_eq_getElem?_getD, List.getD_eq_getElem?_getD, List.getElem?_eq_getElem (show t < l.length by omega), List.getElem?_eq_getElem ht]
    exact this
theorem down_le {l : List Nat} {B : Nat} (h : Down l) (h0 : l.getD 0 0 ≤ B) : ∀ x ∈ l, x ≤ B := fun x hx => by
  cases l with
  | nil => cases hx
  | cons y l =>
    have h0 : y ≤ B := h0
    rcases List.mem_cons.mp hx with rfl | hx
    · exact h0
    · exact Nat.le_trans ((List.pairwise_cons.mp (down_pair.mp h)).1 x hx) h0
/-- a letter put on a falling row keeps it falling -/
theorem down_add {sh r : List Nat} {strip : Nat} {before : Option (List Nat)} (hd : Down sh) (hr : r ∈ letters sh strip before) : (addL sh r).length = sh.length ∧ Down (addL sh r) ∧ (addL sh r).getD 0 0 ≤ sh.getD 0 0 + strip ∧ (before ≠ none → (addL sh r).getD 0 0 = sh.getD 0 0) := by
  obtain ⟨h1, h2⟩ := mem_letters.mp hr
  have hl := row_at sh strip before _ r h1
  have hlen := addL_len hl.symm
  refine ⟨hlen, fun t ht => ?_, ?_, fun hb => ?_⟩
  · rw [hlen] at ht
    rw [addL_getD hl.symm, addL_getD hl.symm]
    have h3 := row_room h1 (t + 1) ht
    have h4 := hd t ht
    have h5 : roomI sh strip before (t + 1) (r.take (t + 1)) ≤ ((sh.getD t 0 : Nat) : Int) - (sh.getD (t + 1) 0 : Nat) := by
      unfold roomI
      cases before with
      | none => dsimp only; rw [if_neg (by omega)]; simp only [Nat.add_sub_cancel]; omega
      | some b => dsimp only; rw [if_neg (by omega)]; simp only [Nat.add_sub_cancel]; omega
    omega
  · rw [addL_getD hl.symm]
    by_cases h0 : 0 < sh.length
    · have h3 := row_room h1 0 h0
      have h4 := room_le sh strip before 0 (r.take 0)
      rw [List.take_zero] at h3 h4
      have e0 : ([] : List Nat).sum = 0 := rfl
      rw [e0] at h4
      omega
    · rw [List.getD_eq_getElem?_getD (l := r), List.getElem?_eq_none (by omega)]
      simp
  · rw [addL_getD hl.symm]
    cases before with
    | none => exact absurd rfl hb
    | some b =>
      have : r.getD 0 0 = 0 := row_Z (j := 0) (fun t ht => by omega) h1 0 (by omega)
      omega
end K33

namespace K33
open PySem PySem.Spec PyProof.Rows L2 DL LH
abbrev Lot := List Nat × List (List Nat)
def putOn (strip : Nat) (L : Lot) : List Lot := (letters L.1 strip L.2.getLast?).map fun r => (addL L.1 r, L.2 ++ [r])
def lotsN (one other : List Nat) : Nat → List Lot
  | 0 => [(one, [])]
  | i + 1 => (lotsN one other i).flatMap (putOn (other.getD i 0))
structure LotOk (one other : List Nat) (i : Nat) (L : Lot) : Prop where
  len : L.1.length = one.length
  down : Down L.1
  head : L.1.getD 0 0 ≤ one.getD 0 0 + (if i = 0 then 0 else other.getD 0 0)
  rows : L.2.length = i
  last : ∀ b, L.2.getLast? = some b → Z (i - 1) b
theorem lot_next {one other : List Nat} {i : Nat} {L : Lot} {r : List Nat} (h : LotOk one other i L) (hr : r ∈ letters L.1 (other.getD i 0) L.2.getLast?) : LotOk one other (i + 1) (addL L.1 r, L.2 ++ [r]) := by
  obtain ⟨d1, d2, d3, d4⟩ := down_add h.down hr
  have hh := h.head
  refine ⟨by rw [d1, h.len], d2, ?_, by rw [List.length_append, h.rows]; rfl, fun b hb => ?_⟩
  · rw [if_neg (by omega)]
    show (addL L.1 r).getD 0 0 ≤ _
    by_cases hi : i = 0
    · subst hi
      rw [if_pos rfl] at hh
      omega
    · rw [if_neg hi] at hh
      have : L.2.getLast? ≠ none := fun z => by
        have := List.getLast?_eq_none_iff.mp z
        have hr := h.rows
        rw [this] at hr
        exact hi hr.symm
      rw [d4 this]
      exact hh
  · rw [List.getLast?_concat] at hb
    cases hb
    show Z (i + 1 - 1) r
    cases hl : L.2.getLast? with
    | none =>
      have := List.getLast?_eq_none_iff.mp hl
      have hr2 := h.rows
      rw [this] at hr2
      have : i = 0 := hr2.symm
      subst this
      exact fun t ht => by omega
    | some b =>
      rw [hl] at hr
      have hz := row_Z (h.last b hl) (mem_letters.mp hr).1
      have hi : 0 < i := by
        have hr2 := h.rows
        cases hL : L.2 with
        | nil => rw [hL] at hl; cases hl
        | cons x l => rw [hL] at hr2; rw [List.length_cons] at hr2; omega
      rw [show i - 1 + 1 = i by omega] at hz
      exact hz
theorem lots_ok {one other : List Nat} (h : Down one) : ∀ i, ∀ L ∈ lotsN one other i, LotOk one other i L
  | 0, L, hL => by
    rw [lotsN, List.mem_singleton] at hL
    subst hL
    exact ⟨rfl, h, by simp, rfl, fun b hb => by cases hb⟩
  | i + 1, L, hL => by
    rw [lotsN, List.mem_flatMap] at hL
    obtain ⟨L', h1, h2⟩ := hL
    unfold putOn at h2
    obtain ⟨r, hr, rfl⟩ := List.mem_map.mp h2
    exact lot_next (lots_ok h i L' h1) hr
def cap (n : Nat) : Nat → Nat
  | 0 => 1
  | i + 1 => cap n i * 10 ^ (n - 1 - i)
theorem cap_le : ∀ n ∈ [1, 2, 3, 4], ∀ i ∈ [0, 1, 2, 3, 4], cap n i ≤ 1000000 := by decide +kernel
theorem put_le {one other : List Nat} {i : Nat} {L : Lot} (h : LotOk one other i L) (h1 : 1 ≤ one.length) (h9 : ∀ x ∈ other, x ≤ 9) : (putOn (other.getD i 0) L).length ≤ 10 ^ (one.length - 1 - i) := by
  unfold putOn
  rw [List.length_map]
  have hs : other.getD i 0 ≤ 9 := by
    rw [List.getD_eq_getElem?_getD]
    cases e : other[i]? with
    | none => simp
    | some x => exact h9 x (List.mem_of_getElem? e)
  have hn : L.1.length = (one.length - 1) + 1 := by rw [h.len]; omega
  refine Nat.le_trans (letters_le _ _ _ hn) ?_
  cases hl : L.2.getLast? with
  | none =>
    have := List.getLast?_eq_none_iff.mp hl
    have hr2 := h.rows
    rw [this] at hr2
    have : i = 0 := hr2.symm
    subst this
    exact Nat.le_trans (rows_len _ _ _ _) (Nat.pow_le_pow_left (by omega) _)
  | some b =>
    have hi : 0 < i := by
      have hr2 := h.rows
      cases hL : L.2 with
      | nil => rw [hL] at hl; cases hl
      | cons x l => rw [hL] at hr2; rw [List.length_cons] at hr2; omega
    refine Nat.le_trans (rows_len_Z (h.last b hl) hs _) ?_
    rw [show one.length - 1 - (i - 1 + 1) = one.length - 1 - i by omega]
    exact Nat.le_refl _
theorem lots_len {one other : List Nat} (h : Down one) (h1 : 1 ≤ one.length) (h9 : ∀ x ∈ other, x ≤ 9) : ∀ i, (lotsN one other i).length ≤ cap one.length i
  | 0 => Nat.le_refl _
  | i + 1 => by
    have ih := lots_len h h1 h9 i
    have := flatMap_le (n := 10 ^ (one.length - 1 - i)) (f := putOn (other.getD i 0)) (lotsN one other i) fun L hL => put_le (lots_ok h i L hL) h1 h9
    rw [lotsN, cap]
    exact Nat.le_trans this (Nat.mul_le_mul_right _ ih)
theorem sum_take_succ (l : List Nat) (t : Nat) : (l.take (t + 1)).sum = (l.take t).sum + l.getD t 0 := by
  rw [List.take_add_one, List.sum_append, List.getD_eq_getElem?_getD]
  cases l[t]? <;> simp
theorem unit_take {l : List Nat} {i x : Nat} (h : ∀ t, l.getD t 0 = if t = i then x else 0) : ∀ t, (l.take t).sum = if i < t then x else 0
  | 0 => by simp
  | t + 1 => by
    rw [sum_take_succ, unit_take h t, h t]
    by_cases h1 : t = i
    · subst h1; simp
    · by_cases h2 : i < t
      · rw [if_pos h2, if_neg h1, if_pos (by omega)]; omega
      · rw [if_neg h2, if_neg h1, if_neg (by omega)]
/-- each letter in its own row: there is always a filling -/
theorem lots_ne {one other : List Nat} (hl : other.length = one.length) (hd : Down one) (ho : Down other) : ∀ i, i ≤ one.length → ∃ L ∈ lotsN one other i, L.1.length = one.length ∧ (∀ t, L.1.getD t 0 = one.getD t 0 + (if t < i then other.getD t 0 else 0)) ∧ (i = 0 → L.2.getLast? = none) ∧ ∀ j, i = j + 1 → ∃ b, L.2.getLast? = some b ∧ ∀ t, b.getD t 0 = if t = j then other.getD j 0 else 0
  | 0, _ => ⟨(one, []), by simp [lotsN], rfl, fun t => by simp, fun _ => rfl, fun j z => by omega⟩
  | i + 1, hi => by
    obtain ⟨L, h1, h2, h3, h4, h5⟩ := lots_ne hl hd ho i (by omega)
    obtain ⟨r, hr⟩ : ∃ r : List Nat, r = (List.range one.length).map fun t => if t = i then other.getD i 0 else 0 := ⟨_, rfl⟩
    have rl : r.length = one.length := by rw [hr, List.length_map, List.length_range]
    have rg : ∀ t, r.getD t 0 = if t = i then other.getD i 0 else 0 := fun t => by
      rw [hr, List.getD_eq_getElem?_getD, List.getElem?_map]
      by_cases ht : t < one.length
      · rw [List.getElem?_range ht]
        rfl
      · rw [List.getElem?_eq_none (by rw [List.length_range]; omega), if_neg (by omega)]
        rfl
    have rs := unit_take rg
    have hmem : r ∈ letters L.1 (other.getD i 0) L.2.getLast? := by
      refine mem_letters.mpr ⟨room_row (by rw [rl, h2]) fun t ht => ?_, ?_⟩
      · rw [h2] at ht
        have a1 : 0 < t → one.getD t 0 ≤ one.getD (t - 1) 0 := fun h0 => by
          have := hd (t - 1) (by omega)
          rwa [show t - 1 + 1 = t by omega] at this
        have a2 : 0 < t → other.getD t 0 ≤ other.getD (t - 1) 0 := fun h0 => by
          have := ho (t - 1) (by omega)
          rwa [show t - 1 + 1 = t by omega] at this
        rw [rg t]
        cases i with
        | zero =>
          rw [h4 rfl]
          unfold roomI
          dsimp only
          rw [rs t, h3, h3]
          by_cases t0 : t = 0
          · subst t0
            (repeat' split) <;> omega
          · have b1 := a1 (by omega)
            (repeat' split) <;> omega
        | succ j =>
          obtain ⟨b, e1, e2⟩ := h5 j rfl
          have bs := unit_take e2
          have a3 : other.getD (j + 1) 0 ≤ other.getD j 0 := ho j (by omega)
          have a4 : j < t → other.getD (t - 1) 0 ≤ other.getD j 0 := fun h => by
            have go : ∀ d, j + d < one.length → other.getD (j + d) 0 ≤ other.getD j 0 := fun d => by
              induction d with
              | zero => intro _; exact Nat.le_refl _
              | succ d ihd => intro h; exact Nat.le_trans (ho (j + d) (by omega)) (ihd (by omega))
            have := go (t - 1 - j) (by omega)
            rwa [show j + (t - 1 - j) = t - 1 by omega] at this
          rw [e1]
          unfold roomI
          dsimp only
          rw [rs t, bs t, h3, h3]
          by_cases t0 : t = 0
          · subst t0
            (repeat' split) <;> omega
          · have b1 := a1 (by omega)
            have b2 := a2 (by omega)
            by_cases c : t = j + 1
            · subst c
              simp only [Nat.add_sub_cancel] at b1 b2 a4 ⊢
              (repeat' split) <;> omega
            · (repeat' split) <;> omega
      · have := rs one.length
        rw [if_pos (by omega), List.take_of_length_le (by omega)] at this
        exact this
    refine ⟨(addL L.1 r, L.2 ++ [r]), ?_, ?_, fun t => ?_, fun z => by omega, fun j hj => ⟨r, List.getLast?_concat, fun t => ?_⟩⟩
    · rw [lotsN, List.mem_flatMap]
      exact ⟨L, h1, List.mem_map.mpr ⟨r, hmem, rfl⟩⟩
    · show (addL L.1 r).length = _
      rw [addL_len (by rw [rl, h2]), h2]
    · show (addL L.1 r).getD t 0 = _
      rw [addL_getD (by rw [rl, h2]), h3, rg]
      by_cases c1 : t < i
      · rw [if_pos c1, if_neg (by omega), if_pos (by omega)]
        omega
      · by_cases c2 : t = i
        · subst c2
          rw [if_neg c1, if_pos rfl, if_pos (by omega)]
          omega
        · rw [if_neg c1, if_neg c2, if_neg (by omega)]
    · have : j = i := by omega
      subst this
      exact rg t
end K33

namespace K33
open PySem PySem.Spec PyProof.Rows L2 DL LH
abbrev sAll : Stmt := topS 37
abbrev sWhole : Stmt := topS 38
theorem scAll : FnScope ["one", "other", "lots", "letter", "strip", "late", "shape", "rows", "some", "low", "many", "row"] ["one", "other"] (defScope sAll) := ⟨rfl, rfl, rfl, by decide +kernel, rfl, by decide +kernel, by decide +kernel⟩
theorem scWhole : FnScope ["draw", "one", "other", "shape", "rows", "strip", "some", "low", "many", "row"] ["draw", "one", "other"] (defScope sWhole) := ⟨rfl, rfl, rfl, by decide +kernel, rfl, by decide +kernel, by decide +kernel⟩
def lotD (L : Lot) : PyData := .tuple [.tuple (nsD L.1), .tuple (rowsD L.2)]
def lotsD (l : List Lot) : List PyData := l.map lotD
theorem lotsD_len (l : List Lot) : (lotsD l).length = l.length := List.length_map _
theorem lotsD_app (l l' : List Lot) : lotsD (l ++ l') = lotsD l ++ lotsD l' := List.map_append
theorem lotsD_get {l : List Lot} {i : Nat} {d : PyData} (h : (lotsD l)[i]? = some d) : ∃ L, l[i]? = some L ∧ d = lotD L := by
  unfold lotsD at h
  rw [List.getElem?_map] at h
  cases e : l[i]? with
  | none => rw [e] at h; cases h
  | some r => rw [e] at h; cases h; exact ⟨r, rfl, rfl⟩
theorem ok_rowsT (l : List (List Nat)) : okD (.tuple (rowsD l)) := by
  have h1 : ∀ x ∈ rowsD l, okD x ∧ x.depth ≤ 1 := fun x hx => by
    obtain ⟨r, _, rfl⟩ := List.mem_map.mp hx
    refine ⟨ok_nsD r, ?_⟩
    rw [PyData.depth]
    have : PyData.depthAll (nsD r) ≤ 0 := depthAll_le.mpr fun y hy => by
      obtain ⟨n, _, rfl⟩ := List.mem_map.mp hy
      exact Nat.le_refl _
    omega
  refine ⟨by rw [PyData.canLay0]; exact canAll_iff.mpr fun x hx => (h1 x hx).1.1, ?_⟩
  rw [PyData.depth]
  have : PyData.depthAll (rowsD l) ≤ 1 := depthAll_le.mpr fun x hx => (h1 x hx).2
  omega
theorem last_rows {l : List (List Nat)} {b : List Nat} (h : l.getLast? = some b) : L2.atI (rowsD l) (-1) = some (.tuple (nsD b)) := by
  have hne : l ≠ [] := fun z => by subst z; cases h
  have e1 : rowsD l = rowsD l.dropLast ++ [.tuple (nsD b)] := by
    have := List.dropLast_concat_getLast hne
    rw [List.getLast?_eq_getLast hne] at h
    rw [Option.some.inj h] at this
    conv => lhs; rw [← this]
    rw [rowsD_app]
    rfl
  rw [e1]
  exact atI_last _ _
theorem shp_down {B n : Nat} {l : List Nat} (h : Shp B n l) : Down l := down_pair.mpr h.2.1
section
variable {P : Program} {w : World} {K : PySem.W.Frag} {mg : Str → Option Value} {base : Heap}
/-- rows[-1] if rows != () else None -/
theorem de_lastRow {X : Cx} {c : Cz} {ρ : DL.Env} {st : c.m.St} {k : DL.Slot → DL.Env → c.m.St → Prop} {i : Nat} {x : Str} {p1 p2 p3 p4 p5 p6 p7 p8 p9 : Pos} {j1 j2 kk : Nat} {rows : List (List Nat)} (hu : X.A.units + 64 < cLine) (hρ : ρ[i]? = some (.dat (.tuple (rowsD rows)))) (h : k (.dat (befD rows.getLast?)) ρ st)
    (hN : X.N[i]? = some x := by rfl) (hv : Vis X.env.scope x := by first | exact Or.inl rfl | exact Or.inr (Or.inl rfl) | exact Or.inr (Or.inr rfl)) (hd : (x == ("__debug__" : Str)) = false := by decide) (hcd : (x == ("__classdict__" : Str)) = false := by decide) :
    DE X c (.IfExp (.Compare (.Name x p1) [.NotEq] [.Tuple [] kk p2] p3) (.Subscript (.Name x p4) (.UnaryOp .USub (.Constant (.int 1) j1 p5) p6) p7) (.Constant .none j2 p8) p9) ρ st k := by
  refine de_if <| dt_cmp (op_neD hu) (nomark _) <| dv i (hρ := hρ) (hN := hN) (hv := hv) (hd := hd) (hcd := hcd) (s' := .dat (.tuple (rowsD rows))) ?_
  refine de_tup <| da_nil ⟨_, .nil, by simp, dop_neD (.dat _) (.dat _) (shaped_ok (ok_rowsT _)) (by decide) ⟨_, rfl, ⟨fun e => ?_, fun e => de_non ?_⟩⟩⟩
  · cases hg : rows.getLast? with
    | none =>
      have : rows = [] := List.getLast?_eq_none_iff.mp hg
      subst this
      cases e
    | some b =>
      rw [hg] at h
      exact de_ix ix_tup <| dv i (hρ := hρ) (hN := hN) (hv := hv) (hd := hd) (hcd := hcd) (s' := .dat (.tuple (rowsD rows))) <| de_neg <| de_int ⟨_, rfl, dop_ixT (ds := rowsD rows) (d := .tuple (nsD b)) (last_rows hg) h⟩
  · have : rows = [] := by
      cases rows with
      | nil => rfl
      | cons x l => cases e
    subst this
    exact h
/-- [low + many for low, many in zip(shape, row)] -/
theorem add_take {a b : List Nat} {i x y : Nat} (h1 : a[i]? = some x) (h2 : b[i]? = some y) : (addL a b).take (i + 1) = (addL a b).take i ++ [x + y] := by
  rw [List.take_add_one]
  congr 1
  unfold addL
  rw [List.getElem?_zipWith, h1, h2]
  rfl
def fAll : Pd := fun m ss st k xk => ∃ (n : Nat) (one other : List Nat), ss = [.dat (.tuple (nsD one)), .dat (.tuple (nsD other))] ∧ 1 ≤ n ∧ n ≤ 4 ∧ Shp 9 n one ∧ Shp 9 n other ∧ k (.dat (.list (lotsD (lotsN one other n)))) st
theorem ok_all (D : Df K mg "_law_all_fillings" sAll ["one", "other"]) (C1 : Cal P w K mg base "_law_letters" sLetters ["one", "strip", "before"] 1 fLetters) (m1 : mg "tuple" = none) (m2 : mg "enumerate" = none) (m3 : mg "zip" = none) : Cal P w K mg base "_law_all_fillings" sAll ["one", "other"] 2 fAll := by
  refine cal_of D scAll (by rintro _ _ _ _ _ ⟨_, _, _, rfl, _⟩; rfl) fun f cdv A outer s1 H E c hr tk hp ss st k h => ?_
  obtain ⟨n, one, other, rfl, h1, h4, ho, ht, h⟩ := h
  have hdo := shp_down ho
  have capI : ∀ i, i ≤ n → (lotsN one other i).length ≤ 1000000 := fun i hi => by
    refine Nat.le_trans (lots_len hdo (by rw [ho.1]; exact h1) ht.2.2 i) ?_
    rw [ho.1]
    exact cap_le n (by simp; omega) i (by simp; omega)
  refine db_cons (dset 2 scAll.nd <| de_lst <| da_cons <| de_tup <| da_cons <| de_callTy call_tuple_of (by rfl) m1 boot_tuple <| da_cons <| dv 0 <| da_nil <| dcall_tuple (.dat _) (.tup _) <| da_cons <| de_tup <| da_nil ⟨_, .nil, by simp, da_nil ⟨_, .dat (.dat .nil), by simp, da_nil ⟨_, .dat .nil, by simp, fun p0 => ?_⟩⟩⟩)
  refine db_cons (ds_for hp rfl <| di_enumT m2 <| dv 1 ⟨_, rfl, fun i ρ s => ∃ s2 s3 s4 s5 s6 s7 s8 s11, ρ = [.dat (.tuple (nsD one)), .dat (.tuple (nsD other)), s2, s3, s4, s5, s6, s7, s8, .any, .any, s11] ∧ AsL s2 (lotsD (lotsN one other i)) ∧ st = s, ⟨_, _, _, _, _, _, _, _, rfl, .inr ⟨p0, rfl⟩, rfl⟩, ?_, ?_⟩)
  · rintro i d ρ s hd ⟨s2, s3, s4, s5, s6, s7, s8, s11, rfl, hs2, rfl⟩
    obtain ⟨x, hx, rfl⟩ := enumD_get hd
    obtain ⟨strip, hst, rfl⟩ := nsD_get hx
    have hi := (List.getElem?_eq_some_iff.mp hst).1
    rw [ht.1] at hi
    have hs9 : strip ≤ 9 := ht.2.2 strip (List.mem_of_getElem? hst)
    have hgd : other.getD i 0 = strip := by rw [List.getD_eq_getElem?_getD, hst]; rfl
    have cap1 := capI (i + 1) (by omega)
    refine dg_tup rfl <| dgs_cons <| dgn 3 scAll.nd <| dgs_cons <| dgn 4 scAll.nd <| dgs_nil <| db_frz 2 hs2 rfl ?_
    refine db_cons (dset 5 scAll.nd <| de_lst <| da_nil ⟨_, .nil, by simp, fun p5 => ?_⟩)
    refine db_cons (ds_for hp rfl <| di_list <| dv 2 <| .inl ⟨_, rfl, fun j ρ s => ∃ s5 s6 s7 s8 s11, ρ = [.dat (.tuple (nsD one)), .dat (.tuple (nsD other)), .dat (.list (lotsD (lotsN one other i))), .dat (.int ((0 + i : Nat) : Int)), .dat (nD strip), s5, s6, s7, s8, .any, .any, s11] ∧ AsL s5 (lotsD (((lotsN one other i).take j).flatMap (putOn strip))) ∧ st = s, ⟨_, _, _, _, _, rfl, .inr ⟨p5, rfl⟩, rfl⟩, ?_, ?_⟩)
    · rintro j d ρ s hd2 ⟨s5, s6, s7, s8, s11, rfl, hs5, rfl⟩
      obtain ⟨L, hL, rfl⟩ := lotsD_get hd2
      obtain ⟨sh, rows⟩ := L
      have hok := lots_ok hdo i _ (List.mem_of_getElem? hL)
      have hlen : sh.length = n := by rw [← ho.1]; exact hok.len
      refine dg_tup rfl <| dgs_cons <| dgn 6 scAll.nd <| dgs_cons <| dgn 7 scAll.nd <| dgs_nil <| db_frz 5 hs5 rfl ?_
      have hsmall : ∀ x ∈ sh, x ≤ 1000000 := by
        refine down_le hok.down (Nat.le_trans hok.head ?_)
        have g : ∀ l : List Nat, (∀ x ∈ l, x ≤ 9) → l.getD 0 0 ≤ 9 := fun l hl => by
          cases l with
          | nil => simp
          | cons x l => exact hl x List.mem_cons_self
        have g1 := g one ho.2.2
        have g2 := g other ht.2.2
        split <;> omega
      have stp := take_succ_flat (putOn strip) hL
      have le1 := take_flat_le (lotsN one other i) (putOn strip) (j + 1)
      have le2 : ((lotsN one other i).flatMap (putOn strip)).length ≤ 1000000 := by
        have e : lotsN one other (i + 1) = (lotsN one other i).flatMap (putOn strip) := by rw [lotsN, hgd]
        rw [← e]
        exact cap1
      refine db_cons (dset 8 scAll.nd <| dc_call C1 hr tk <| da_cons <| dv 6 <| da_cons <| dv 4 <| da_cons <| de_lastRow (i := 7) hr.units rfl <| da_nil fun A => ⟨sh, strip, rows.getLast?, rfl, by omega, hs9, hsmall, ?_⟩)
      have hput : putOn strip (sh, rows) = (letters sh strip rows.getLast?).map fun r => (addL sh r, rows ++ [r]) := rfl
      have lput : (letters sh strip rows.getLast?).length ≤ 1000000 := by
        have e1 := congrArg List.length hput
        rw [List.length_map] at e1
        have e2 := congrArg List.length stp
        rw [List.length_append] at e2
        omega
      have hrows : rows.length = i := hok.rows
      refine db_one (dset 5 scAll.nd <| de_bin op_catD <| dv 5 <| dlc 11 scAll.nd <| di_list <| dv 8 <| .inl ⟨_, rfl, fun t acc s => acc = lotsD (((letters sh strip rows.getLast?).take t).map fun r => (addL sh r, rows ++ [r])) ∧ st = s, ⟨rfl, rfl⟩, ?_, ?_⟩)
      · rintro t d acc s hd3 ⟨rfl, rfl⟩
        obtain ⟨r, hr, rfl⟩ := rowsD_get hd3
        have hrl : r.length = sh.length := row_at sh strip _ _ r (mem_letters.mp (List.mem_of_getElem? hr)).1
        have hti := (List.getElem?_eq_some_iff.mp hr).1
        refine ⟨by rw [lotsD_len, List.length_map, List.length_take]; omega, fun _ s0 H0 C cl fp => ?_, fun z => nomatch z⟩
        refine de_tup <| da_cons <| de_callTy call_tuple_of (by rfl) m1 boot_tuple <| da_cons <| dlc2 9 10 scAll.nd <| di_zipT m3 <| dv 6 <| dv 11 ⟨_, _, rfl, rfl, fun q d hd4 => ?_, fun q acc2 s2 => acc2 = nsD ((addL sh r).take q) ∧ st = s2, ⟨rfl, rfl⟩, ?_, ?_⟩
        · obtain ⟨x, y, _, _, rfl⟩ := zipD_get hd4
          exact ⟨x, y, rfl⟩
        · rintro q d1 d2 acc2 s2 hd4 ⟨rfl, rfl⟩
          obtain ⟨x, y, hx, hy, e⟩ := zipD_get hd4
          cases e
          obtain ⟨a, ha, rfl⟩ := nsD_get hx
          obtain ⟨b, hb, rfl⟩ := nsD_get hy
          refine ⟨by rw [nsD_len, List.length_take, addL_len hrl.symm]; omega, fun _ s0 H0 C cl fp => ?_, fun z => nomatch z⟩
          refine de_bin op_add <| dv 9 <| dv 10 <| dop_I0 (i := (a : Int)) (j := (b : Int)) rfl ⟨_, .dat .nil, rfl, ?_, rfl⟩
          rw [add_take ha hb]
          unfold nsD
          rw [List.map_append]
          rfl
        · rintro acc2 s2 ⟨rfl, rfl⟩ p6
          have et : (addL sh r).take (sh, rows).1.length = addL sh r := List.take_of_length_le (by rw [addL_len hrl.symm]; exact Nat.le_refl _)
          rw [zipD_len, nsD_len, nsD_len, hrl, Nat.min_self, et]
          refine da_nil <| dcall_tuple (.own p6 _) (.lst _) <| da_cons <| de_bin op_catA <| dv 7 <| de_tup <| da_cons <| dv 11 <| da_nil ⟨_, .dat .nil, by simp, dop_catA (ds := rowsD rows) (es := [.tuple (nsD r)]) (by rw [rowsD_len, hrows]; simp; omega) <| da_nil ⟨_, .dat (.dat .nil), by simp, ?_⟩⟩
          refine ⟨_, .dat .nil, rfl, ?_, rfl⟩
          rw [List.take_add_one, hr, List.map_append, lotsD_app]
          congr 1
          show [PyData.tuple [.tuple (nsD (addL sh r)), .tuple (rowsD rows ++ [.tuple (nsD r)])]] = [PyData.tuple [.tuple (nsD (addL sh r)), .tuple (rowsD (rows ++ [r]))]]
          rw [rowsD_app]
          rfl
      · rintro acc s ⟨rfl, rfl⟩ p
        rw [rowsD_len, List.take_length]
        refine dop_catD (ds := lotsD (((lotsN one other i).take j).flatMap (putOn strip))) (es := lotsD (putOn strip (sh, rows))) (.dat _) (.own p _) ?_ fun p2 => ⟨_, _, _, _, _, rfl, .inr ⟨p2, ?_⟩, rfl⟩
        · rw [lotsD_len, lotsD_len, ← List.length_append, ← stp]
          omega
        · rw [stp, lotsD_app]
    · rintro ρ s ⟨s5, s6, s7, s8, s11, rfl, hs5, rfl⟩
      rw [lotsD_len, List.take_length] at hs5
      refine db_frz 5 hs5 rfl ?_
      refine db_one (dset 2 scAll.nd <| dv 5 ⟨_, _, _, _, _, _, _, _, rfl, .inl ?_, rfl⟩)
      rw [lotsN, hgd]
  · rintro ρ s ⟨s2, s3, s4, s5, s6, s7, s8, s11, rfl, hs2, rfl⟩
    rw [enumD_len, nsD_len, ht.1] at hs2
    exact db_frz 2 hs2 rfl <| db_one (ds_ret <| dv 2 ⟨_, .dat _, h⟩)
end
end K33

namespace K33
open PySem PySem.Spec PyProof.Rows L2 DL LH
theorem ok_rowsL (l : List (List Nat)) : SeqAt.shaped (.list (rowsD l)) = true := shaped_list fun x hx => by
  obtain ⟨r, _, rfl⟩ := List.mem_map.mp hx
  exact ok_nsD r
theorem head_le {B n : Nat} {l : List Nat} (h : Shp B n l) : l.getD 0 0 ≤ B := by
  cases l with
  | nil => simp
  | cons x l => exact h.2.2 x List.mem_cons_self
theorem lot_shp {one other : List Nat} {n i : Nat} {L : Lot} (ho : Shp 9 n one) (ht : Shp 9 n other) (h : LotOk one other i L) : Shp 18 n L.1 := by
  refine ⟨by rw [h.len, ho.1], down_pair.mp h.down, down_le h.down (Nat.le_trans h.head ?_)⟩
  have g1 := head_le ho
  have g2 := head_le ht
  split <;> omega
theorem add_shp {one other : List Nat} {n : Nat} (ho : Shp 9 n one) (ht : Shp 9 n other) : Shp 18 n (addL one other) := by
  have hl : one.length = other.length := by rw [ho.1, ht.1]
  have hd : Down (addL one other) := fun t ht' => by
    rw [addL_len hl] at ht'
    rw [addL_getD hl, addL_getD hl]
    have h1 := shp_down ho t ht'
    have h2 := shp_down ht t (by omega)
    omega
  refine ⟨by rw [addL_len hl, ho.1], down_pair.mp hd, down_le hd ?_⟩
  rw [addL_getD hl]
  have g1 := head_le ho
  have g2 := head_le ht
  omega
section
variable {P : Program} {w : World} {K : PySem.W.Frag} {mg : Str → Option Value} {base : Heap}
def fWhole : Pd := fun m ss st k xk => ∃ (dr la ca : Addr) (cs : List Int) (hd : HasDraw m dr la ca cs) (n : Nat) (one other : List Nat), ss = [.raw (.ref dr), .dat (.tuple (nsD one)), .dat (.tuple (nsD other))] ∧ 1 ≤ n ∧ n ≤ 4 ∧ Shp 9 n one ∧ Shp 9 n other ∧ ∀ l, Shp 18 n l → ∀ (d : PyData) (st' : m.St), k (.dat (.tuple [.tuple (nsD l), d])) st'
theorem ok_whole (D : Df K mg "_law_whole" sWhole ["draw", "one", "other"]) (C1 : Cal P w K mg base "_law_letters" sLetters ["one", "strip", "before"] 1 fLetters) (C2 : Cal P w K mg base "_law_pick" sPick ["draw", "some"] 3 fPick) (C3 : Cal P w K mg base "_law_slant" sSlant ["numbers"] 1 fSlant) (m1 : mg "tuple" = none) (m3 : mg "zip" = none) :
    Cal P w K mg base "_law_whole" sWhole ["draw", "one", "other"] 4 fWhole := by
  refine cal_of D scWhole (by rintro _ _ _ _ _ ⟨_, _, _, _, _, _, _, _, rfl, _⟩; rfl) fun f cdv A outer s1 H E c hr tk hp ss st k h => ?_
  obtain ⟨dr, la, ca, cs, hd, n, one, other, rfl, h1, h4, ho, ht, h⟩ := h
  have hdo := shp_down ho
  refine db_cons (dpar 3 4 scWhole.nd (by rfl) <| de_callTy call_tuple_of (by rfl) m1 boot_tuple <| da_cons <| dv 1 <| da_nil <| dcall_tuple (.dat _) (.tup _) <| de_tup <| da_nil ⟨_, .nil, by simp, ?_⟩)
  refine db_cons (ds_for hp rfl <| di_tup <| dv 2 ⟨_, rfl, fun i ρ s => ∃ sh rows s5 s6 s9, ρ = [.raw (.ref dr), .dat (.tuple (nsD one)), .dat (.tuple (nsD other)), .dat (.tuple (nsD sh)), .dat (.tuple (rowsD rows)), s5, s6, .any, .any, s9] ∧ LotOk one other i (sh, rows), ⟨one, [], _, _, _, rfl, ⟨rfl, hdo, by simp, rfl, fun b hb => by cases hb⟩⟩, ?_, ?_⟩)
  · rintro i d ρ s hd' ⟨sh, rows, s5, s6, s9, rfl, hok⟩
    obtain ⟨strip, hst, rfl⟩ := nsD_get hd'
    have hi := (List.getElem?_eq_some_iff.mp hst).1
    rw [ht.1] at hi
    have hs9 : strip ≤ 9 := ht.2.2 strip (List.mem_of_getElem? hst)
    have hgd : other.getD i 0 = strip := by rw [List.getD_eq_getElem?_getD, hst]; rfl
    have hshp := lot_shp ho ht hok
    have hlen : sh.length = n := hshp.1
    have hrows : rows.length = i := hok.rows
    refine dgn 5 scWhole.nd ?_
    refine db_cons (dset 6 scWhole.nd <| dc_call C1 (hr.mono (by decide)) tk <| da_cons <| dv 3 <| da_cons <| dv 5 <| da_cons <| de_lastRow (i := 4) hr.units rfl <| da_nil fun A => ⟨sh, strip, rows.getLast?, rfl, by omega, hs9, fun x hx => Nat.le_trans (hshp.2.2 x hx) (by decide), ?_⟩)
    have cap := rows_cap sh rows.getLast? hs9 (a := sh.length) (by omega)
    have cap2 : (letters sh strip rows.getLast?).length ≤ 10000 := Nat.le_trans (List.length_filter_le _ _) cap
    refine db_cons (ds_if <| dt_cmp (op_eqD hr.units) (nomark _) <| dv 6 <| de_lst <| da_nil ⟨_, .nil, by simp, fun p0 => dop_eqD (.dat _) (.own p0 _) (ok_rowsL _) (by decide) ⟨_, rfl, ⟨fun e => ?_, fun e => db_nil ?_⟩⟩⟩)
    · refine db_one (ds_ret <| de_tup <| da_cons <| de_callTy call_tuple_of (by rfl) m1 boot_tuple <| da_cons <| dlc2 7 8 scWhole.nd <| di_zipT m3 <| dv 1 <| dv 2 ⟨_, _, rfl, rfl, fun q d hd4 => ?_, fun q acc2 s2 => acc2 = nsD ((addL one other).take q), rfl, ?_, ?_⟩)
      · obtain ⟨x, y, _, _, rfl⟩ := zipD_get hd4
        exact ⟨x, y, rfl⟩
      · rintro q d1 d2 acc2 s2 hd4 rfl
        obtain ⟨x, y, hx, hy, e⟩ := zipD_get hd4
        cases e
        obtain ⟨a, ha, rfl⟩ := nsD_get hx
        obtain ⟨b, hb, rfl⟩ := nsD_get hy
        refine ⟨by rw [nsD_len, List.length_take, addL_len (by rw [ho.1, ht.1]), ho.1]; omega, fun _ s0 H0 C cl fp => ?_, fun z => nomatch z⟩
        refine de_bin op_add <| dv 7 <| dv 8 <| dop_I0 (i := (a : Int)) (j := (b : Int)) rfl ⟨_, .dat .nil, rfl, ?_⟩
        show nsD ((addL one other).take q) ++ [nD (a + b)] = nsD ((addL one other).take (q + 1))
        rw [add_take ha hb]
        unfold nsD
        rw [List.map_append]
        rfl
      · rintro acc2 s2 rfl p6
        rw [zipD_len, nsD_len, nsD_len, ho.1, ht.1, Nat.min_self, List.take_of_length_le (l := addL one other) (by rw [addL_len (by rw [ho.1, ht.1]), ho.1]; exact Nat.le_refl _)]
        exact da_nil <| dcall_tuple (.own p6 _) (.lst _) <| da_cons <| dc_call C3 (hr.mono (by decide)) tk <| da_cons <| dv 2 <| da_nil fun A => ⟨other, rfl, by rw [ht.1]; omega, fun ds => da_nil ⟨_, .dat (.dat .nil), by simp, ⟨_, .dat _, h _ (add_shp ho ht) _ _⟩⟩⟩
    · have hne : letters sh strip rows.getLast? ≠ [] := fun z => by
        rw [z] at e
        cases e
      have hpos : 0 < (letters sh strip rows.getLast?).length := List.length_pos_iff.mpr hne
      refine db_cons (dset 9 scWhole.nd <| dc_call C2 hr tk <| da_cons <| dv 0 <| da_cons <| dv 6 <| da_nil fun A => ⟨dr, la, ca, cs, hd.avoid A, rowsD (letters sh strip rows.getLast?), rfl, by rw [rowsD_len]; exact hpos, by rw [rowsD_len]; omega, fun d hdm st3 => ?_⟩)
      obtain ⟨r, hr2, rfl⟩ := List.mem_map.mp hdm
      have hrl : r.length = sh.length := row_at sh strip _ _ r (mem_letters.mp hr2).1
      refine db_one (dpar 3 4 scWhole.nd (by rfl) <| de_callTy call_tuple_of (by rfl) m1 boot_tuple <| da_cons <| dlc2 7 8 scWhole.nd <| di_zipT m3 <| dv 3 <| dv 9 ⟨_, _, rfl, rfl, fun q d hd4 => ?_, fun q acc2 s2 => acc2 = nsD ((addL sh r).take q), rfl, ?_, ?_⟩)
      · obtain ⟨x, y, _, _, rfl⟩ := zipD_get hd4
        exact ⟨x, y, rfl⟩
      · rintro q d1 d2 acc2 s2 hd4 rfl
        obtain ⟨x, y, hx, hy, e⟩ := zipD_get hd4
        cases e
        obtain ⟨a, ha, rfl⟩ := nsD_get hx
        obtain ⟨b, hb, rfl⟩ := nsD_get hy
        refine ⟨by rw [nsD_len, List.length_take, addL_len hrl.symm]; omega, fun _ s0 H0 C cl fp => ?_, fun z => nomatch z⟩
        refine de_bin op_add <| dv 7 <| dv 8 <| dop_I0 (i := (a : Int)) (j := (b : Int)) rfl ⟨_, .dat .nil, rfl, ?_⟩
        show nsD ((addL sh r).take q) ++ [nD (a + b)] = nsD ((addL sh r).take (q + 1))
        rw [add_take ha hb]
        unfold nsD
        rw [List.map_append]
        rfl
      · rintro acc2 s2 rfl p6
        rw [zipD_len, nsD_len, nsD_len, hrl, Nat.min_self, List.take_of_length_le (l := addL sh r) (by rw [addL_len hrl.symm]; exact Nat.le_refl _)]
        refine da_nil <| dcall_tuple (.own p6 _) (.lst _) <| de_bin op_catA <| dv 4 <| de_tup <| da_cons <| dv 9 <| da_nil ⟨_, .dat .nil, by simp, dop_catA (ds := rowsD rows) (es := [.tuple (nsD r)]) (by rw [rowsD_len, hrows]; simp; omega) ?_⟩
        refine ⟨addL sh r, rows ++ [r], .dat (nD strip), .dat (.list (rowsD (letters sh strip rows.getLast?))), .dat (.tuple (nsD r)), ?_, lot_next hok (by rw [hgd]; exact hr2)⟩
        rw [rowsD_app]
        rfl
  · rintro ρ s ⟨sh, rows, s5, s6, s9, rfl, hok⟩
    rw [nsD_len, ht.1] at hok
    exact db_one (ds_ret <| de_tup <| da_cons <| dv 3 <| da_cons <| dv 4 <| da_nil ⟨_, .dat (.dat .nil), by simp, ⟨_, .dat _, h _ (lot_shp ho ht hok) _ _⟩⟩)
end
end K33

namespace K33
open PySem PySem.Spec PyProof.Rows L2 DL LH
abbrev sRich : Stmt := topS 39
theorem scRich : FnScope ["draw", "one", "other", "counts", "shape", "rows", "some"] ["draw", "one", "other"] (defScope sRich) := ⟨rfl, rfl, rfl, by decide +kernel, rfl, by decide +kernel, by decide +kernel⟩
def zs (l : List Nat) : List Int := l.map fun n : Nat => (n : Int)
theorem keyN (l : List Nat) : PyData.tuple (nsD l) = keyT (zs l) := by rw [nsD_ints]; rfl
theorem put_len (l : Cnt) (k : List Int) (z : Int) : (putC l k z).length ≤ l.length + 1 := by
  unfold putC
  split
  · rw [List.length_map]; omega
  · rw [List.length_append]; exact Nat.le_refl _
theorem put_ne (l : Cnt) (k : List Int) (z : Int) : putC l k z ≠ [] := by
  unfold putC
  split
  · rename_i h
    intro e
    have : l = [] := List.map_eq_nil_iff.mp e
    subst this
    cases h
  · intro e
    exact absurd (List.append_eq_nil_iff.mp e).2 (by simp)
theorem put_key {l : Cnt} {k : List Int} {z : Int} {q : List Int × Int} (h : q ∈ putC l k z) : q.1 = k ∨ ∃ q' ∈ l, q'.1 = q.1 := by
  unfold putC at h
  split at h
  · obtain ⟨q', h1, h2⟩ := List.mem_map.mp h
    by_cases e : q'.1 = k
    · rw [if_pos e] at h2
      subst h2
      exact .inl e
    · rw [if_neg e] at h2
      subst h2
      exact .inr ⟨q', h1, rfl⟩
  · rcases List.mem_append.mp h with h | h
    · exact .inr ⟨q, h, rfl⟩
    · rw [List.mem_singleton.mp h]
      exact .inl rfl
theorem get_in {l : Cnt} {q : List Int × Int} (h : q ∈ l) : ∃ z, getC l q.1 = some z := by
  unfold getC
  cases e : l.find? fun x => decide (x.1 = q.1) with
  | none =>
    have := List.find?_eq_none.mp e q h
    simp at this
  | some x => exact ⟨x.2, rfl⟩
theorem alikeNs : ∀ a b : List Nat, PySem.W.alikeAll (nsD a) (nsD b) = true
  | [], _ => by simp [PySem.W.alikeAll, nsD]
  | _ :: _, [] => by simp [PySem.W.alikeAll, nsD]
  | x :: a, y :: b => by
    show PySem.W.alikeAll (nD x :: nsD a) (nD y :: nsD b) = true
    rw [PySem.W.alikeAll, alikeN, alikeNs a b]
    rfl
/-- all are shapes of this size -/
def ShpD (B n : Nat) (ds : List PyData) : Prop := ∀ d ∈ ds, ∃ l, d = .tuple (nsD l) ∧ Shp B n l
theorem srtsShp {B n : Nat} {ds : List PyData} (h : ShpD B n ds) (hn : 1 ≤ n) (hl : ds.length ≤ 16000000) : Srts ds where
  al := fun d hd d' hd' => by
    obtain ⟨a, rfl, _⟩ := h d hd
    obtain ⟨b, rfl, _⟩ := h d' hd'
    show PySem.W.alike (.tuple (nsD a)) (.tuple (nsD b)) = true
    rw [PySem.W.alike]
    exact alikeNs a b
  ok := .inl fun d hd => by
    obtain ⟨a, rfl, ha⟩ := h d hd
    cases a with
    | nil => have := ha.1; simp at this; omega
    | cons x l => exact ⟨nD x, nsD l, rfl⟩
  len := hl
  dep := fun d hd => by
    obtain ⟨a, rfl, _⟩ := h d hd
    rw [PyData.depth]
    have : PyData.depthAll (nsD a) ≤ 0 := depthAll_le.mpr fun y hy => by
      obtain ⟨n, _, rfl⟩ := List.mem_map.mp hy
      exact Nat.le_refl _
    omega
  can := canAll_iff.mpr fun d hd => by
    obtain ⟨a, rfl, _⟩ := h d hd
    exact (ok_nsD a).1
theorem shaped_shp {B n : Nat} {ds : List PyData} (h : ShpD B n ds) : SeqAt.shaped (.list ds) = true := shaped_list fun d hd => by
  obtain ⟨a, rfl, _⟩ := h d hd
  exact ok_nsD a
section
variable {P : Program} {w : World} {K : PySem.W.Frag} {mg : Str → Option Value} {base : Heap}
def fRich : Pd := fun m ss st k xk => ∃ (dr la ca : Addr) (cs : List Int) (hd : HasDraw m dr la ca cs) (n : Nat) (one other : List Nat), ss = [.raw (.ref dr), .dat (.tuple (nsD one)), .dat (.tuple (nsD other))] ∧ 1 ≤ n ∧ n ≤ 4 ∧ Shp 9 n one ∧ Shp 9 n other ∧ ∀ l, Shp 18 n l → ∀ (st' : m.St), k (.dat (.tuple (nsD l))) st'
def CntOk (n : Nat) (l : Cnt) : Prop := ∀ q ∈ l, ∃ sh, q.1 = zs sh ∧ Shp 18 n sh
theorem keys_shp {n : Nat} {l : Cnt} (h : CntOk n l) : ShpD 18 n (keysD l) := fun d hd => by
  obtain ⟨q, hq, rfl⟩ := List.mem_map.mp hd
  obtain ⟨sh, e, hs⟩ := h q hq
  exact ⟨sh, by rw [e, keyN], hs⟩
theorem ok_rich (D : Df K mg "_law_rich" sRich ["draw", "one", "other"]) (C1 : Cal P w K mg base "_law_all_fillings" sAll ["one", "other"] 2 fAll) (C2 : Cal P w K mg base "_law_pick" sPick ["draw", "some"] 3 fPick) (m1 : mg "sorted" = none) :
    Cal P w K mg base "_law_rich" sRich ["draw", "one", "other"] 4 fRich := by
  refine cal_of D scRich (by rintro _ _ _ _ _ ⟨_, _, _, _, _, _, _, _, rfl, _⟩; rfl) fun f cdv A outer s1 H E c hr tk hp ss st k h => ?_
  obtain ⟨dr, la, ca, cs, hd, n, one, other, rfl, h1, h4, ho, ht, h⟩ := h
  have hu := hr.units
  have hdo := shp_down ho
  have capN : (lotsN one other n).length ≤ 1000000 := by
    refine Nat.le_trans (lots_len hdo (by rw [ho.1]; exact h1) ht.2.2 n) ?_
    rw [ho.1]
    exact cap_le n (by simp; omega) n (by simp; omega)
  obtain ⟨L0, hL0, _⟩ := lots_ne (by rw [ho.1, ht.1]) hdo (shp_down ht) n (by rw [ho.1]; exact Nat.le_refl _)
  have posN : 0 < (lotsN one other n).length := List.length_pos_of_mem hL0
  refine db_cons (dset 3 scRich.nd <| de_dictT fun p => ?_)
  refine db_cons (ds_for hp rfl <| di_list <| dc_call C1 (hr.mono (by decide)) tk <| da_cons <| dv 1 <| da_cons <| dv 2 <| da_nil fun A => ⟨n, one, other, rfl, h1, h4, ho, ht, .inl ⟨_, rfl, fun i ρ s => ∃ (l : Cnt) (s4 s5 : DL.Slot), ρ = [.raw (.ref dr), .dat (.tuple (nsD one)), .dat (.tuple (nsD other)), .ownX p (dTo l) S0, s4, s5, .any] ∧ l.length ≤ i ∧ (0 < i → l ≠ []) ∧ CntOk n l, ⟨[], _, _, rfl, Nat.le_refl _, fun z => absurd z (by decide), fun _ z => (nomatch z)⟩, ?_, ?_⟩⟩)
  · rintro i d ρ s hd' ⟨l, s4, s5, rfl, hl, _, hc⟩
    obtain ⟨L, hL, rfl⟩ := lotsD_get hd'
    have hi := (List.getElem?_eq_some_iff.mp hL).1
    obtain ⟨sh, rows⟩ := L
    have hsh := lot_shp ho ht (lots_ok hdo n _ (List.mem_of_getElem? hL))
    refine dg_tup rfl <| dgs_cons <| dgn 4 scRich.nd <| dgs_cons <| dgn 5 scRich.nd <| dgs_nil ?_
    show DB _ _ _ [.raw (.ref dr), .dat (.tuple (nsD one)), .dat (.tuple (nsD other)), .ownX p (dTo l) S0, .dat (.tuple (nsD sh)), .dat (.tuple (rowsD rows)), .any] _ _
    rw [keyN sh]
    refine db_one (ds_putT 3 (by omega) <| de_bin op_add <| de_getT 3 rfl .dT (by omega) <| dv 4 ⟨zs sh, rfl, de_int ⟨0, _, l, rfl, rfl, .dT, ?_⟩⟩)
    refine de_int <| dop_I0 rfl ⟨_, p, l, rfl, rfl, by omega, dv 4 ⟨zs sh, rfl, rfl, putC l (zs sh) _, _, _, rfl, ?_, fun _ => put_ne _ _ _, fun q hq => ?_⟩⟩
    · have := put_len l (zs sh) ((getC l (zs sh)).getD 0 + 1)
      omega
    · rcases put_key hq with e | ⟨q', h2, e⟩
      · exact ⟨sh, e, hsh⟩
      · rw [← e]
        exact hc q' h2
  · rintro ρ s ⟨l, s4, s5, rfl, hl, hne, hc⟩
    rw [lotsD_len] at hl hne
    have hne' := hne posN
    have hll : l.length ≤ 1000000 := by omega
    have hkl : (keysD l).length = l.length := List.length_map _
    refine db_cons (dset 6 scRich.nd <| de_callB (call_sortD hu) (by rfl) m1 boot_sorted <| da_cons <| dlcK 3 4 scRich.nd rfl fun od => ⟨fun i acc s => ShpD 18 n acc ∧ acc.length ≤ i, ⟨fun _ z => (nomatch z), Nat.le_refl _⟩, ?_, ?_⟩)
    · rintro i d acc s hd' ⟨ha, hal⟩
      have hi := (List.getElem?_eq_some_iff.mp hd').1
      obtain ⟨q, hq, rfl⟩ := List.mem_map.mp (List.mem_of_getElem? hd')
      obtain ⟨z, hz⟩ := get_in hq
      obtain ⟨sh, e, hs⟩ := hc q hq
      refine ⟨by omega, fun s0 H0 C cl fp => dt_cmp op_gt (nomark _) <| de_ixTd 3 rfl (Nat.lt_of_le_of_lt (Nat.add_le_add_left (show 1 ≤ 64 by decide) _) hu) <| dv 4 ⟨q.1, z, _, l, rfl, rfl, .frz od, hz, de_int <| dop_I0 rfl ⟨_, rfl, fun _ => ?_, fun _ => ⟨rfl, ha, by omega⟩⟩⟩⟩
      refine fun s0 H0 C cl fp => dv 4 ⟨_, .dat .nil, rfl, fun x hx => ?_, by rw [List.length_append, List.length_singleton]; omega⟩
      rcases List.mem_append.mp hx with hx | hx
      · exact ha x hx
      · rw [List.mem_singleton.mp hx]
        exact ⟨sh, by rw [e, keyN], hs⟩
    · rintro acc s ⟨ha, hal⟩ p1
      rw [hkl] at hal
      refine ⟨rfl, da_nil <| dcall_sortD (.own p1 _) (.lst _) (srtsShp ha h1 (by omega)) fun p2 => db_freeze 6 rfl ?_⟩
      have hperm := sortD_perm false acc
      have ha2 : ShpD 18 n (sortD false acc) := fun x hx => ha x (hperm.mem_iff.mp hx)
      have hpk := sortD_perm false (keysD l)
      have hk2 : ShpD 18 n (sortD false (keysD l)) := fun x hx => keys_shp hc x (hpk.mem_iff.mp hx)
      refine db_one (ds_ret <| dc_call C2 hr tk <| da_cons <| dv 0 <| da_cons <| de_imp (k' := fun s' ρ' st' => ∃ ds, normS s' = .dat (.list ds) ∧ 0 < ds.length ∧ ds.length < 2 ^ 30 ∧ ShpD 18 n ds) ?_ ?_)
      · refine de_if <| dt_cmp (op_neD hu) (nomark _) <| dv 6 <| de_lst <| da_nil ⟨_, .nil, by simp, fun p0 => dop_neD (.dat _) (.own p0 _) (shaped_shp ha2) (by decide) ⟨_, rfl, ⟨fun e => ?_, fun e => ?_⟩⟩⟩
        · refine dv 6 ⟨sortD false acc, rfl, ?_, ?_, ha2⟩
          · cases hs : sortD false acc with
            | nil => rw [hs] at e; cases e
            | cons x r => rw [List.length_cons]; omega
          · rw [hperm.length_eq]; omega
        · refine de_callB (call_sortK rfl hu) (by rfl) m1 boot_sorted <| da_cons <| dv 3 <| da_nil <| dcall_sortK (i := 3) rfl (srtsShp (keys_shp hc) h1 (by omega)) fun p3 => ⟨sortD false (keysD l), rfl, ?_, ?_, hk2⟩
          · rw [hpk.length_eq, hkl]
            exact List.length_pos_iff.mpr hne'
          · rw [hpk.length_eq, hkl]; omega
      · rintro s' ρ' st' ⟨ds, en, e1, e2, e3⟩
        refine da_nil fun A => ⟨dr, la, ca, cs, hd.avoid A, ds, ?_, e1, e2, fun d hdm st3 => ?_⟩
        · show [normS _, normS s'] = _
          rw [en]
          rfl
        · obtain ⟨sh, rfl, hs⟩ := e3 d hdm
          exact ⟨_, .dat _, h sh hs _⟩
end
end K33

namespace K33
open PySem PySem.Spec PyProof.Rows L2 DL LH
abbrev sLIsLadder : Stmt := topS 42
theorem scLIsLadder : FnScope ["one", "other", "whole", "thing", "steps", "shape", "last", "at", "many", "grown_v", "to", "spots", "far", "spot"] ["one", "other", "whole", "thing"] (defScope sLIsLadder) := ⟨rfl, rfl, rfl, by decide +kernel, rfl, by decide +kernel, by decide +kernel⟩
/-! ### the two judges agree -/
def idx (a b : List Nat) : List Nat := (List.range a.length).filter fun t => decide (b.getD t 0 ≠ a.getD t 0)
theorem idx_cons (x y : Nat) (a b : List Nat) : idx (x :: a) (y :: b) = (if y = x then [] else [0]) ++ (idx a b).map (· + 1) := by
  unfold idx
  rw [List.length_cons, List.range_succ_eq_map, List.filter_cons, List.filter_map]
  have e : ((fun t => decide ((y :: b).getD t 0 ≠ (x :: a).getD t 0)) ∘ Nat.succ) = fun t => decide (b.getD t 0 ≠ a.getD t 0) := by
    funext t
    rfl
  rw [e]
  by_cases h : y = x
  · subst h
    simp
  · simp [h]
theorem grow_idx : ∀ {a b : List Nat}, a.length = b.length → grow a b = if (idx a b).all (fun t => decide (b.getD t 0 = a.getD t 0 + 1)) then some ((idx a b).map fun t => b.getD t 0) else none
  | [], [], _ => rfl
  | x :: a, y :: b, h => by
    have ih := grow_idx (a := a) (b := b) (by simpa using h)
    rw [grow, idx_cons]
    have e1 : ((idx a b).map (· + 1)).all (fun t => decide ((y :: b).getD t 0 = (x :: a).getD t 0 + 1)) = (idx a b).all fun t => decide (b.getD t 0 = a.getD t 0 + 1) := by
      rw [List.all_map]
      rfl
    have e2 : ((idx a b).map (· + 1)).map (fun t => (y :: b).getD t 0) = (idx a b).map fun t => b.getD t 0 := by
      rw [List.map_map]
      rfl
    by_cases h1 : y = x
    · subst h1
      rw [if_pos rfl, if_pos rfl, List.nil_append, e1, e2, ih]
    · rw [if_neg h1, if_neg h1, List.singleton_append, List.all_cons, List.map_cons, e1, e2, ih]
      by_cases h2 : y = x + 1
      · rw [if_pos h2]
        have : decide ((y :: b).getD 0 0 = (x :: a).getD 0 0 + 1) = true := decide_eq_true h2
        rw [this, Bool.true_and]
        split <;> rfl
      · rw [if_neg h2]
        have : decide ((y :: b).getD 0 0 = (x :: a).getD 0 0 + 1) = false := decide_eq_false h2
        rw [this, Bool.false_and]
        rfl
theorem upTo_mono {l : List Nat} {a b : Nat} (h : a ≤ b) : upTo l a ≤ upTo l b := by
  unfold upTo
  induction l with
  | nil => exact Nat.le_refl _
  | cons x l ih =>
    rw [List.filter_cons, List.filter_cons]
    by_cases h1 : x ≤ a
    · have h2 : x ≤ b := by omega
      simp [h1, h2]
      exact ih
    · by_cases h2 : x ≤ b
      · simp [h1, h2]
        exact Nat.le_succ_of_le ih
      · simp [h1, h2]
        exact ih
theorem below_mono {l : List Nat} {a b : Nat} (h : a ≤ b) : below l a ≤ below l b := by
  unfold below
  induction l with
  | nil => exact Nat.le_refl _
  | cons x l ih =>
    rw [List.filter_cons, List.filter_cons]
    by_cases h1 : x < a
    · have h2 : x < b := by omega
      simp [h1, h2]
      exact ih
    · by_cases h2 : x < b
      · simp [h1, h2]
        exact Nat.le_succ_of_le ih
      · simp [h1, h2]
        exact ih
/-- the greatest below -/
theorem upTo_max {l : List Nat} {far : Nat} (h : 0 < upTo l far) : ∃ s ∈ l, s ≤ far ∧ upTo l s = upTo l far := by
  induction far with
  | zero =>
    unfold upTo at h
    obtain ⟨s, hs⟩ := List.exists_mem_of_length_pos h
    rw [List.mem_filter] at hs
    have := of_decide_eq_true hs.2
    exact ⟨s, hs.1, this, by rw [show s = 0 by omega]⟩
  | succ far ih =>
    by_cases hm : far + 1 ∈ l
    · exact ⟨far + 1, hm, Nat.le_refl _, rfl⟩
    · have e : upTo l (far + 1) = upTo l far := by
        unfold upTo
        congr 1
        refine List.filter_congr fun x hx => ?_
        refine decide_eq_decide.mpr ⟨fun h => ?_, fun h => by omega⟩
        have : x ≠ far + 1 := fun z => hm (z ▸ hx)
        omega
      rw [e] at h ⊢
      obtain ⟨s, h1, h2, h3⟩ := ih h
      exact ⟨s, h1, by omega, h3⟩
theorem follows_far {last spots : List Nat} (h : ∀ s ∈ spots, 1 ≤ s ∧ s < 50) : follows (some last) spots = (List.range 49).all fun t => decide (upTo spots (t + 1) ≤ below last (t + 1)) := by
  rw [Bool.eq_iff_iff, List.all_eq_true]
  show (spots.all fun one => decide (upTo spots one ≤ below last one)) = true ↔ _
  rw [List.all_eq_true]
  constructor
  · intro h1 t ht
    refine decide_eq_true ?_
    by_cases h0 : 0 < upTo spots (t + 1)
    · obtain ⟨s, e1, e2, e3⟩ := upTo_max h0
      have := of_decide_eq_true (h1 s e1)
      rw [e3] at this
      exact Nat.le_trans this (below_mono e2)
    · omega
  · intro h1 s hs
    obtain ⟨g1, g2⟩ := h s hs
    have := h1 (s - 1) (List.mem_range.mpr (by omega))
    rwa [show s - 1 + 1 = s by omega] at this
/-- one step, by the law's own reading -/
def stepOk (ah : Option (List Nat)) (a b : List Nat) (m : Nat) : Bool :=
  (decide ((idx a b).length = m) && (idx a b).all fun t => decide (b.getD t 0 = a.getD t 0 + 1)) && follows ah ((idx a b).map fun t => b.getD t 0)
theorem climbs_step {ah : Option (List Nat)} {a b : List Nat} {r : List (List Nat)} {m : Nat} {ms : List Nat} (h : a.length = b.length) : climbs ah (a :: b :: r) (m :: ms) = (stepOk ah a b m && climbs (some ((idx a b).map fun t => b.getD t 0)) (b :: r) ms) := by
  rw [climbs, grow_idx h]
  unfold stepOk
  cases hA : (idx a b).all fun t => decide (b.getD t 0 = a.getD t 0 + 1) with
  | true =>
    rw [if_pos rfl]
    dsimp only
    rw [List.length_map, Bool.and_true, Bool.and_assoc]
  | false =>
    rw [if_neg (by simp)]
    simp
end K33

namespace K33
open PySem PySem.Spec PyProof.Rows L2 DL LH
def goodE (n : Nat) (t : PyData) : Bool := isShape t && decide (lenD t = n)
def pre3 (n m : Nat) : PyData → Bool
  | .tuple ts => decide (ts.length = m) && ts.all (goodE n)
  | _ => false
theorem sz_mem : ∀ {ts : List PyData} {x : PyData}, x ∈ ts → szD x ≤ szA ts
  | y :: ts, x, h => by
    rw [szA]
    rcases List.mem_cons.mp h with rfl | h
    · omega
    · have := sz_mem h
      omega
theorem no_bad2 {n : Nat} {l : List PyData} : (((l.filter fun x => !goodE n x).map fun _ => PyData.int 1)).isEmpty = l.all (goodE n) := by
  induction l with
  | nil => rfl
  | cons x l ih =>
    rw [List.filter_cons, List.all_cons]
    cases goodE n x with
    | true => simpa using ih
    | false => rfl
theorem ones_ok {α : Type} (l : List α) : SeqAt.shaped (.list (l.map fun _ => PyData.int 1)) = true := shaped_list fun x hx => by
  obtain ⟨_, _, rfl⟩ := List.mem_map.mp hx
  exact ⟨rfl, by simp [PyData.depth]⟩
theorem all_good (n : Nat) (l : List PyData) : l.all (goodE n) = (l.all isShape && l.all fun t => decide (lenD t = n)) := by
  induction l with
  | nil => rfl
  | cons x l ih =>
    rw [List.all_cons, List.all_cons, List.all_cons, ih]
    unfold goodE
    cases isShape x <;> cases decide (lenD x = n) <;> cases l.all isShape <;> rfl
theorem isLadder_pre {one other whole : List Nat} {th : PyData} (h : pre3 one.length ((turned other).length + 1) th = false) : isLadder one other whole th = false := by
  cases th with
  | tuple ts =>
    have h : (decide (ts.length = (turned other).length + 1) && ts.all (goodE one.length)) = false := h
    rw [isLadder_tup]
    cases h1 : decide (ts.length = (turned other).length + 1) with
    | false => rfl
    | true =>
      rw [h1, Bool.true_and] at h
      rw [all_good] at h
      cases h2 : ts.all isShape with
      | false => rfl
      | true =>
        rw [h2, Bool.true_and] at h
        rw [h]
        simp
  | _ => rfl
theorem isLadder_post {one other whole : List Nat} {ts : List PyData} (h : pre3 one.length ((turned other).length + 1) (.tuple ts) = true) : isLadder one other whole (.tuple ts) = (PyData.eqv (ts.headD .none) (.tuple (nsD one)) && (PyData.eqv (ts.getLastD .none) (.tuple (nsD whole)) && climbs none (ts.map natsOf) (turned other))) := by
  have h : (decide (ts.length = (turned other).length + 1) && ts.all (goodE one.length)) = true := h
  rw [Bool.and_eq_true] at h
  rw [all_good, Bool.and_eq_true] at h
  rw [isLadder_tup, h.1, h.2.1, h.2.2]
  simp
theorem natsOf_nsD (l : List Nat) : natsOf (.tuple (nsD l)) = l := by
  unfold natsOf nsD
  dsimp only
  rw [List.map_map]
  conv => rhs; rw [← List.map_id l]
  refine List.map_congr_left fun x _ => ?_
  show ((x : Int)).toNat = x
  omega
theorem nsD_none {q : Nat → Bool} {l : List Nat} : (nsD (l.filter fun x => !q x)).isEmpty = l.all q := by
  induction l with
  | nil => rfl
  | cons x l ih =>
    rw [List.filter_cons, List.all_cons]
    cases q x with
    | true => simpa using ih
    | false => rfl
theorem ones_none {q : Nat → Bool} {l : List Nat} : (((l.filter fun x => !q x).map fun _ => PyData.int 1)).isEmpty = l.all q := by
  induction l with
  | nil => rfl
  | cons x l ih =>
    rw [List.filter_cons, List.all_cons]
    cases q x with
    | true => simpa using ih
    | false => rfl
section
variable {P : Program} {w : World} {K : PySem.W.Frag} {mg : Str → Option Value} {base : Heap}
abbrev cxLad (P : Program) (w : World) (K : PySem.W.Frag) (mg : Str → Option Value) (base : Heap) (f : Addr) (cdv : Value) (A : Around) (outer : List PySem.Env) (s1 : Shared) (H : Hp) (E : XK) : Cx := cxOf (L2.CX P w) P w K mg base ["one", "other", "whole", "thing", "steps", "shape", "last", "at", "many", "grown_v", "to", "spots", "far", "spot"] "_law_is_ladder" (defScope sLIsLadder) f cdv A outer s1 H E
def fLIsLadder : Pd := fun m ss st k xk => ∃ (one whole : List Nat) (x : Nat) (l : List Nat) (th : PyData), ss = [.dat (.tuple (nsD one)), .dat (.tuple (nsD (x :: l))), .dat (.tuple (nsD whole)), .dat th] ∧ one.length ≤ 4 ∧ x ≤ 24 ∧ l.length ≤ 3 ∧ tupOk th ∧ k (.dat (.bool (isLadder one (x :: l) whole th))) st
/-- the loop over the steps -/
theorem lad_loop {f : Addr} {cdv : Value} {A : Around} {outer : List PySem.Env} {s1 : Shared} {H : Hp} {E : XK} {c : Cz} {st : c.m.St} {k : DL.Slot → c.m.St → Prop} (hr : Room 2 (cxLad P w K mg base f cdv A outer s1 H E).A) (tk : Takes (cxLad P w K mg base f cdv A outer s1 H E) c.W) (hp : PassesOwn (model P w) (cxLad P w K mg base f cdv A outer s1 H E).A (cxLad P w K mg base f cdv A outer s1 H E).env (cxLad P w K mg base f cdv A outer s1 H E).xe)
    (m3 : mg "len" = none) (m4 : mg "range" = none) (m5 : mg "enumerate" = none) {one other whole : List Nat} {ts : List PyData} (h4 : one.length ≤ 4) (h25 : (turned other).length ≤ 24) (hpre : pre3 one.length ((turned other).length + 1) (.tuple ts) = true) (h : k (.dat (.bool (climbs none (ts.map natsOf) (turned other)))) st) :
    DB (cxLad P w K mg base f cdv A outer s1 H E) c ((defBody sLIsLadder).drop 3) [.dat (.tuple (nsD one)), .dat (.tuple (nsD other)), .dat (.tuple (nsD whole)), .dat (.tuple ts), .dat (.tuple (nsD (turned other))), .any, .any, .any, .any, .any, .any, .any, .any, .any] st ⟨fun _ s' => k (.dat .none) s', k, fun _ _ => False, fun _ _ => False⟩ := by
  have e3 : (decide (ts.length = (turned other).length + 1) && ts.all (goodE one.length)) = true := hpre
  rw [Bool.and_eq_true, all_good, Bool.and_eq_true] at e3
  obtain ⟨e4, e5, e6⟩ := e3
  have e4 := of_decide_eq_true e4
  have hL : ∀ t ∈ ts, t = .tuple (nsD (natsOf t)) ∧ (natsOf t).length = one.length ∧ ∀ x ∈ natsOf t, x ≤ 24 := fun t ht => by
    obtain ⟨l, rfl, _, _, hs⟩ := is_shp (List.all_eq_true.mp e5 t ht)
    have z := of_decide_eq_true (List.all_eq_true.mp e6 _ ht)
    have z2 : (nsD l).length = one.length := z
    rw [nsD_len] at z2
    have en : natsOf (.tuple (nsD l)) = l := natsOf_nsD l
    rw [en]
    exact ⟨rfl, z2, hs.2.2⟩
  refine db_cons (dset 6 scLIsLadder.nd <| de_non ?_)
  refine db_cons (ds_for hp rfl <| di_enumT m5 <| dv 4 ⟨_, rfl, fun i ρ s => ∃ (ah : Option (List Nat)) (s7 s8 s9 s11 : DL.Slot), ρ = [.dat (.tuple (nsD one)), .dat (.tuple (nsD other)), .dat (.tuple (nsD whole)), .dat (.tuple ts), .dat (.tuple (nsD (turned other))), .any, .dat (growD ah), s7, s8, s9, .any, s11, .any, .any] ∧ st = s ∧ (∀ l, ah = some l → l.length ≤ 4) ∧ climbs none (ts.map natsOf) (turned other) = climbs ah ((ts.map natsOf).drop i) ((turned other).drop i), ⟨none, _, _, _, _, rfl, rfl, (fun _ z => nomatch z), rfl⟩, ?_, ?_⟩)
  · rintro i d ρ s hd ⟨ah, s7, s8, s9, s11, rfl, rfl, hah, hcl⟩
    obtain ⟨mm, hmm, rfl⟩ := enumD_get hd
    obtain ⟨m, hm, rfl⟩ := nsD_get hmm
    rw [Nat.zero_add]
    have hic := (List.getElem?_eq_some_iff.mp hm).1
    obtain ⟨ta, ha⟩ : ∃ a, ts[i]? = some a := ⟨_, List.getElem?_eq_getElem (by omega)⟩
    obtain ⟨tb, hb⟩ : ∃ b, ts[i + 1]? = some b := ⟨_, List.getElem?_eq_getElem (by omega)⟩
    obtain ⟨a1, a2, a3⟩ := hL ta (List.mem_of_getElem? ha)
    obtain ⟨b1, b2, b3⟩ := hL tb (List.mem_of_getElem? hb)
    obtain ⟨a, ea⟩ : ∃ a, a = natsOf ta := ⟨_, rfl⟩
    obtain ⟨b, eb⟩ : ∃ b, b = natsOf tb := ⟨_, rfl⟩
    have d1 : (ts.map natsOf).drop i = natsOf ta :: natsOf tb :: (ts.map natsOf).drop (i + 2) := by
      have q1 : (ts.map natsOf)[i]? = some (natsOf ta) := by rw [List.getElem?_map, ha]; rfl
      have q2 : (ts.map natsOf)[i + 1]? = some (natsOf tb) := by rw [List.getElem?_map, hb]; rfl
      obtain ⟨h1, g1⟩ := List.getElem?_eq_some_iff.mp q1
      obtain ⟨h2, g2⟩ := List.getElem?_eq_some_iff.mp q2
      rw [List.drop_eq_getElem_cons h1, List.drop_eq_getElem_cons h2, g1, g2]
    have d3 : (ts.map natsOf).drop (i + 1) = natsOf tb :: (ts.map natsOf).drop (i + 2) := by
      have q2 : (ts.map natsOf)[i + 1]? = some (natsOf tb) := by rw [List.getElem?_map, hb]; rfl
      obtain ⟨h2, g2⟩ := List.getElem?_eq_some_iff.mp q2
      rw [List.drop_eq_getElem_cons h2, g2]
    have d2 : (turned other).drop i = m :: (turned other).drop (i + 1) := by
      obtain ⟨h1, g1⟩ := List.getElem?_eq_some_iff.mp hm
      rw [List.drop_eq_getElem_cons h1, g1]
    rw [d1, d2, climbs_step (by rw [a2, b2]), ← d3] at hcl
    rw [← ea] at a1 a2 a3 hcl
    rw [← eb] at b1 b2 b3 hcl
    subst a1 b1
    have atA : ∀ t, t < one.length → L2.atI (nsD a) ((t : Nat) : Int) = some (nD (a.getD t 0)) := fun t ht => atI_nat (nsD_at (by rw [List.getD_eq_getElem?_getD, List.getElem?_eq_getElem (by omega)]; rfl))
    have atB : ∀ t, t < one.length → L2.atI (nsD b) ((t : Nat) : Int) = some (nD (b.getD t 0)) := fun t ht => atI_nat (nsD_at (by rw [List.getD_eq_getElem?_getD, List.getElem?_eq_getElem (by omega)]; rfl))
    have tsA : L2.atI ts ((i : Nat) : Int) = some (.tuple (nsD a)) := atI_nat ha
    have tsB : L2.atI ts ((i : Nat) + 1 : Int) = some (.tuple (nsD b)) := atI_nat (j := i + 1) hb
    have idx_lt : ∀ t ∈ idx a b, t < one.length := fun t ht => by
      unfold idx at ht
      have := List.mem_range.mp (List.mem_filter.mp ht).1
      omega
    have idx_len : (idx a b).length ≤ 4 := by
      unfold idx
      refine Nat.le_trans (List.length_filter_le _ _) ?_
      rw [List.length_range]
      omega
    refine dg_tup rfl <| dgs_cons <| dgn 7 scLIsLadder.nd <| dgs_cons <| dgn 8 scLIsLadder.nd <| dgs_nil ?_
    refine db_cons (ds_lc 9 10 scLIsLadder.nd <| di_range1 m4 <| de_callB call_len_seq (by rfl) m3 boot_len <| da_cons <| dv 0 <| da_nil <| dcall_len (.dat _) (.tup _) ⟨_, rfl, ?_, ?_, fun t acc s => acc = nsD ((List.range t).filter fun t => decide (b.getD t 0 ≠ a.getD t 0)) ∧ st = s, ⟨rfl, rfl⟩, ?_, ?_⟩)
    · omega
    · rw [nsD_len]; omega
    · rintro t d acc s hd2 ⟨rfl, rfl⟩
      obtain ⟨ht, rfl⟩ := ints_get hd2
      rw [nsD_len] at ht
      have ht' : t < one.length := by omega
      rw [Int.zero_add]
      refine ⟨?_, fun s0 H0 C cl fp => dt_cmp op_ne (nomark _) <| de_ix ix_tup <| de_ix ix_tup <| dv 3 <| de_bin op_add <| dv 7 <| de_int <| dop_I0 rfl <| dop_ixT tsB <| dv 10 <| dop_ixT (atB t ht') <| de_ix ix_tup <| de_ix ix_tup <| dv 3 <| dv 7 <| dop_ixT tsA <| dv 10 <| dop_ixT (atA t ht') <| dop_ne (x := .int _) (y := .int _) rfl rfl rfl ⟨_, rfl, fun e => ?_, fun e => ?_⟩⟩
      · rw [nsD_len]
        refine Nat.lt_of_le_of_lt (List.length_filter_le _ _) ?_
        rw [List.length_range]
        omega
      · have e1 : b.getD t 0 ≠ a.getD t 0 := fun z => by
          have e8 : decide (V.int ((b.getD t 0 : Nat) : Int) = V.int ((a.getD t 0 : Nat) : Int)) = false := by simpa using e
          exact of_decide_eq_false e8 (by rw [z])
        refine fun s0 H0 C cl fp => dv 10 ⟨_, .dat .nil, rfl, ?_, rfl⟩
        unfold nsD
        rw [List.range_succ, List.filter_append, List.map_append, List.filter_cons_of_pos (by exact decide_eq_true e1)]
        rfl
      · have e1 : b.getD t 0 = a.getD t 0 := by
          have e8 : decide (V.int ((b.getD t 0 : Nat) : Int) = V.int ((a.getD t 0 : Nat) : Int)) = true := by simpa using e
          have := V.int.inj (of_decide_eq_true e8)
          omega
        refine ⟨rfl, ?_, rfl⟩
        unfold nsD
        rw [List.range_succ, List.filter_append, List.filter_cons_of_neg (by rw [decide_eq_false (fun z => z e1)]; decide)]
        simp
    rintro acc s ⟨rfl, rfl⟩ p9
    rw [ints_len, nsD_len, show ((one.length : Int)).toNat = a.length by omega]
    obtain ⟨g, eg⟩ : ∃ g, g = idx a b := ⟨_, rfl⟩
    have e20 : ((List.range a.length).filter fun t => decide (b.getD t 0 ≠ a.getD t 0)) = g := eg.symm
    rw [e20]
    rw [← eg] at idx_lt idx_len
    have e21 : stepOk ah a b m = ((decide (g.length = m) && g.all fun t => decide (b.getD t 0 = a.getD t 0 + 1)) && follows ah (g.map fun t => b.getD t 0)) := by rw [eg]; rfl
    rw [e21, ← eg] at hcl
    refine db_freeze 9 rfl ?_
    refine db_cons (ds_if <| dt_imp (kb' := fun b' ρ' s' => b' = (!(decide (g.length = m) && g.all fun t => decide (b.getD t 0 = a.getD t 0 + 1))) ∧ ρ' = [.dat (.tuple (nsD one)), .dat (.tuple (nsD other)), .dat (.tuple (nsD whole)), .dat (.tuple ts), .dat (.tuple (nsD (turned other))), .any, .dat (growD ah), .dat (.int (i : Nat)), .dat (nD m), .dat (.list (nsD g)), .any, s11, .any, .any] ∧ st = s') ?_ ?_)
    · refine dt_w <| dw_or <| dt_cmp op_ne (nomark _) <| de_callB call_len_seq (by rfl) m3 boot_len <| da_cons <| dv 9 <| da_nil <| dcall_len (.dat _) (.lst _) <| dv 8 <| dop_ne (x := .int _) (y := .int _) rfl rfl rfl ⟨_, rfl, ⟨fun e => ⟨?_, rfl, rfl⟩, fun e => ?_⟩⟩
      · have e16 : ¬ g.length = m := fun z => by
          have e8 : (!decide (V.int ((nsD g).length : Int) = V.int (m : Int))) = true := e
          rw [nsD_len, z] at e8
          simp at e8
        rw [decide_eq_false e16]
        rfl
      have e16 : g.length = m := by
        have e8 : (!decide (V.int ((nsD g).length : Int) = V.int (m : Int))) = false := e
        rw [nsD_len] at e8
        have e9 : decide (V.int (g.length : Int) = V.int (m : Int)) = true := by simpa using e8
        have := V.int.inj (of_decide_eq_true e9)
        omega
      refine dw_or1 <| dt_cmp (op_neD hr.units) (nomark _) <| dlc 10 scLIsLadder.nd <| di_list <| dv 9 <| .inl ⟨_, rfl, fun t acc s2 => acc = nsD ((g.take t).filter fun t => !decide (b.getD t 0 = a.getD t 0 + 1)) ∧ st = s2, ⟨rfl, rfl⟩, ?_, ?_⟩
      · rintro t d acc s2 hd2 ⟨rfl, rfl⟩
        obtain ⟨u, hu, rfl⟩ := nsD_get hd2
        have hu' : u < one.length := idx_lt u (List.mem_of_getElem? hu)
        refine ⟨?_, fun s0 H0 C cl fp => dt_cmp op_ne (nomark _) <| de_ix ix_tup <| de_ix ix_tup <| dv 3 <| de_bin op_add <| dv 7 <| de_int <| dop_I0 rfl <| dop_ixT tsB <| dv 10 <| dop_ixT (atB u hu') <| de_bin op_add <| de_ix ix_tup <| de_ix ix_tup <| dv 3 <| dv 7 <| dop_ixT tsA <| dv 10 <| dop_ixT (atA u hu') <| de_int <| dop_I0 (i := ((a.getD u 0 : Nat) : Int)) rfl <| dop_ne (x := .int _) (y := .int _) rfl rfl rfl ⟨_, rfl, fun e => ?_, fun e => ?_⟩⟩
        · rw [nsD_len]
          refine Nat.lt_of_le_of_lt (List.length_filter_le _ _) ?_
          rw [List.length_take]
          omega
        · have e1 : ¬ b.getD u 0 = a.getD u 0 + 1 := fun z => by
            have e8 : decide (V.int ((b.getD u 0 : Nat) : Int) = V.int (((a.getD u 0 : Nat) : Int) + 1)) = false := by simpa using e
            exact of_decide_eq_false e8 (by rw [z]; rfl)
          refine fun s0 H0 C cl fp => dv 10 ⟨_, .dat .nil, rfl, ?_, rfl⟩
          unfold nsD
          rw [List.take_add_one, hu, List.filter_append, List.map_append, Option.toList_some, List.filter_cons_of_pos (by rw [decide_eq_false e1]; rfl)]
          rfl
        · have e1 : b.getD u 0 = a.getD u 0 + 1 := by
            have e8 : decide (V.int ((b.getD u 0 : Nat) : Int) = V.int (((a.getD u 0 : Nat) : Int) + 1)) = true := by simpa using e
            have := V.int.inj (of_decide_eq_true e8)
            omega
          refine ⟨rfl, ?_, rfl⟩
          unfold nsD
          rw [List.take_add_one, hu, List.filter_append, Option.toList_some, List.filter_cons_of_neg (by rw [decide_eq_true e1]; simp)]
          simp
      · rintro acc s2 ⟨rfl, rfl⟩ p
        rw [nsD_len, List.take_length]
        refine de_lst <| da_nil ⟨_, .nil, by simp, fun p0 => dop_neD (.own p _) (.own p0 _) (shaped_nsDl _) (by decide) ⟨_, rfl, ?_, rfl, rfl⟩⟩
        rw [eqv_empty, nsD_none, decide_eq_true e16, Bool.true_and]
    rintro b' ρ' s' ⟨rfl, rfl, rfl⟩
    refine ⟨fun e => ?_, fun e => db_nil ?_⟩
    · have e22 : (decide (g.length = m) && g.all fun t => decide (b.getD t 0 = a.getD t 0 + 1)) = false := by
        rw [Bool.eq_false_iff]
        intro z
        rw [z] at e
        cases e
      have e14 : climbs none (ts.map natsOf) (turned other) = false := by rw [hcl, e22]; rfl
      exact db_one (ds_ret <| de_bl ⟨_, .dat _, by rw [e14] at h; exact h⟩)
    have e22 : (decide (g.length = m) && g.all fun t => decide (b.getD t 0 = a.getD t 0 + 1)) = true := by
      cases z : (decide (g.length = m) && g.all fun t => decide (b.getD t 0 = a.getD t 0 + 1)) with
      | true => rfl
      | false => rw [z] at e; cases e
    rw [e22, Bool.true_and] at hcl
    refine db_cons (dset 11 scLIsLadder.nd <| dlc 10 scLIsLadder.nd <| di_list <| dv 9 <| .inl ⟨_, rfl, fun t acc s2 => acc = nsD ((g.take t).map fun t => b.getD t 0) ∧ st = s2, ⟨rfl, rfl⟩, ?_, ?_⟩)
    · rintro t d acc s2 hd2 ⟨rfl, rfl⟩
      obtain ⟨u, hu, rfl⟩ := nsD_get hd2
      have hu' : u < one.length := idx_lt u (List.mem_of_getElem? hu)
      refine ⟨by rw [nsD_len, List.length_map, List.length_take]; omega, fun _ s0 H0 C cl fp => ?_, fun z => nomatch z⟩
      refine de_ix ix_tup <| de_ix ix_tup <| dv 3 <| de_bin op_add <| dv 7 <| de_int <| dop_I0 rfl <| dop_ixT tsB <| dv 10 <| dop_ixT (atB u hu') ⟨_, .dat .nil, rfl, ?_, rfl⟩
      unfold nsD
      rw [List.take_add_one, hu, Option.toList_some, List.map_append, List.map_append]
      rfl
    rintro acc s ⟨rfl, rfl⟩ p11
    rw [nsD_len, List.take_length]
    obtain ⟨sp, esp⟩ : ∃ sp, sp = g.map fun t => b.getD t 0 := ⟨_, rfl⟩
    rw [← esp] at hcl ⊢
    have hsl : sp.length ≤ 4 := by rw [esp, List.length_map]; exact idx_len
    have hsp : ∀ s ∈ sp, 1 ≤ s ∧ s < 50 := fun s hs => by
      rw [esp] at hs
      obtain ⟨u, hu, rfl⟩ := List.mem_map.mp hs
      rw [Bool.and_eq_true] at e22
      have e23 := of_decide_eq_true (List.all_eq_true.mp e22.2 u hu)
      have hu' := idx_lt u hu
      have e24 : b.getD u 0 ≤ 24 := by
        rw [List.getD_eq_getElem?_getD, List.getElem?_eq_getElem (show u < b.length by omega)]
        exact b3 _ (List.getElem_mem _)
      omega
    refine db_freeze 11 rfl ?_
    refine db_cons (ds_if <| dt_imp (kb' := fun b' ρ' s' => b' = (!follows ah sp) ∧ ρ' = [.dat (.tuple (nsD one)), .dat (.tuple (nsD other)), .dat (.tuple (nsD whole)), .dat (.tuple ts), .dat (.tuple (nsD (turned other))), .any, .dat (growD ah), .dat (.int (i : Nat)), .dat (nD m), .dat (.list (nsD g)), .any, .dat (.list (nsD sp)), .any, .any] ∧ st = s') ?_ ?_)
    · cases ah with
      | none => exact dt_w <| dw_and <| dt_cmp op_notN (nomark _) <| dv 6 <| de_non <| dop_notN (d := .none) ⟨_, rfl, fun e => absurd (show false = true from e) (by decide), fun _ => ⟨rfl, rfl, rfl⟩⟩
      | some l =>
        have hl4 := hah l rfl
        refine dt_w <| dw_and <| dt_cmp op_notN (nomark _) <| dv 6 <| de_non <| dop_notN (d := .list (nsD l)) ⟨_, rfl, fun _ => ?_, fun e => absurd (show true = false from e) (by decide)⟩
        refine dw_and1 <| dt_cmp (op_neD hr.units) (nomark _) <| dlc 12 scLIsLadder.nd <| di_range2 m4 <| de_int ⟨_, rfl, de_int ⟨_, rfl, ⟨by decide, by decide, by decide, by decide⟩, ?_⟩⟩
        refine ⟨fun t acc s2 => acc = ((List.range t).filter fun t => !decide (upTo sp (t + 1) ≤ below l (t + 1))).map (fun _ => PyData.int 1) ∧ st = s2, ⟨rfl, rfl⟩, ?_, ?_⟩
        · rintro t d acc s2 hd2 ⟨rfl, rfl⟩
          obtain ⟨ht, rfl⟩ := ints_get hd2
          have lc : ∀ {l' : List Nat}, l'.length ≤ 4 → ∀ j : Nat, ∀ q : Nat → Bool, ((l'.take j).filter q).length < 16000000 := fun {l'} hz j q => by
            refine Nat.lt_of_le_of_lt (List.length_filter_le _ _) ?_
            rw [List.length_take]
            omega
          refine ⟨?_, fun s0 H0 C cl fp => dt_cmp op_gt (nomark _) <| de_callB call_len_seq (by rfl) m3 boot_len <| da_cons <| dlc 13 scLIsLadder.nd <| di_list <| dv 11 <| .inl ⟨_, rfl, fun j acc s2 => acc = nsD ((sp.take j).filter fun n' => decide (n' ≤ t + 1)) ∧ st = s2, ⟨rfl, rfl⟩, ?_, ?_⟩⟩
          · rw [List.length_map]
            refine Nat.lt_of_le_of_lt (List.length_filter_le _ _) ?_
            rw [List.length_range]
            have : ((50 : Int) - 1).toNat = 49 := rfl
            omega
          · rintro j d acc s2 hd2 ⟨rfl, rfl⟩
            obtain ⟨n', hn', rfl⟩ := nsD_get hd2
            refine ⟨by unfold nsD; rw [List.length_map]; exact lc hsl j _, fun s0 H0 C cl fp => dt_cmp op_le (nomark _) <| dv 13 <| dv 12 <| dop_I0 rfl ⟨_, rfl, fun e => ?_, fun e => ?_⟩⟩
            · have e1 : n' ≤ t + 1 := by have := of_decide_eq_true e; omega
              refine fun s0 H0 C cl fp => dv 13 ⟨_, .dat .nil, rfl, ?_, rfl⟩
              unfold nsD
              rw [List.take_add_one, hn', List.filter_append, List.map_append]
              simp [e1]
            · have e1 : ¬ n' ≤ t + 1 := fun z => of_decide_eq_false e (by omega)
              refine ⟨rfl, ?_, rfl⟩
              unfold nsD
              rw [List.take_add_one, hn', List.filter_append, List.map_append]
              simp [e1]
          rintro acc s2 ⟨rfl, rfl⟩ p
          refine da_nil <| dcall_len (.own p _) (.lst _) ?_
          refine de_callB call_len_seq (by rfl) m3 boot_len <| da_cons <| dlc 13 scLIsLadder.nd <| di_list <| dv 6 <| .inl ⟨_, rfl, fun j acc s2 => acc = nsD ((l.take j).filter fun n' => decide (n' < t + 1)) ∧ st = s2, ⟨rfl, rfl⟩, ?_, ?_⟩
          · rintro j d acc s2 hd2 ⟨rfl, rfl⟩
            obtain ⟨n', hn', rfl⟩ := nsD_get hd2
            refine ⟨by unfold nsD; rw [List.length_map]; exact lc hl4 j _, fun s0 H0 C cl fp => dt_cmp op_lt (nomark _) <| dv 13 <| dv 12 <| dop_I0 rfl ⟨_, rfl, fun e => ?_, fun e => ?_⟩⟩
            · have e1 : n' < t + 1 := by have := of_decide_eq_true e; omega
              refine fun s0 H0 C cl fp => dv 13 ⟨_, .dat .nil, rfl, ?_, rfl⟩
              unfold nsD
              rw [List.take_add_one, hn', List.filter_append, List.map_append]
              simp [e1]
            · have e1 : ¬ n' < t + 1 := fun z => of_decide_eq_false e (by omega)
              refine ⟨rfl, ?_, rfl⟩
              unfold nsD
              rw [List.take_add_one, hn', List.filter_append, List.map_append]
              simp [e1]
          rintro acc s2 ⟨rfl, rfl⟩ p2
          have t1 : sp.take (nsD sp).length = sp := by rw [nsD_len, List.take_length]
          have t2 : l.take (nsD l).length = l := by rw [nsD_len, List.take_length]
          rw [t1, t2]
          refine da_nil <| dcall_len (.own p2 _) (.lst _) <| dop_I0 rfl ⟨_, rfl, fun e => ?_, fun e => ?_⟩
          · have e1 : ¬ upTo sp (t + 1) ≤ below l (t + 1) := fun z => by
              have e2 := of_decide_eq_true e
              rw [nsD_len, nsD_len] at e2
              unfold upTo below at z
              omega
            refine fun s0 H0 C cl fp => de_int ⟨_, .dat .nil, rfl, ?_, rfl⟩
            rw [List.range_succ, List.filter_append, List.map_append, List.filter_cons_of_pos (by rw [decide_eq_false e1]; rfl)]
            rfl
          · have e1 : upTo sp (t + 1) ≤ below l (t + 1) := by
              have e2 := of_decide_eq_false e
              rw [nsD_len, nsD_len] at e2
              unfold upTo below
              omega
            refine ⟨rfl, ?_, rfl⟩
            rw [List.range_succ, List.filter_append, List.filter_cons_of_neg (by rw [decide_eq_true e1]; simp)]
            simp
        · rintro acc s2 ⟨rfl, rfl⟩ p
          rw [ints_len]
          refine de_lst <| da_nil ⟨_, .nil, by simp, fun p0 => dop_neD (.own p _) (.own p0 _) (ones_ok _) (by decide) ⟨_, rfl, ?_, rfl, rfl⟩⟩
          rw [eqv_empty, ones_none, follows_far hsp]
          rfl
    rintro b' ρ' s' ⟨rfl, rfl, rfl⟩
    refine ⟨fun e => ?_, fun e => db_nil ?_⟩
    · have e19 : follows ah sp = false := by simpa using e
      have e14 : climbs none (ts.map natsOf) (turned other) = false := by rw [hcl, e19]; rfl
      exact db_one (ds_ret <| de_bl ⟨_, .dat _, by rw [e14] at h; exact h⟩)
    have e19 : follows ah sp = true := by simpa using e
    rw [e19, Bool.true_and] at hcl
    refine db_one (dset 6 scLIsLadder.nd <| dv 11 ⟨some sp, _, _, _, _, rfl, rfl, ?_, hcl⟩)
    intro l' e20
    cases e20
    exact hsl
  · rintro ρ s ⟨ah, s7, s8, s9, s11, rfl, rfl, hah, hcl⟩
    rw [show (enumD 0 (nsD (turned other))).length = (turned other).length by rw [enumD_len, nsD_len], List.drop_length] at hcl
    have e14 : climbs none (ts.map natsOf) (turned other) = true := by
      rw [hcl]
      unfold climbs
      split <;> first | rfl | contradiction
    exact db_one (ds_ret <| de_bl ⟨_, .dat _, by rw [e14] at h; exact h⟩)
theorem ok_lis_ladder (D : Df K mg "_law_is_ladder" sLIsLadder ["one", "other", "whole", "thing"]) (C1 : Cal P w K mg base "_law_is_shape" sLIsShape ["thing"] 2 fLIsShape) (C2 : Cal P w K mg base "_law_turned_shape" sLTurned ["shape"] 1 fTurned) (m1 : mg "isinstance" = none) (m2 : mg "tuple" = none) (m3 : mg "len" = none) (m4 : mg "range" = none) (m5 : mg "enumerate" = none) :
    Cal P w K mg base "_law_is_ladder" sLIsLadder ["one", "other", "whole", "thing"] 3 fLIsLadder := by
  refine cal_of D scLIsLadder (by rintro _ _ _ _ _ ⟨_, _, _, _, _, rfl, _⟩; rfl) fun f cdv A outer s1 H E c hr tk hp ss st k h => ?_
  obtain ⟨one, whole, x, l, th, rfl, h4, hx, hl, hok, h⟩ := h
  refine db_cons (dset 4 scLIsLadder.nd <| dc_call C2 (hr.mono (by decide)) tk <| da_cons <| dv 1 <| da_nil fun A => ⟨x, l, rfl, by omega, by omega, ?_⟩)
  refine db_cons (ds_if <| dt_imp (kb' := fun b ρ' s' => b = (!pre3 one.length ((turned (x :: l)).length + 1) th) ∧ ρ' = [.dat (.tuple (nsD one)), .dat (.tuple (nsD (x :: l))), .dat (.tuple (nsD whole)), .dat th, .dat (.tuple (nsD (turned (x :: l)))), .any, .any, .any, .any, .any, .any, .any, .any, .any] ∧ st = s') ?_ ?_)
  · refine dt_w <| dw_or <| dt_not <| dt_val <| de_callB call_isi (by rfl) m1 boot_isinstance <| da_cons <| dv 3 <| da_cons <| de_bltn (v := .ty "tuple") m2 boot_tuple rfl <| da_nil <| dcall_isi (kit_tuple th) ⟨_, rfl, ⟨fun e => ⟨?_, rfl, rfl⟩, fun e => ?_⟩⟩
    · cases th <;> first | rfl | cases e
    obtain ⟨ts, rfl⟩ : ∃ ts, th = .tuple ts := by
      cases th <;> first | exact ⟨_, rfl⟩ | cases e
    obtain ⟨hk, hsz⟩ := hok rfl
    have hszA : szA ts + 1 ≤ 1000 := by
      have e : szD (.tuple ts) = szA ts + 1 := by simp [szD]
      omega
    have hlen := lenA ts
    refine dw_or <| dt_cmp op_ne (nomark _) <| de_callB call_len_seq (by rfl) m3 boot_len <| da_cons <| dv 3 <| da_nil <| dcall_len (.dat _) (.tup _) <| de_bin op_add <| de_callB call_len_seq (by rfl) m3 boot_len <| da_cons <| dv 4 <| da_nil <| dcall_len (.dat _) (.tup _) <| de_int <| dop_I0 rfl <| dop_ne (x := .int _) (y := .int _) rfl rfl rfl ⟨_, rfl, ⟨fun e4 => ⟨?_, rfl, rfl⟩, fun e4 => ?_⟩⟩
    · have e5 : ¬ ts.length = (turned (x :: l)).length + 1 := fun z => by
        have e8 : decide (V.int (ts.length : Int) = V.int (((nsD (turned (x :: l))).length : Int) + 1)) = false := by simpa using e4
        exact of_decide_eq_false e8 (by rw [z, nsD_len]; rfl)
      show true = !(decide (ts.length = (turned (x :: l)).length + 1) && ts.all (goodE one.length))
      rw [decide_eq_false e5]
      rfl
    have e5 : ts.length = (turned (x :: l)).length + 1 := by
      have e8 : decide (V.int (ts.length : Int) = V.int (((nsD (turned (x :: l))).length : Int) + 1)) = true := by simpa using e4
      have := V.int.inj (of_decide_eq_true e8)
      rw [nsD_len] at this
      omega
    refine dw_or1 <| dt_cmp (op_neD hr.units) (nomark _) <| dlc 5 scLIsLadder.nd <| di_tup <| dv 3 ⟨_, rfl, fun i acc s => acc = ((ts.take i).filter fun x => !goodE one.length x).map (fun _ => PyData.int 1) ∧ st = s, ⟨rfl, rfl⟩, ?_, ?_⟩
    · rintro i y acc s hd ⟨rfl, rfl⟩
      have hy := List.mem_of_getElem? hd
      have hyok : tupOk y := fun _ => ⟨ok_kids hk y hy, by have := sz_mem hy; omega⟩
      refine ⟨?_, fun s0 H0 C cl fp => dt_imp (kb' := fun b ρ' s' => b = (!goodE one.length y) ∧ ρ' = [.dat (.tuple (nsD one)), .dat (.tuple (nsD (x :: l))), .dat (.tuple (nsD whole)), .dat (.tuple ts), .dat (.tuple (nsD (turned (x :: l)))), .dat y, .any, .any, .any, .any, .any, .any, .any, .any] ∧ st = s') ?_ ?_⟩
      · rw [List.length_map]
        refine Nat.lt_of_le_of_lt (List.length_filter_le _ _) ?_
        rw [List.length_take]
        omega
      · refine dt_w <| dw_or <| dt_not <| dt_val <| dc_call C1 hr LamX.takes0 <| da_cons <| dv 5 <| da_nil fun A => ⟨y, rfl, hyok, isShape y, rfl, ⟨fun e6 => ⟨?_, rfl, rfl⟩, fun e6 => ?_⟩⟩
        · have e7 : isShape y = false := by simpa using e6
          unfold goodE
          rw [e7]
          rfl
        have e7 : isShape y = true := by simpa using e6
        obtain ⟨ds, rfl⟩ := shape_tup e7
        refine dw_or1 <| dt_cmp op_ne (nomark _) <| de_callB call_len_seq (by rfl) m3 boot_len <| da_cons <| dv 5 <| da_nil <| dcall_len (.dat _) (.tup _) <| de_callB call_len_seq (by rfl) m3 boot_len <| da_cons <| dv 0 <| da_nil <| dcall_len (.dat _) (.tup _) <| dop_ne (x := .int _) (y := .int _) rfl rfl rfl ⟨_, rfl, ?_, rfl, rfl⟩
        unfold goodE
        rw [e7, Bool.true_and]
        show (!decide (V.int (ds.length : Int) = V.int ((nsD one).length : Int))) = !decide (ds.length = one.length)
        congr 1
        refine decide_eq_decide.mpr ⟨fun z => ?_, fun z => ?_⟩
        · have := V.int.inj z
          rw [nsD_len] at this
          exact Int.ofNat.inj this
        · rw [nsD_len, z]
      · rintro b ρ' s' ⟨rfl, rfl, rfl⟩
        refine ⟨fun e6 s0 H0 C cl fp => de_int ⟨_, .dat .nil, rfl, ?_, rfl⟩, fun e6 => ⟨rfl, ?_, rfl⟩⟩
        · rw [List.take_add_one, hd, List.filter_append]
          simp [e6]
        · rw [List.take_add_one, hd, List.filter_append]
          simp [e6]
    · rintro acc s ⟨rfl, rfl⟩ p
      rw [List.take_length]
      refine de_lst <| da_nil ⟨_, .nil, by simp, fun p0 => dop_neD (.own p _) (.own p0 _) (ones_ok _) (by decide) ⟨_, rfl, ?_, rfl, rfl⟩⟩
      rw [eqv_empty, no_bad2]
      show _ = !(decide (ts.length = (turned (x :: l)).length + 1) && ts.all (goodE one.length))
      rw [decide_eq_true e5, Bool.true_and]
  rintro b ρ' s' ⟨rfl, rfl, rfl⟩
  refine ⟨fun e => ?_, fun e => db_nil ?_⟩
  · have e2 := isLadder_pre (whole := whole) (show pre3 one.length ((turned (x :: l)).length + 1) th = false by simpa using e)
    exact db_one (ds_ret <| de_bl ⟨_, .dat _, by rw [e2] at h; exact h⟩)
  have e2 : pre3 one.length ((turned (x :: l)).length + 1) th = true := by simpa using e
  obtain ⟨ts, rfl⟩ : ∃ ts, th = .tuple ts := by
    cases th <;> first | exact ⟨_, rfl⟩ | cases e2
  have e3 : (decide (ts.length = (turned (x :: l)).length + 1) && ts.all (goodE one.length)) = true := e2
  rw [Bool.and_eq_true, all_good, Bool.and_eq_true] at e3
  obtain ⟨e4, e5, e6⟩ := e3
  have e4 := of_decide_eq_true e4
  obtain ⟨t0, r, rfl⟩ : ∃ t0 r, ts = t0 :: r := by
    cases ts with
    | nil => cases e4
    | cons t0 r => exact ⟨t0, r, rfl⟩
  have sh : ∀ t ∈ t0 :: r, isShape t = true := fun t ht => List.all_eq_true.mp e5 t ht
  have okS : ∀ t ∈ t0 :: r, SeqAt.shaped t = true := fun t ht => by rw [shape_nats (sh t ht)]; exact shaped_ok (ok_nsD _)
  have eL : (t0 :: r).getLastD .none = (t0 :: r).getLast (List.cons_ne_nil _ _) := by simp [List.getLastD_eq_getLast?, List.getLast?_eq_getLast (List.cons_ne_nil t0 r)]
  have hlast : L2.atI (t0 :: r) (-1) = some ((t0 :: r).getLastD .none) := by
    have e9 : (t0 :: r) = (t0 :: r).dropLast ++ [(t0 :: r).getLast (List.cons_ne_nil _ _)] := (List.dropLast_concat_getLast (List.cons_ne_nil _ _)).symm
    rw [eL]
    conv => lhs; rw [e9]
    exact atI_last _ _
  have hlm : (t0 :: r).getLastD .none ∈ t0 :: r := by
    rw [eL]
    exact List.getLast_mem _
  rw [isLadder_post e2] at h
  refine db_cons (ds_if <| dt_w <| dw_or <| dt_cmp (op_neD hr.units) (nomark _) <| de_ix ix_tup <| dv 3 <| de_int <| dop_ixT (d := t0) (atI_nat (j := 0) rfl) <| dv 0 <| dop_neD (.dat _) (.dat _) (okS t0 List.mem_cons_self) (shaped_ok (ok_nsD _)) ⟨_, rfl, ⟨fun e8 => ⟨fun _ => ?_, fun z => nomatch z⟩, fun e8 => ?_⟩⟩)
  · have e9 : PyData.eqv ((t0 :: r).headD .none) (.tuple (nsD one)) = false := by simpa using e8
    exact db_one (ds_ret <| de_bl ⟨_, .dat _, by rw [e9] at h; exact h⟩)
  have e9 : PyData.eqv ((t0 :: r).headD .none) (.tuple (nsD one)) = true := by simpa using e8
  rw [e9, Bool.true_and] at h
  refine dw_or1 <| dt_cmp (op_neD hr.units) (nomark _) <| de_ix ix_tup <| dv 3 <| de_neg <| de_int ⟨_, rfl, dop_ixT (d := (t0 :: r).getLastD .none) hlast <| dv 2 <| dop_neD (.dat _) (.dat _) (okS _ hlm) (shaped_ok (ok_nsD _)) ⟨_, rfl, ⟨fun e10 => ?_, fun e10 => db_nil ?_⟩⟩⟩
  · have e11 : PyData.eqv ((t0 :: r).getLastD .none) (.tuple (nsD whole)) = false := by simpa using e10
    exact db_one (ds_ret <| de_bl ⟨_, .dat _, by rw [e11] at h; exact h⟩)
  have e11 : PyData.eqv ((t0 :: r).getLastD .none) (.tuple (nsD whole)) = true := by simpa using e10
  rw [e11, Bool.true_and] at h
  exact lad_loop hr tk hp m3 m4 m5 h4 (by rw [turned_len]; exact hx) e2 h
end
end K33

namespace K33
open PySem PySem.Spec PyProof.Rows L2 DL LH
abbrev sClimbs : Stmt := topS 44
theorem scClimbs : FnScope ["shapes", "late", "last", "low", "high", "spots", "far", "spot"] ["shapes", "late"] (defScope sClimbs) := ⟨rfl, rfl, rfl, by decide +kernel, rfl, by decide +kernel, by decide +kernel⟩
theorem atI_two {α : Type} (r : List α) (a b : α) : L2.atI (r ++ [a, b]) (-2) = some a := by
  unfold L2.atI
  have e : L2.ixN (r ++ [a, b]).length (-2) = some r.length := by
    unfold L2.ixN
    rw [List.length_append]
    simp
    omega
  rw [e]
  show (r ++ [a, b])[r.length]? = some a
  rw [List.getElem?_append_right (Nat.le_refl _), Nat.sub_self]
  rfl
theorem atI_one {α : Type} (r : List α) (a b : α) : L2.atI (r ++ [a, b]) (-1) = some b := by
  rw [show r ++ [a, b] = (r ++ [a]) ++ [b] by simp]
  exact atI_last _ _
theorem two_back {α : Type} {l : List α} (h : 2 ≤ l.length) : ∃ r a b, l = r ++ [a, b] := by
  have h1 : l ≠ [] := fun z => by rw [z] at h; simp at h
  have e1 := List.dropLast_concat_getLast h1
  have h2 : l.dropLast ≠ [] := fun z => by rw [z] at e1; rw [← e1] at h; simp at h
  have e2 := List.dropLast_concat_getLast h2
  exact ⟨l.dropLast.dropLast, l.dropLast.getLast h2, l.getLast h1, e1.symm.trans (by conv => lhs; rw [← e2]; simp)⟩
section
variable {P : Program} {w : World} {K : PySem.W.Frag} {mg : Str → Option Value} {base : Heap}
def fClimbs : Pd := fun m ss st k xk => ∃ (shs : List (List Nat)) (late : List Nat), ss = [.dat (.tuple (rowsD shs)), .dat (.tuple (nsD late))] ∧ (∀ l ∈ shs, l.length ≤ 4) ∧ late.length ≤ 4 ∧ ∀ b, k (.dat (.bool b)) st
theorem ok_climbs (D : Df K mg "_law_climbs" sClimbs ["shapes", "late"]) (m1 : mg "len" = none) (m2 : mg "zip" = none) (m3 : mg "range" = none) : Cal P w K mg base "_law_climbs" sClimbs ["shapes", "late"] 1 fClimbs := by
  refine cal_of D scClimbs (by rintro _ _ _ _ _ ⟨_, _, rfl, _⟩; rfl) fun f cdv A outer s1 H E c hr tk hp ss st k h => ?_
  obtain ⟨shs, late, rfl, h4, hl4, h⟩ := h
  refine db_cons (ds_if <| dt_cmp op_lt (nomark _) <| de_callB call_len_seq (by rfl) m1 boot_len <| da_cons <| dv 0 <| da_nil <| dcall_len (.dat _) (.tup _) <| de_int <| dop_I0 rfl ⟨_, rfl, fun e => ?_, fun e => db_nil ?_⟩)
  · exact db_one (ds_ret <| de_bl ⟨_, .dat _, h true⟩)
  have e1 := of_decide_eq_false e
  rw [rowsD_len] at e1
  obtain ⟨r, a, b, rfl⟩ := two_back (l := shs) (by omega)
  have ha : a.length ≤ 4 := h4 a (by simp)
  have hb : b.length ≤ 4 := h4 b (by simp)
  have er : rowsD (r ++ [a, b]) = rowsD r ++ [.tuple (nsD a), .tuple (nsD b)] := by rw [rowsD_app]; rfl
  have i2 : L2.atI (rowsD (r ++ [a, b])) (-2) = some (.tuple (nsD a)) := by rw [er]; exact atI_two _ _ _
  have i1 : L2.atI (rowsD (r ++ [a, b])) (-1) = some (.tuple (nsD b)) := by rw [er]; exact atI_one _ _ _
  refine db_cons (dset 2 scClimbs.nd <| dlc2 3 4 scClimbs.nd <| di_zipT m2 <| de_ix ix_tup <| dv 0 <| de_neg <| de_int ⟨_, rfl, dop_ixT i2 <| de_ix ix_tup <| dv 0 <| de_neg <| de_int ⟨_, rfl, dop_ixT i1 ⟨_, _, rfl, rfl, fun q d hd4 => ?_, fun q acc s2 => (∃ l, acc = nsD l ∧ l.length ≤ q) ∧ st = s2, ⟨⟨[], rfl, Nat.le_refl _⟩, rfl⟩, ?_, ?_⟩⟩⟩)
  · obtain ⟨x, y, _, _, rfl⟩ := zipD_get hd4
    exact ⟨x, y, rfl⟩
  · rintro q d1 d2 acc s2 hd4 ⟨⟨l, rfl, hl⟩, rfl⟩
    obtain ⟨x, y, hx, hy, e⟩ := zipD_get hd4
    cases e
    obtain ⟨x, hx', rfl⟩ := nsD_get hx
    obtain ⟨y, hy', rfl⟩ := nsD_get hy
    have := (List.getElem?_eq_some_iff.mp hx').1
    refine ⟨by rw [nsD_len]; omega, fun s0 H0 C cl fp => dt_cmp op_gt (nomark _) <| dv 4 <| dv 3 <| dop_I0 rfl ⟨_, rfl, fun e => ?_, fun e => ⟨rfl, ⟨l, rfl, by omega⟩, rfl⟩⟩⟩
    exact fun s0 H0 C cl fp => dv 4 ⟨_, .dat .nil, rfl, ⟨l ++ [y], by unfold nsD; rw [List.map_append]; rfl, by rw [List.length_append, List.length_singleton]; omega⟩, rfl⟩
  rintro acc s2 ⟨⟨last, rfl, hlast⟩, rfl⟩ p2
  have hlast4 : last.length ≤ 4 := by rw [zipD_len, nsD_len, nsD_len] at hlast; omega
  refine db_freeze 2 rfl ?_
  refine db_cons (dset 5 scClimbs.nd <| dlc2 3 4 scClimbs.nd <| di_zipT m2 <| de_ix ix_tup <| dv 0 <| de_neg <| de_int ⟨_, rfl, dop_ixT i1 <| dv 1 ⟨_, _, rfl, rfl, fun q d hd4 => ?_, fun q acc s2 => (∃ l, acc = nsD l ∧ l.length ≤ q) ∧ st = s2, ⟨⟨[], rfl, Nat.le_refl _⟩, rfl⟩, ?_, ?_⟩⟩)
  · obtain ⟨x, y, _, _, rfl⟩ := zipD_get hd4
    exact ⟨x, y, rfl⟩
  · rintro q d1 d2 acc s2 hd4 ⟨⟨l, rfl, hl⟩, rfl⟩
    obtain ⟨x, y, hx, hy, e⟩ := zipD_get hd4
    cases e
    obtain ⟨x, hx', rfl⟩ := nsD_get hx
    obtain ⟨y, hy', rfl⟩ := nsD_get hy
    have := (List.getElem?_eq_some_iff.mp hx').1
    refine ⟨by rw [nsD_len]; omega, fun s0 H0 C cl fp => dt_cmp op_gt (nomark _) <| dv 4 <| dv 3 <| dop_I0 rfl ⟨_, rfl, fun e => ?_, fun e => ⟨rfl, ⟨l, rfl, by omega⟩, rfl⟩⟩⟩
    exact fun s0 H0 C cl fp => dv 4 ⟨_, .dat .nil, rfl, ⟨l ++ [y], by unfold nsD; rw [List.map_append]; rfl, by rw [List.length_append, List.length_singleton]; omega⟩, rfl⟩
  rintro acc s2 ⟨⟨sp, rfl, hsp⟩, rfl⟩ p5
  have hsp4 : sp.length ≤ 4 := by rw [zipD_len, nsD_len, nsD_len] at hsp; omega
  refine db_freeze 5 rfl ?_
  refine db_one (ds_ret <| de_cmp (op_eqD hr.units) (nomark _) <| dlc 6 scClimbs.nd <| di_range2 m3 <| de_int ⟨_, rfl, de_int ⟨_, rfl, ⟨by decide, by decide, by decide, by decide⟩, ?_⟩⟩)
  refine ⟨fun t acc s2 => (∃ l : List Nat, acc = l.map (fun _ => PyData.int 1) ∧ l.length ≤ t) ∧ st = s2, ⟨⟨[], rfl, Nat.le_refl _⟩, rfl⟩, ?_, ?_⟩
  · rintro t d acc s2 hd2 ⟨⟨g, rfl, hg⟩, rfl⟩
    obtain ⟨ht, rfl⟩ := ints_get hd2
    have : ((50 : Int) - 1).toNat = 49 := rfl
    refine ⟨?_, fun s0 H0 C cl fp => dt_cmp op_gt (nomark _) <| de_callB call_len_seq (by rfl) m1 boot_len <| da_cons <| dlc 7 scClimbs.nd <| di_list <| dv 5 <| .inl ⟨_, rfl, fun j acc s2 => (∃ l, acc = nsD l ∧ l.length ≤ j) ∧ st = s2, ⟨⟨[], rfl, Nat.le_refl _⟩, rfl⟩, ?_, ?_⟩⟩
    · rw [List.length_map]
      omega
    · rintro j d acc s2 hd2 ⟨⟨l, rfl, hl⟩, rfl⟩
      obtain ⟨n', hn', rfl⟩ := nsD_get hd2
      have := (List.getElem?_eq_some_iff.mp hn').1
      refine ⟨by rw [nsD_len]; omega, fun s0 H0 C cl fp => dt_cmp op_le (nomark _) <| dv 7 <| dv 6 <| dop_I0 rfl ⟨_, rfl, fun e => ?_, fun e => ⟨rfl, ⟨l, rfl, by omega⟩, rfl⟩⟩⟩
      exact fun s0 H0 C cl fp => dv 7 ⟨_, .dat .nil, rfl, ⟨l ++ [n'], by unfold nsD; rw [List.map_append]; rfl, by rw [List.length_append, List.length_singleton]; omega⟩, rfl⟩
    rintro acc s2 ⟨⟨u1, rfl, hu1⟩, rfl⟩ p
    refine da_nil <| dcall_len (.own p _) (.lst _) ?_
    refine de_callB call_len_seq (by rfl) m1 boot_len <| da_cons <| dlc 7 scClimbs.nd <| di_list <| dv 2 <| .inl ⟨_, rfl, fun j acc s2 => (∃ l, acc = nsD l ∧ l.length ≤ j) ∧ st = s2, ⟨⟨[], rfl, Nat.le_refl _⟩, rfl⟩, ?_, ?_⟩
    · rintro j d acc s2 hd2 ⟨⟨l, rfl, hl⟩, rfl⟩
      obtain ⟨n', hn', rfl⟩ := nsD_get hd2
      have := (List.getElem?_eq_some_iff.mp hn').1
      refine ⟨by rw [nsD_len]; omega, fun s0 H0 C cl fp => dt_cmp op_lt (nomark _) <| dv 7 <| dv 6 <| dop_I0 rfl ⟨_, rfl, fun e => ?_, fun e => ⟨rfl, ⟨l, rfl, by omega⟩, rfl⟩⟩⟩
      exact fun s0 H0 C cl fp => dv 7 ⟨_, .dat .nil, rfl, ⟨l ++ [n'], by unfold nsD; rw [List.map_append]; rfl, by rw [List.length_append, List.length_singleton]; omega⟩, rfl⟩
    rintro acc s2 ⟨⟨u2, rfl, hu2⟩, rfl⟩ p'
    refine da_nil <| dcall_len (.own p' _) (.lst _) <| dop_I0 rfl ⟨_, rfl, fun e => ?_, fun e => ⟨rfl, ⟨g, rfl, by omega⟩, rfl⟩⟩
    refine fun s0 H0 C cl fp => de_int ⟨_, .dat .nil, rfl, ⟨g ++ [0], ?_, ?_⟩, rfl⟩
    · rw [List.map_append]
      rfl
    · rw [List.length_append, List.length_singleton]
      omega
  · rintro acc s2 ⟨⟨g, rfl, hg⟩, rfl⟩ p
    exact de_lst <| da_nil ⟨_, .nil, by simp, fun p0 => dop_eqD (.own p _) (.own p0 _) (ones_ok _) (by decide) ⟨_, .dat _, h _⟩⟩
end
end K33

namespace K33
open PySem PySem.Spec PyProof.Rows L2 DL LH
abbrev sLadders : Stmt := topS 43
theorem scLadders : FnScope ["one", "other", "whole", "lots", "at", "many", "late", "shapes", "lot", "grown_v", "to", "shape", "low", "more", "is_next", "high"] ["one", "other", "whole"] (defScope sLadders) := ⟨rfl, rfl, rfl, by decide +kernel, rfl, by decide +kernel, by decide +kernel⟩
/-- rows of shapes, all of one length -/
def LadD (n len : Nat) (ds : List PyData) : Prop := ∀ d ∈ ds, ∃ shs : List (List Nat), d = .tuple (rowsD shs) ∧ shs.length = len ∧ ∀ l ∈ shs, Shp 24 n l
theorem dep_rows (l : List (List Nat)) : (PyData.tuple (rowsD l)).depth ≤ 2 := by
  rw [PyData.depth]
  have : PyData.depthAll (rowsD l) ≤ 1 := depthAll_le.mpr fun x hx => by
    obtain ⟨r, _, rfl⟩ := List.mem_map.mp hx
    rw [PyData.depth]
    have : PyData.depthAll (nsD r) ≤ 0 := depthAll_le.mpr fun y hy => by
      obtain ⟨n, _, rfl⟩ := List.mem_map.mp hy
      exact Nat.le_refl _
    omega
  omega
theorem alikeRows : ∀ a b : List (List Nat), PySem.W.alikeAll (rowsD a) (rowsD b) = true
  | [], _ => by simp [PySem.W.alikeAll, rowsD]
  | _ :: _, [] => by simp [PySem.W.alikeAll, rowsD]
  | x :: a, y :: b => by
    show PySem.W.alikeAll (PyData.tuple (nsD x) :: rowsD a) (PyData.tuple (nsD y) :: rowsD b) = true
    rw [PySem.W.alikeAll, alikeRows a b, PySem.W.alike, alikeNs]
    rfl
theorem srtsLad {n len : Nat} {ds : List PyData} (h : LadD n (len + 1) ds) (hl : ds.length ≤ 16000000) : Srts ds where
  al := fun d hd d' hd' => by
    obtain ⟨a, rfl, _⟩ := h d hd
    obtain ⟨b, rfl, _⟩ := h d' hd'
    show PySem.W.alike (.tuple (rowsD a)) (.tuple (rowsD b)) = true
    rw [PySem.W.alike]
    exact alikeRows a b
  ok := .inl fun d hd => by
    obtain ⟨a, rfl, ha, _⟩ := h d hd
    cases a with
    | nil => simp at ha
    | cons x l => exact ⟨.tuple (nsD x), rowsD l, rfl⟩
  len := hl
  dep := fun d hd => by
    obtain ⟨a, rfl, _⟩ := h d hd
    exact Nat.le_trans (dep_rows a) (by decide)
  can := canAll_iff.mpr fun d hd => by
    obtain ⟨a, rfl, _⟩ := h d hd
    exact (ok_rowsT a).1
theorem szA_nsD : ∀ l : List Nat, szA (nsD l) = l.length
  | [] => rfl
  | x :: l => by
    show szA (nD x :: nsD l) = _
    rw [szA, szA_nsD l, List.length_cons]
    have : szD (nD x) = 1 := by simp [szD, nD]
    omega
theorem tup_nsD {l : List Nat} (h : l.length ≤ 100) : tupOk (.tuple (nsD l)) := fun _ => ⟨ok_nsD l, by
  have e : szD (.tuple (nsD l)) = szA (nsD l) + 1 := by simp [szD]
  rw [e, szA_nsD]
  omega⟩
theorem flat_nsD (l : List Nat) : (nsD l).all flat1 = true := List.all_eq_true.mpr fun x hx => by
  obtain ⟨n, _, rfl⟩ := List.mem_map.mp hx
  rfl
theorem at_le (l : List Nat) (m : Nat) : atLeast l m ≤ l.length := List.length_filter_le _ _
section
variable {P : Program} {w : World} {K : PySem.W.Frag} {mg : Str → Option Value} {base : Heap}
def fLadders : Pd := fun m ss st k xk => ∃ (n : Nat) (one other whole : List Nat), ss = [.dat (.tuple (nsD one)), .dat (.tuple (nsD other)), .dat (.tuple (nsD whole))] ∧ 1 ≤ n ∧ n ≤ 4 ∧ Shp 9 n one ∧ Shp 9 n other ∧ Shp 19 n whole ∧ ∀ (ds : List PyData) (len : Nat), LadD n (len + 1) ds → len ≤ 9 → ds.length ≤ 15000000 → k (.dat (.list ds)) st
theorem ok_ladders (D : Df K mg "_law_ladders" sLadders ["one", "other", "whole"]) (C1 : Cal P w K mg base "_law_is_shape" sLIsShape ["thing"] 2 fLIsShape) (C2 : Cal P w K mg base "_law_turned_shape" sLTurned ["shape"] 1 fTurned) (C3 : Cal P w K mg base "_law_sets" sSets ["size", "many"] 1 fSets) (C4 : Cal P w K mg base "_law_climbs" sClimbs ["shapes", "late"] 1 fClimbs)
    (m1 : mg "tuple" = none) (m2 : mg "len" = none) (m3 : mg "range" = none) (m4 : mg "enumerate" = none) (m5 : mg "int" = none) (m6 : mg "zip" = none) (m7 : mg "sorted" = none) :
    Cal P w K mg base "_law_ladders" sLadders ["one", "other", "whole"] 3 fLadders := by
  refine cal_of D scLadders (by rintro _ _ _ _ _ ⟨_, _, _, _, rfl, _⟩; rfl) fun f cdv A outer s1 H E c hr tk hp ss st k h => ?_
  obtain ⟨n, one, other, whole, rfl, h1, h4, ho, ht, hw, h⟩ := h
  have hu := hr.units
  obtain ⟨x, l, rfl⟩ : ∃ x l, other = x :: l := by
    cases other with
    | nil => have := ht.1; simp at this; omega
    | cons x l => exact ⟨x, l, rfl⟩
  have hx9 : x ≤ 9 := ht.2.2 x List.mem_cons_self
  have hll : l.length ≤ 3 := by have := ht.1; rw [List.length_cons] at this; omega
  have cap : ∀ i, i ≤ 9 → 6 ^ i ≤ 10077696 := fun i hi => Nat.le_trans (Nat.pow_le_pow_right (by decide) hi) (by decide)
  refine db_cons (dset 3 scLadders.nd <| de_lst <| da_cons <| de_tup <| da_cons <| de_callTy call_tuple_of (by rfl) m1 boot_tuple <| da_cons <| dv 0 <| da_nil <| dcall_tuple (.dat _) (.tup _) <| da_nil ⟨_, .dat .nil, by simp, da_nil ⟨_, .dat .nil, by simp, fun p0 => ?_⟩⟩)
  refine db_cons (ds_for hp rfl <| di_enumT m4 <| dc_call C2 (hr.mono (by decide)) tk <| da_cons <| dv 1 <| da_nil fun A => ⟨x, l, rfl, by omega, by omega, ⟨_, rfl, fun i ρ s => ∃ s3 s4 s5 s6 s7 s8 s9 s11 s14 ds, ρ = [.dat (.tuple (nsD one)), .dat (.tuple (nsD (x :: l))), .dat (.tuple (nsD whole)), s3, s4, s5, s6, s7, s8, s9, .any, s11, .any, .any, s14, .any] ∧ AsL s3 ds ∧ LadD n (i + 1) ds ∧ ds.length ≤ 6 ^ i ∧ st = s, ⟨_, _, _, _, _, _, _, _, _, _, rfl, .inr ⟨p0, rfl⟩, ?_, by simp, rfl⟩, ?_, ?_⟩⟩)
  · intro d hd
    rw [List.mem_singleton.mp hd]
    exact ⟨[one], rfl, rfl, fun l' hl' => by rw [List.mem_singleton.mp hl']; exact ⟨ho.1, ho.2.1, fun y hy => Nat.le_trans (ho.2.2 y hy) (by decide)⟩⟩
  · rintro i d ρ s hd ⟨s3, s4, s5, s6, s7, s8, s9, s11, s14, ds, rfl, hs3, hlad, hlen, rfl⟩
    obtain ⟨mm, hmm, rfl⟩ := enumD_get hd
    obtain ⟨m, hm, rfl⟩ := nsD_get hmm
    have hi := (List.getElem?_eq_some_iff.mp hm).1
    rw [turned_len] at hi
    have hmn : m ≤ n := by
      unfold turned at hm
      obtain ⟨u, _, rfl⟩ := List.mem_map.mp (List.mem_of_getElem? hm)
      have := at_le (x :: l) (u + 1)
      rw [ht.1] at this
      exact this
    have capi := cap (i + 1) (by omega)
    have ep : 6 ^ (i + 1) = 6 * 6 ^ i := by rw [Nat.pow_succ, Nat.mul_comm]
    refine dg_tup rfl <| dgs_cons <| dgn 4 scLadders.nd <| dgs_cons <| dgn 5 scLadders.nd <| dgs_nil <| db_frz 3 hs3 rfl ?_
    refine db_cons (dset 6 scLadders.nd <| de_lst <| da_nil ⟨_, .nil, by simp, fun p6 => ?_⟩)
    refine db_cons (ds_for hp rfl <| di_list <| dv 3 <| .inl ⟨_, rfl, fun j ρ s => ∃ s7 s8 s9 s11 s14 fd, ρ = [.dat (.tuple (nsD one)), .dat (.tuple (nsD (x :: l))), .dat (.tuple (nsD whole)), .dat (.list ds), .dat (.int ((0 + i : Nat) : Int)), .dat (nD m), .own p6 fd, s7, s8, s9, .any, s11, .any, .any, s14, .any] ∧ LadD n (i + 2) fd ∧ fd.length ≤ 6 * j ∧ st = s, ⟨_, _, _, _, _, _, rfl, (fun _ z => nomatch z), Nat.le_refl _, rfl⟩, ?_, ?_⟩)
    · rintro j d ρ s hd2 ⟨s7, s8, s9, s11, s14, fd, rfl, hfd, hfl, rfl⟩
      have hj := (List.getElem?_eq_some_iff.mp hd2).1
      obtain ⟨shs, rfl, hsl, hss⟩ := hlad d (List.mem_of_getElem? hd2)
      obtain ⟨sh, hgl⟩ : ∃ sh, shs.getLast? = some sh := by
        cases e : shs.getLast? with
        | none => rw [List.getLast?_eq_none_iff.mp e] at hsl; simp at hsl
        | some b => exact ⟨b, rfl⟩
      have hsh := hss sh (List.mem_of_getLast? hgl)
      refine dgn 7 scLadders.nd ?_
      obtain ⟨f1, _, f3⟩ := sets_facts n (by simp; omega) m (by simp; omega)
      refine db_one (ds_for hp rfl <| di_list <| dc_call C3 (hr.mono (by decide)) tk <| da_cons <| de_callB call_len_seq (by rfl) m2 boot_len <| da_cons <| dv 0 <| da_nil <| dcall_len (.dat _) (.tup _) <| da_cons <| dv 5 <| da_nil fun A => ⟨n, m, ?_, h1, h4, hmn, .inl ⟨_, rfl, fun t ρ s => ∃ s8 s9 s11 s14 fd, ρ = [.dat (.tuple (nsD one)), .dat (.tuple (nsD (x :: l))), .dat (.tuple (nsD whole)), .dat (.list ds), .dat (.int ((0 + i : Nat) : Int)), .dat (nD m), .own p6 fd, .dat (.tuple (rowsD shs)), s8, s9, .any, s11, .any, .any, s14, .any] ∧ LadD n (i + 2) fd ∧ fd.length ≤ 6 * j + t ∧ st = s, ⟨_, _, _, _, _, rfl, hfd, hfl, rfl⟩, ?_, ?_⟩⟩)
      · rw [nsD_len, ho.1]
        rfl
      · rintro t d ρ s hd3 ⟨s8, s9, s11, s14, fd, rfl, hfd, hfl, rfl⟩
        have htl := (List.getElem?_eq_some_iff.mp hd3).1
        rw [List.length_map] at htl
        obtain ⟨lot, _, rfl⟩ := List.mem_map.mp (List.mem_of_getElem? hd3)
        refine dgn 8 scLadders.nd ?_
        refine db_cons (ds_lc 9 10 scLadders.nd <| di_range1 m3 <| de_callB call_len_seq (by rfl) m2 boot_len <| da_cons <| dv 0 <| da_nil <| dcall_len (.dat _) (.tup _) ⟨_, rfl, ?_, ?_, fun q acc s => (∃ g, acc = nsD g ∧ g.length = q) ∧ st = s, ⟨⟨[], rfl, rfl⟩, rfl⟩, ?_, ?_⟩)
        · omega
        · rw [nsD_len, ho.1]; omega
        · rintro q d acc s hd4 ⟨⟨g, rfl, hg⟩, rfl⟩
          obtain ⟨hq, rfl⟩ := ints_get hd4
          rw [nsD_len, ho.1] at hq
          refine ⟨by rw [nsD_len]; omega, fun _ s0 H0 C cl fp => ?_, fun z => nomatch z⟩
          refine de_callTy call_int1 (by rfl) m5 boot_int <| da_cons <| de_cmp op_in_seq (by rfl) <| dv 10 <| dv 8 <| dop_in (.dat _) (.tup _) rfl (flat_nsD lot) <| da_nil <| dcall_intB ⟨_, .dat .nil, rfl, ⟨g ++ [if inD (.int (0 + (q : Int))) (nsD lot) then 1 else 0], ?_, ?_⟩, rfl⟩
          · unfold nsD
            rw [List.map_append]
            cases inD (.int (0 + (q : Int))) (lot.map nD) <;> rfl
          · rw [List.length_append, List.length_singleton, hg]
        rintro acc s ⟨⟨g, rfl, hg⟩, rfl⟩ p9
        rw [ints_len, nsD_len, ho.1, show ((n : Int)).toNat = n by omega] at hg
        have hsg : sh.length = g.length := by rw [hsh.1, hg]
        refine db_freeze 9 rfl ?_
        refine db_cons (dset 11 scLadders.nd <| de_callTy call_tuple_of (by rfl) m1 boot_tuple <| da_cons <| dlc2 12 13 scLadders.nd <| di_zipM m6 <| de_ix ix_tup <| dv 7 <| de_neg <| de_int ⟨_, rfl, dop_ixT (last_rows hgl) <| dv 9 ⟨_, _, rfl, rfl, fun q d hd4 => ?_, fun q acc2 s2 => acc2 = nsD ((addL sh g).take q) ∧ st = s2, ⟨rfl, rfl⟩, ?_, ?_⟩⟩)
        · obtain ⟨u, v, _, _, rfl⟩ := zipD_get hd4
          exact ⟨u, v, rfl⟩
        · rintro q d1 d2 acc2 s2 hd4 ⟨rfl, rfl⟩
          obtain ⟨u, v, hu', hv', e⟩ := zipD_get hd4
          cases e
          obtain ⟨a, ha, rfl⟩ := nsD_get hu'
          obtain ⟨b, hb, rfl⟩ := nsD_get hv'
          refine ⟨by rw [nsD_len, List.length_take, addL_len hsg, hsh.1]; omega, fun _ s0 H0 C cl fp => ?_, fun z => nomatch z⟩
          refine de_bin op_add <| dv 12 <| dv 13 <| dop_I0 (i := (a : Int)) (j := (b : Int)) rfl ⟨_, .dat .nil, rfl, ?_, rfl⟩
          rw [add_take ha hb]
          unfold nsD
          rw [List.map_append]
          rfl
        rintro acc2 s2 ⟨rfl, rfl⟩ p11
        rw [zipD_len, nsD_len, nsD_len, hsg, Nat.min_self, List.take_of_length_le (l := addL sh g) (by rw [addL_len hsg, hsg]; exact Nat.le_refl _)]
        refine da_nil <| dcall_tuple (.own p11 _) (.lst _) ?_
        obtain ⟨nw, enw⟩ : ∃ nw, nw = addL sh g := ⟨_, rfl⟩
        have hnw : nw.length = n := by rw [enw, addL_len hsg, hsh.1]
        rw [← enw]
        refine db_cons (dset 14 scLadders.nd <| de_imp (k' := fun s' ρ' st' => ∃ b, s' = .dat (.bool b) ∧ (b = true → isShape (.tuple (nsD nw)) = true) ∧ ρ' = [.dat (.tuple (nsD one)), .dat (.tuple (nsD (x :: l))), .dat (.tuple (nsD whole)), .dat (.list ds), .dat (.int ((0 + i : Nat) : Int)), .dat (nD m), .own p6 fd, .dat (.tuple (rowsD shs)), .dat (.tuple (nsD lot)), .dat (.list (nsD g)), .any, .dat (.tuple (nsD nw)), .any, .any, s14, .any] ∧ st = st') ?_ ?_)
        · refine de_and <| dc_call C1 (hr.mono (by decide)) tk <| da_cons <| dv 11 <| da_nil fun A => ⟨_, rfl, tup_nsD (by omega), isShape (.tuple (nsD nw)), rfl, fun e => ?_, fun _ => ⟨false, rfl, (fun z => nomatch z), rfl, rfl⟩⟩
          refine de_one <| de_cmp (op_eqD hu) (nomark _) <| dlc2 12 15 scLadders.nd <| di_zipT m6 <| dv 11 <| dv 2 ⟨_, _, rfl, rfl, fun q d hd4 => ?_, fun q acc2 s2 => (∃ o : List Nat, acc2 = o.map (fun _ => PyData.int 1) ∧ o.length ≤ q) ∧ st = s2, ⟨⟨[], rfl, Nat.le_refl _⟩, rfl⟩, ?_, ?_⟩
          · obtain ⟨u, v, _, _, rfl⟩ := zipD_get hd4
            exact ⟨u, v, rfl⟩
          · rintro q d1 d2 acc2 s2 hd4 ⟨⟨o, rfl, hol⟩, rfl⟩
            obtain ⟨u, v, hu', hv', e⟩ := zipD_get hd4
            cases e
            obtain ⟨a, ha, rfl⟩ := nsD_get hu'
            obtain ⟨b, hb, rfl⟩ := nsD_get hv'
            have := (List.getElem?_eq_some_iff.mp ha).1
            refine ⟨by rw [List.length_map]; omega, fun s0 H0 C cl fp => dt_cmp op_gt (nomark _) <| dv 12 <| dv 15 <| dop_I0 (i := (a : Int)) (j := (b : Int)) rfl ⟨_, rfl, fun _ => ?_, fun _ => ⟨rfl, ⟨o, rfl, by omega⟩, rfl⟩⟩⟩
            refine fun s0 H0 C cl fp => de_int ⟨_, .dat .nil, rfl, ⟨o ++ [0], ?_, ?_⟩, rfl⟩
            · rw [List.map_append]
              rfl
            · rw [List.length_append, List.length_singleton]
              omega
          · rintro acc2 s2 ⟨⟨o, rfl, hol⟩, rfl⟩ p
            exact de_lst <| da_nil ⟨_, .nil, by simp, fun p0 => dop_eqD (.own p _) (.own p0 _) (ones_ok _) (by decide) ⟨_, rfl, fun _ => e, rfl, rfl⟩⟩
        · rintro s' ρ' st' ⟨b, rfl, hb, rfl, rfl⟩
          refine db_one (ds_if <| dt_w <| dw_and <| dt_val <| dv 14 ⟨b, rfl, fun e => ?_, fun _ => ⟨(fun z => nomatch z), fun _ => db_nil ⟨_, _, _, _, _, rfl, hfd, by omega, rfl⟩⟩⟩)
          refine dw_and1 <| dt_val <| dc_call C4 (hr.mono (by decide)) tk <| da_cons <| dv 7 <| da_cons <| dv 11 <| da_nil fun A => ⟨shs, nw, rfl, fun l' hl' => by rw [(hss l' hl').1]; exact h4, by omega, fun b2 => ⟨b2, rfl, fun _ => ?_, fun _ => db_nil ⟨_, _, _, _, _, rfl, hfd, by omega, rfl⟩⟩⟩
          refine db_one (ds_append (i := 6) rfl (.inl rfl) rfl <| de_bin op_catA <| dv 7 <| de_tup <| da_cons <| dv 11 <| da_nil ⟨_, .dat .nil, by simp, dop_catA (ds := rowsD shs) (es := [.tuple (nsD nw)]) (by rw [rowsD_len, hsl]; simp; omega) ⟨_, _, .dat .nil, rfl, ?_, ?_⟩⟩)
          · have : 6 * j + 6 ≤ 6 * 6 ^ i := by omega
            omega
          · refine ⟨_, _, _, _, _, rfl, fun d hd5 => ?_, by rw [List.length_append, List.length_singleton]; omega, rfl⟩
            rcases List.mem_append.mp hd5 with hd5 | hd5
            · exact hfd d hd5
            · rw [List.mem_singleton.mp hd5]
              refine ⟨shs ++ [nw], ?_, by rw [List.length_append, List.length_singleton, hsl], fun l' hl' => ?_⟩
              · rw [rowsD_app]
                rfl
              · rcases List.mem_append.mp hl' with hl' | hl'
                · exact hss l' hl'
                · rw [List.mem_singleton.mp hl']
                  obtain ⟨nw', e', _, _, hs'⟩ := is_shp (hb e)
                  have e2 : nw' = nw := by
                    have e3 : natsOf (.tuple (nsD nw)) = natsOf (.tuple (nsD nw')) := by rw [e']
                    rw [natsOf_nsD, natsOf_nsD] at e3
                    exact e3.symm
                  rw [e2, hnw] at hs'
                  exact hs'
      · rintro ρ s ⟨s8, s9, s11, s14, fd, rfl, hfd, hfl, rfl⟩
        rw [List.length_map] at hfl
        exact ⟨_, _, _, _, _, _, rfl, hfd, by omega, rfl⟩
    · rintro ρ s ⟨s7, s8, s9, s11, s14, fd, rfl, hfd, hfl, rfl⟩
      refine db_freeze 6 rfl ?_
      refine db_one (dset 3 scLadders.nd <| dv 6 ⟨_, _, _, _, _, _, _, _, _, _, rfl, .inl rfl, hfd, by omega, rfl⟩)
  · rintro ρ s ⟨s3, s4, s5, s6, s7, s8, s9, s11, s14, ds, rfl, hs3, hlad, hlen, rfl⟩
    rw [enumD_len, nsD_len, turned_len] at hlad hlen
    have capx := cap x hx9
    refine db_frz 3 hs3 rfl ?_
    refine db_one (ds_ret <| de_callB (call_sortD hu) (by rfl) m7 boot_sorted <| da_cons <| dlc 7 scLadders.nd <| di_list <| dv 3 <| .inl ⟨_, rfl, fun i acc s => LadD n (x + 1) acc ∧ acc.length ≤ i ∧ st = s, ⟨(fun _ z => nomatch z), Nat.le_refl _, rfl⟩, ?_, ?_⟩)
    · rintro i d acc s hd2 ⟨ha, hal, rfl⟩
      have hi := (List.getElem?_eq_some_iff.mp hd2).1
      obtain ⟨shs, rfl, hsl, hss⟩ := hlad d (List.mem_of_getElem? hd2)
      obtain ⟨sh, hgl⟩ : ∃ sh, shs.getLast? = some sh := by
        cases e : shs.getLast? with
        | none => rw [List.getLast?_eq_none_iff.mp e] at hsl; simp at hsl
        | some b => exact ⟨b, rfl⟩
      refine ⟨by omega, fun s0 H0 C cl fp => dt_cmp (op_eqD hu) (nomark _) <| de_ix ix_tup <| dv 7 <| de_neg <| de_int ⟨_, rfl, dop_ixT (last_rows hgl) <| dv 2 <| dop_eqD (.dat _) (.dat _) (shaped_ok (ok_nsD _)) (shaped_ok (ok_nsD _)) ⟨_, rfl, fun _ => ?_, fun _ => ⟨rfl, ha, by omega, rfl⟩⟩⟩⟩
      refine fun s0 H0 C cl fp => dv 7 ⟨_, .dat .nil, rfl, fun d' hd' => ?_, by rw [List.length_append, List.length_singleton]; omega, rfl⟩
      rcases List.mem_append.mp hd' with hd' | hd'
      · exact ha d' hd'
      · rw [List.mem_singleton.mp hd']
        exact ⟨shs, rfl, hsl, hss⟩
    · rintro acc s ⟨ha, hal, rfl⟩ p1
      refine da_nil <| dcall_sortD (.own p1 _) (.lst _) (srtsLad ha (by omega)) fun p2 => ⟨_, .lst p2 _, ?_⟩
      have hperm := sortD_perm false acc
      exact h _ x (fun d hd => ha d (hperm.mem_iff.mp hd)) hx9 (by rw [hperm.length_eq]; omega)
end
end K33

namespace K33
open PySem PySem.Spec PyProof.Rows L2 DL LH
abbrev sThree : Stmt := topS 46
abbrev sShuffled : Stmt := topS 26
theorem scThree : FnScope ["draw", "size", "one", "other", "whole"] ["draw"] (defScope sThree) := ⟨rfl, rfl, rfl, by decide +kernel, rfl, by decide +kernel, by decide +kernel⟩
theorem scShuffled : FnScope ["draw", "some", "left", "found"] ["draw", "some"] (defScope sShuffled) := ⟨rfl, rfl, rfl, by decide +kernel, rfl, by decide +kernel, by decide +kernel⟩
theorem shp_up {B B' n : Nat} {l : List Nat} (h : Shp B n l) (hB : B ≤ B') : Shp B' n l := ⟨h.1, h.2.1, fun x hx => Nat.le_trans (h.2.2 x hx) hB⟩
section
variable {P : Program} {w : World} {K : PySem.W.Frag} {mg : Str → Option Value} {base : Heap}
def fThree : Pd := fun m ss st k xk => ∃ (dr la ca : Addr) (cs : List Int) (hd : HasDraw m dr la ca cs), ss = [.raw (.ref dr)] ∧ ∀ (n : Nat) (one other whole : List Nat), 1 ≤ n → n ≤ 4 → Shp 9 n one → Shp 9 n other → Shp 19 n whole → ∀ st' : m.St, k (.dat (.tuple [.tuple (nsD one), .tuple (nsD other), .tuple (nsD whole)])) st'
theorem ok_three (D : Df K mg "_law_three" sThree ["draw"]) (C1 : Cal P w K mg base "_law_take" sTake ["draw", "amount"] 2 fTake) (C2 : Cal P w K mg base "_law_pick" sPick ["draw", "some"] 3 fPick) (C3 : Cal P w K mg base "_law_shapes" sShapes ["draw", "size"] 4 fShapes) (C4 : Cal P w K mg base "_law_rich" sRich ["draw", "one", "other"] 4 fRich) (C5 : Cal P w K mg base "_law_whole" sWhole ["draw", "one", "other"] 4 fWhole) (C6 : Cal P w K mg base "_law_near_shape" sNearShape ["draw", "shape"] 3 fNearShape) :
    Cal P w K mg base "_law_three" sThree ["draw"] 5 fThree := by
  refine cal_of D scThree (by rintro _ _ _ _ _ ⟨_, _, _, _, _, rfl, _⟩; rfl) fun f cdv A outer s1 H E c hr tk hp ss st k h => ?_
  obtain ⟨dr, la, ca, cs, hd, rfl, h⟩ := h
  refine db_cons (dset 1 scThree.nd <| de_bin op_add <| de_int <| dc_call C2 (hr.mono (by decide)) tk <| da_cons <| dv 0 <| da_cons <| de_lst ?_)
  refine da_cons <| de_int <| da_cons <| de_int <| da_cons <| de_int <| da_cons <| de_int ?_
  refine da_cons <| de_int <| da_cons <| de_int <| da_cons <| de_int <| da_nil ⟨_, .dat (.dat (.dat (.dat (.dat (.dat (.dat .nil)))))), by simp, fun p => da_nil fun A => ⟨dr, la, ca, cs, hd.avoid A, [.int 0, .int 1, .int 2, .int 2, .int 2, .int 3, .int 3], rfl, by decide, by decide, fun d hdm st1 => ?_⟩⟩
  obtain ⟨q, rfl, hq⟩ : ∃ q : Nat, d = .int (q : Int) ∧ q ≤ 3 := by
    simp only [List.mem_cons, List.not_mem_nil, or_false] at hdm
    rcases hdm with rfl | rfl | rfl | rfl | rfl | rfl | rfl
    · exact ⟨0, rfl, by decide⟩
    · exact ⟨1, rfl, by decide⟩
    · exact ⟨2, rfl, by decide⟩
    · exact ⟨2, rfl, by decide⟩
    · exact ⟨2, rfl, by decide⟩
    · exact ⟨3, rfl, by decide⟩
    · exact ⟨3, rfl, by decide⟩
  refine dop_I0 (i := 1) (j := (q : Int)) (d := nD (1 + q)) (by show some (PyData.int _) = some (PyData.int _); congr 2) ?_
  obtain ⟨n, en⟩ : ∃ n, n = 1 + q := ⟨_, rfl⟩
  have h1 : 1 ≤ n := by omega
  have h4 : n ≤ 4 := by omega
  rw [← en]
  refine db_cons (dpar 2 3 scThree.nd (by rfl) <| dc_call C3 (hr.mono (by decide)) tk <| da_cons <| dv 0 <| da_cons <| dv 1 <| da_nil fun A => ⟨dr, la, ca, cs, hd.avoid A, n, rfl, h1, h4, fun one ho st2 => ?_⟩)
  refine dc_call C3 (hr.mono (by decide)) tk <| da_cons <| dv 0 <| da_cons <| dv 1 <| da_nil fun A => ⟨dr, la, ca, cs, hd.avoid A, n, rfl, h1, h4, fun other ht st3 => ?_⟩
  refine db_cons (dset 4 scThree.nd <| de_imp (k' := fun s' ρ' st' => ∃ l, s' = .dat (.tuple (nsD l)) ∧ Shp 18 n l ∧ ρ' = [.raw (.ref dr), .dat (nD n), .dat (.tuple (nsD one)), .dat (.tuple (nsD other)), .any]) ?_ ?_)
  · refine de_if <| dt_cmp op_eq (nomark _) <| dc_call C1 (hr.mono (by decide)) tk <| da_cons <| dv 0 <| da_cons <| de_int <| da_nil fun A => ⟨dr, la, ca, cs, hd.avoid A, 2, rfl, by decide, by decide, fun z st4 _ _ => de_int <| dop_eq (x := .int _) (y := .int _) rfl rfl rfl ⟨_, rfl, ⟨fun _ => ?_, fun _ => ?_⟩⟩⟩
    · exact dc_call C4 (hr.mono (by decide)) tk <| da_cons <| dv 0 <| da_cons <| dv 2 <| da_cons <| dv 3 <| da_nil fun A => ⟨dr, la, ca, cs, hd.avoid A, n, one, other, rfl, h1, h4, ho, ht, fun l hl st5 => ⟨l, rfl, hl, rfl⟩⟩
    · exact de_ix ix_tup <| dc_call C5 (hr.mono (by decide)) tk <| da_cons <| dv 0 <| da_cons <| dv 2 <| da_cons <| dv 3 <| da_nil fun A => ⟨dr, la, ca, cs, hd.avoid A, n, one, other, rfl, h1, h4, ho, ht, fun l hl d st5 => de_int <| dop_ixT (ds := [.tuple (nsD l), d]) (d := .tuple (nsD l)) (atI_nat (j := 0) rfl) ⟨l, rfl, hl, rfl⟩⟩
  · rintro s' ρ' st' ⟨l, rfl, hl, rfl⟩
    refine db_one (ds_ret <| de_tup <| da_cons <| dv 2 <| da_cons <| dv 3 <| da_cons <| de_if <| dt_cmp op_eq (nomark _) <| dc_call C1 (hr.mono (by decide)) tk <| da_cons <| dv 0 <| da_cons <| de_int <| da_nil fun A => ⟨dr, la, ca, cs, hd.avoid A, 3, rfl, by decide, by decide, fun z st4 _ _ => de_int <| dop_eq (x := .int _) (y := .int _) rfl rfl rfl ⟨_, rfl, ⟨fun _ => ?_, fun _ => ?_⟩⟩⟩)
    · exact dc_call C6 (hr.mono (by decide)) tk <| da_cons <| dv 0 <| da_cons <| dv 4 <| da_nil fun A => ⟨dr, la, ca, cs, hd.avoid A, n, l, rfl, h1, h4, hl, fun l' hl' st5 => da_nil ⟨_, .dat (.dat (.dat .nil)), by simp, ⟨_, .dat _, h n one other l' h1 h4 ho ht hl' st5⟩⟩⟩
    · exact dv 4 <| da_nil ⟨_, .dat (.dat (.dat .nil)), by simp, ⟨_, .dat _, h n one other l h1 h4 ho ht (shp_up hl (by decide)) _⟩⟩
def fShuffled : Pd := fun m ss st k xk => ∃ (dr la ca : Addr) (cs : List Int) (hd : HasDraw m dr la ca cs) (ds : List PyData), ss = [.raw (.ref dr), .dat (.list ds)] ∧ (∀ d ∈ ds, okD d) ∧ ds.length ≤ 16000000 ∧ ∀ es : List PyData, (∀ d ∈ es, d ∈ ds) → es.length = ds.length → ∀ st' : m.St, k (.dat (.list es)) st'
theorem ok_shuffled (D : Df K mg "_law_shuffled" sShuffled ["draw", "some"]) (C1 : Cal P w K mg base "_law_take" sTake ["draw", "amount"] 2 fTake) (m1 : mg "list" = none) (m2 : mg "len" = none) : Cal P w K mg base "_law_shuffled" sShuffled ["draw", "some"] 3 fShuffled := by
  refine cal_of D scShuffled (by rintro _ _ _ _ _ ⟨_, _, _, _, _, _, rfl, _⟩; rfl) fun f cdv A outer s1 H E c hr tk hp ss st k h => ?_
  obtain ⟨dr, la, ca, cs, hd, ds, rfl, hok, hl, h⟩ := h
  refine db_cons (dpar 2 3 scShuffled.nd (by rfl) <| de_callTy call_list_of (by rfl) m1 boot_list <| da_cons <| dv 1 <| da_nil <| dcall_list (.dat _) (.lst _) fun p2 => de_lst <| da_nil ⟨_, .nil, by simp, fun p3 => ?_⟩)
  refine db_cons (ds_while hp (fun N ρ s => ∃ (lf fd : List PyData), ρ = [.raw (.ref dr), .dat (.list ds), .own p2 lf, .own p3 fd] ∧ N = lf.length ∧ lf.length + fd.length = ds.length ∧ (∀ d ∈ lf, d ∈ ds) ∧ ∀ d ∈ fd, d ∈ ds) ds.length ⟨ds, [], rfl, rfl, rfl, fun _ z => z, fun _ z => (nomatch z)⟩ ?_)
  rintro N ρ s ⟨lf, fd, rfl, rfl, hn, hlf, hfd⟩
  refine dt_cmp (op_neD hr.units) (nomark _) <| dv 2 <| de_lst <| da_nil ⟨_, .nil, by simp, fun p0 => dop_neD (.ref p2 lf 2 rfl) (.own p0 _) (shaped_list fun d hd => hok d (hlf d hd)) (by decide) ⟨_, rfl, fun e => ?_, fun e => ?_⟩⟩
  · have hne : lf ≠ [] := fun z => by
      rw [z] at e
      cases e
    have hpos := List.length_pos_iff.mpr hne
    refine db_one (ds_append (i := 3) rfl (.inl rfl) rfl <| de_popAt (i := 2) rfl (.inl rfl) rfl <| dc_call C1 (hr.mono (by decide)) tk <| da_cons <| dv 0 <| da_cons <| de_callB call_len_seq (by rfl) m2 boot_len <| da_cons <| dv 2 <| da_nil <| dcall_len (.ref p2 lf 2 rfl) (.lst _) <| da_nil fun A => ⟨dr, la, ca, cs, hd.avoid A, _, rfl, ?_, ?_, fun j st1 j1 j2 => ?_⟩)
    · omega
    · omega
    obtain ⟨a, rfl⟩ : ∃ a : Nat, j = (a : Int) := ⟨j.toNat, by omega⟩
    have ha : a < lf.length := by omega
    refine ⟨_, a, lf, lf[a], rfl, rfl, by omega, by omega, (ixN_seq (ixN_n ha)).1, List.getElem?_eq_getElem ha, ⟨_, fd, .dat .nil, rfl, by omega, _, ?_, lf.eraseIdx a, fd ++ [lf[a]], rfl, rfl, ?_, ?_, ?_⟩⟩
    · rw [List.length_eraseIdx_of_lt ha]
      omega
    · rw [List.length_eraseIdx_of_lt ha, List.length_append, List.length_singleton]
      omega
    · exact fun d hd' => hlf d (List.mem_of_mem_eraseIdx hd')
    · intro d hd'
      rcases List.mem_append.mp hd' with hd' | hd'
      · exact hfd d hd'
      · rw [List.mem_singleton.mp hd']
        exact hlf _ (List.getElem_mem ha)
  · have h0 : lf = [] := by
      cases lf with
      | nil => rfl
      | cons x l => cases e
    subst h0
    refine db_one (ds_ret <| dv 3 ⟨_, .vlst p3 fd 3 rfl, h fd hfd ?_ _⟩)
    simpa using hn
end
end K33

namespace K33
open PySem PySem.Spec PyProof.Rows L2 DL LH
abbrev sGrownRows : Stmt := topS 47
theorem scGrownRows : FnScope ["draw", "one", "other", "whole", "found", "many", "some", "lot", "grown_v", "to", "late", "low", "more", "inside", "high"] ["draw", "one", "other", "whole"] (defScope sGrownRows) := ⟨rfl, rfl, rfl, by decide +kernel, rfl, by decide +kernel, by decide +kernel⟩
section
variable {P : Program} {w : World} {K : PySem.W.Frag} {mg : Str → Option Value} {base : Heap}
def fGrownRows : Pd := fun m ss st k xk => ∃ (dr la ca : Addr) (cs : List Int) (hd : HasDraw m dr la ca cs) (n : Nat) (one other whole : List Nat), ss = [.raw (.ref dr), .dat (.tuple (nsD one)), .dat (.tuple (nsD other)), .dat (.tuple (nsD whole))] ∧ 1 ≤ n ∧ n ≤ 4 ∧ Shp 9 n one ∧ Shp 9 n other ∧ Shp 19 n whole ∧ ∀ shs : List (List Nat), shs ≠ [] → shs.length ≤ 10 → (∀ l ∈ shs, Shp 24 n l) → ∀ st' : m.St, k (.dat (.tuple (rowsD shs))) st'
theorem shp_of {n : Nat} {nw : List Nat} (h : isShape (.tuple (nsD nw)) = true) (hn : nw.length = n) : Shp 24 n nw := by
  obtain ⟨nw', e', _, _, hs'⟩ := is_shp h
  have e2 : nw' = nw := by
    have e3 : natsOf (.tuple (nsD nw)) = natsOf (.tuple (nsD nw')) := by rw [e']
    rw [natsOf_nsD, natsOf_nsD] at e3
    exact e3.symm
  rw [e2, hn] at hs'
  exact hs'
theorem last_some {α : Type} {l : List α} (h : l ≠ []) : ∃ x, l.getLast? = some x ∧ x ∈ l := by
  cases e : l.getLast? with
  | none => exact absurd (List.getLast?_eq_none_iff.mp e) h
  | some x => exact ⟨x, rfl, List.mem_of_getLast? e⟩
theorem ok_grown_rows (D : Df K mg "_law_grown_rows" sGrownRows ["draw", "one", "other", "whole"]) (C1 : Cal P w K mg base "_law_is_shape" sLIsShape ["thing"] 2 fLIsShape) (C2 : Cal P w K mg base "_law_turned_shape" sLTurned ["shape"] 1 fTurned) (C3 : Cal P w K mg base "_law_raised" sLRaised ["prime", "power"] 1 fRaised) (C4 : Cal P w K mg base "_law_pick" sPick ["draw", "some"] 3 fPick)
    (m1 : mg "tuple" = none) (m2 : mg "len" = none) (m3 : mg "range" = none) (m4 : mg "sum" = none) (m5 : mg "int" = none) (m6 : mg "zip" = none) :
    Cal P w K mg base "_law_grown_rows" sGrownRows ["draw", "one", "other", "whole"] 4 fGrownRows := by
  refine cal_of D scGrownRows (by rintro _ _ _ _ _ ⟨_, _, _, _, _, _, _, _, _, rfl, _⟩; rfl) fun f cdv A outer s1 H E c hr tk hp ss st k h => ?_
  obtain ⟨dr, la, ca, cs, hd, n, one, other, whole, rfl, h1, h4, ho, ht, hw, h⟩ := h
  have hu := hr.units
  obtain ⟨x, l, rfl⟩ : ∃ x l, other = x :: l := by
    cases other with
    | nil => have := ht.1; simp at this; omega
    | cons x l => exact ⟨x, l, rfl⟩
  have hx9 : x ≤ 9 := ht.2.2 x List.mem_cons_self
  have hll : l.length ≤ 3 := by have := ht.1; rw [List.length_cons] at this; omega
  have p16 : 2 ^ n ≤ 16 := Nat.le_trans (Nat.pow_le_pow_right (by decide) h4) (by decide)
  refine db_cons (dset 4 scGrownRows.nd <| de_lst <| da_cons <| dv 1 <| da_nil ⟨_, .dat .nil, by simp, fun p4 => ?_⟩)
  refine db_cons (ds_for hp rfl <| di_tup <| dc_call C2 (hr.mono (by decide)) tk <| da_cons <| dv 2 <| da_nil fun A => ⟨x, l, rfl, by omega, by omega, ⟨_, rfl, fun i ρ s => ∃ shs s5 s6 s7 s8 s10 s13, ρ = [.raw (.ref dr), .dat (.tuple (nsD one)), .dat (.tuple (nsD (x :: l))), .dat (.tuple (nsD whole)), .own p4 (rowsD shs), s5, s6, s7, s8, .any, s10, .any, .any, s13, .any] ∧ shs ≠ [] ∧ shs.length ≤ i + 1 ∧ ∀ l ∈ shs, Shp 24 n l, ⟨[one], _, _, _, _, _, _, rfl, by simp, Nat.le_refl _, fun l' hl' => by rw [List.mem_singleton.mp hl']; exact shp_up ho (by decide)⟩, ?_, ?_⟩⟩)
  · rintro i d ρ s hd1 ⟨shs, s5, s6, s7, s8, s10, s13, rfl, hne, hsl, hss⟩
    obtain ⟨m, hm, rfl⟩ := nsD_get hd1
    have hi := (List.getElem?_eq_some_iff.mp hm).1
    rw [turned_len] at hi
    obtain ⟨sh, hgl, hshm⟩ := last_some hne
    have hsh := hss sh hshm
    refine dgn 5 scGrownRows.nd ?_
    refine db_cons (dset 6 scGrownRows.nd <| de_lst <| da_nil ⟨_, .nil, by simp, fun p6 => ?_⟩)
    refine db_cons (ds_for hp rfl <| di_range1 m3 <| dc_call C3 (hr.mono (by decide)) tk <| da_cons <| de_int <| da_cons <| de_callB call_len_seq (by rfl) m2 boot_len <| da_cons <| dv 1 <| da_nil <| dcall_len (.dat _) (.tup _) <| da_nil fun A => ⟨n, ?_, by omega, ⟨_, rfl, ?_, ?_, fun t ρ s => ∃ sm s7 s8 s10, ρ = [.raw (.ref dr), .dat (.tuple (nsD one)), .dat (.tuple (nsD (x :: l))), .dat (.tuple (nsD whole)), .own p4 (rowsD shs), .dat (nD m), .own p6 (rowsD sm), s7, s8, .any, s10, .any, .any, s13, .any] ∧ sm.length ≤ t ∧ ∀ l ∈ sm, Shp 24 n l, ⟨[], _, _, _, rfl, Nat.le_refl _, fun _ z => (nomatch z)⟩, ?_, ?_⟩⟩)
    · rw [nsD_len, ho.1]
      rfl
    · exact Int.le_trans (by decide) (Int.natCast_nonneg (2 ^ n))
    · exact Int.lt_of_le_of_lt (Int.ofNat_le.mpr p16) (by decide)
    · rintro t d ρ s hd2 ⟨sm, s7, s8, s10, rfl, hml, hms⟩
      obtain ⟨htl, rfl⟩ := ints_get hd2
      have htl' : t < 2 ^ n := by omega
      rw [Int.zero_add]
      refine dgn 7 scGrownRows.nd ?_
      refine db_cons (ds_lc 8 9 scGrownRows.nd <| di_range1 m3 <| de_callB call_len_seq (by rfl) m2 boot_len <| da_cons <| dv 1 <| da_nil <| dcall_len (.dat _) (.tup _) ⟨_, rfl, ?_, ?_, fun q acc s => ∃ g, acc = nsD g ∧ g.length = q, ⟨[], rfl, rfl⟩, ?_, ?_⟩)
      · omega
      · rw [nsD_len, ho.1]; omega
      · rintro q d acc s hd4 ⟨g, rfl, hg⟩
        obtain ⟨hq, rfl⟩ := ints_get hd4
        rw [nsD_len, ho.1] at hq
        rw [Int.zero_add]
        refine ⟨by rw [nsD_len]; omega, fun _ s0 H0 C cl fp => ?_, fun z => nomatch z⟩
        have pq : 0 < 2 ^ q := Nat.pow_pos (by decide)
        have pq2 : 2 ^ q ≤ 16 := Nat.le_trans (Nat.pow_le_pow_right (by decide) (show q ≤ 4 by omega)) (by decide)
        refine de_bin op_mod <| de_bin op_fdiv <| de_callTy call_int1 (by rfl) m5 boot_int <| da_cons <| dv 7 <| da_nil <| dcall_int <| dc_call C3 (hr.mono (by decide)) LamX.takes0 <| da_cons <| de_int <| da_cons <| dv 9 <| da_nil fun A => ⟨q, rfl, by omega, ?_⟩
        refine dop_I (d := nD (t / 2 ^ q)) (i := (t : Int)) (j := ((2 ^ q : Nat) : Int)) rfl ⟨by omega, by omega⟩ <| de_int <| dop_I (d := nD (t / 2 ^ q % 2)) (i := ((t / 2 ^ q : Nat) : Int)) (j := 2) rfl (by decide) ⟨_, .dat .nil, rfl, ⟨g ++ [t / 2 ^ q % 2], ?_, ?_⟩⟩
        · unfold nsD
          rw [List.map_append]
          rfl
        · rw [List.length_append, List.length_singleton, hg]
      rintro acc s ⟨g, rfl, hg⟩ p8
      rw [ints_len, nsD_len, ho.1, show ((n : Int)).toNat = n by omega] at hg
      have hsg : sh.length = g.length := by rw [hsh.1, hg]
      refine db_freeze 8 rfl ?_
      refine db_cons (dset 10 scGrownRows.nd <| de_callTy call_tuple_of (by rfl) m1 boot_tuple <| da_cons <| dlc2 11 12 scGrownRows.nd <| di_zipM m6 <| de_ix ix_list <| dv 4 <| de_neg <| de_int ⟨_, rfl, dop_ixL (.ref p4 _ 4 rfl) (last_rows hgl) <| dv 8 ⟨_, _, rfl, rfl, fun q d hd4 => ?_, fun q acc2 s2 => acc2 = nsD ((addL sh g).take q), rfl, ?_, ?_⟩⟩)
      · obtain ⟨u, v, _, _, rfl⟩ := zipD_get hd4
        exact ⟨u, v, rfl⟩
      · rintro q d1 d2 acc2 s2 hd4 rfl
        obtain ⟨u, v, hu', hv', e⟩ := zipD_get hd4
        cases e
        obtain ⟨a, ha, rfl⟩ := nsD_get hu'
        obtain ⟨b, hb, rfl⟩ := nsD_get hv'
        refine ⟨by rw [nsD_len, List.length_take, addL_len hsg, hsh.1]; omega, fun _ s0 H0 C cl fp => ?_, fun z => nomatch z⟩
        refine de_bin op_add <| dv 11 <| dv 12 <| dop_I0 (i := (a : Int)) (j := (b : Int)) rfl ⟨_, .dat .nil, rfl, ?_⟩
        show nsD ((addL sh g).take q) ++ [nD (a + b)] = nsD ((addL sh g).take (q + 1))
        rw [add_take ha hb]
        unfold nsD
        rw [List.map_append]
        rfl
      rintro acc2 s2 rfl p10
      rw [zipD_len, nsD_len, nsD_len, hsg, Nat.min_self, List.take_of_length_le (l := addL sh g) (by rw [addL_len hsg, hsg]; exact Nat.le_refl _)]
      refine da_nil <| dcall_tuple (.own p10 _) (.lst _) ?_
      obtain ⟨nw, enw⟩ : ∃ nw, nw = addL sh g := ⟨_, rfl⟩
      have hnw : nw.length = n := by rw [enw, addL_len hsg, hsh.1]
      rw [← enw]
      have eg : nsD g = (g.map fun n : Nat => (n : Int)).map PyData.int := nsD_ints g
      refine db_one (ds_if <| dt_w <| dw_and <| dt_cmp op_eq (nomark _) <| de_callB (cr_sum rfl) (by rfl) m4 boot_sum <| da_cons <| dv 8 <| da_nil <| dcall_sum (ns := g.map fun n : Nat => (n : Int)) (by rw [← eg]; exact .dat _) <| dv 5 <| dop_eq (x := .int _) (y := .int _) rfl rfl rfl ⟨_, rfl, fun _ => ?_, fun _ => ⟨(fun z => nomatch z), fun _ => db_nil ⟨sm, _, _, _, rfl, by omega, hms⟩⟩⟩)
      refine dw_and1 <| dt_val <| dc_call C1 (hr.mono (by decide)) tk <| da_cons <| dv 10 <| da_nil fun A => ⟨_, rfl, tup_nsD (by omega), isShape (.tuple (nsD nw)), rfl, fun e => ?_, fun _ => db_nil ⟨sm, _, _, _, rfl, by omega, hms⟩⟩
      refine db_one (ds_append (i := 6) rfl (.inl rfl) rfl <| dv 10 ⟨_, _, .dat .nil, rfl, by rw [rowsD_len]; omega, ⟨sm ++ [nw], .dat (.int (t : Int)), .dat (.list (nsD g)), .dat (.tuple (nsD nw)), ?_, by rw [List.length_append, List.length_singleton]; omega, fun l' hl' => ?_⟩⟩)
      · rw [rowsD_app]
        rfl
      · rcases List.mem_append.mp hl' with hl' | hl'
        · exact hms l' hl'
        · rw [List.mem_singleton.mp hl']
          exact shp_of e hnw
    · rintro ρ s ⟨sm, s7, s8, s10, rfl, hml, hms⟩
      rw [ints_len] at hml
      have hml2 : sm.length ≤ 16 := by omega
      refine db_freeze 6 rfl ?_
      refine db_cons (ds_lc 13 10 scGrownRows.nd <| di_list <| dv 6 <| .inl ⟨_, rfl, fun q acc s => ∃ si, acc = rowsD si ∧ si.length ≤ q ∧ ∀ l ∈ si, Shp 24 n l, ⟨[], rfl, Nat.le_refl _, fun _ z => (nomatch z)⟩, ?_, ?_⟩)
      · rintro q d acc s hd2 ⟨si, rfl, hil, his⟩
        obtain ⟨r, hr2, rfl⟩ := rowsD_get hd2
        have hq := (List.getElem?_eq_some_iff.mp hr2).1
        have hrs := hms r (List.mem_of_getElem? hr2)
        refine ⟨by rw [rowsD_len]; omega, fun s0 H0 C cl fp => dt_cmp (op_eqD hu) (nomark _) <| dlc2 11 14 scGrownRows.nd <| di_zipT m6 <| dv 10 <| dv 3 ⟨_, _, rfl, rfl, fun q d hd4 => ?_, fun q acc2 s2 => ∃ o : List Nat, acc2 = o.map (fun _ => PyData.int 1) ∧ o.length ≤ q, ⟨[], rfl, Nat.le_refl _⟩, ?_, ?_⟩⟩
        · obtain ⟨u, v, _, _, rfl⟩ := zipD_get hd4
          exact ⟨u, v, rfl⟩
        · rintro q d1 d2 acc2 s2 hd4 ⟨o, rfl, hol⟩
          obtain ⟨u, v, hu', hv', e⟩ := zipD_get hd4
          cases e
          obtain ⟨a, ha, rfl⟩ := nsD_get hu'
          obtain ⟨b, hb, rfl⟩ := nsD_get hv'
          have := (List.getElem?_eq_some_iff.mp ha).1
          have := hrs.1
          refine ⟨by rw [List.length_map]; omega, fun s0 H0 C cl fp => dt_cmp op_gt (nomark _) <| dv 11 <| dv 14 <| dop_I0 (i := (a : Int)) (j := (b : Int)) rfl ⟨_, rfl, fun _ => ?_, fun _ => ⟨rfl, ⟨o, rfl, by omega⟩⟩⟩⟩
          refine fun s0 H0 C cl fp => de_int ⟨_, .dat .nil, rfl, ⟨o ++ [0], ?_, ?_⟩⟩
          · rw [List.map_append]
            rfl
          · rw [List.length_append, List.length_singleton]
            omega
        · rintro acc2 s2 ⟨o, rfl, hol⟩ p
          refine de_lst <| da_nil ⟨_, .nil, by simp, fun p0 => dop_eqD (.own p _) (.own p0 _) (ones_ok _) (by decide) ⟨_, rfl, fun _ => ?_, fun _ => ⟨rfl, ⟨si, rfl, by omega, his⟩⟩⟩⟩
          refine fun s0 H0 C cl fp => dv 10 ⟨_, .dat .nil, rfl, ⟨si ++ [r], ?_, ?_, ?_⟩⟩
          · rw [rowsD_app]
            rfl
          · rw [List.length_append, List.length_singleton]
            omega
          · intro l' hl'
            rcases List.mem_append.mp hl' with hl' | hl'
            · exact his l' hl'
            · rw [List.mem_singleton.mp hl']
              exact hrs
      rintro acc s ⟨si, rfl, hil, his⟩ p13
      rw [rowsD_len] at hil
      refine db_freeze 13 rfl ?_
      refine db_cons (ds_if <| dt_cmp (op_eqD hu) (nomark _) <| dv 6 <| de_lst <| da_nil ⟨_, .nil, by simp, fun p0 => dop_eqD (.dat _) (.own p0 _) (ok_rowsL _) (by decide) ⟨_, rfl, fun e => ?_, fun e => db_nil ?_⟩⟩)
      · exact db_one (ds_ret <| de_callTy call_tuple_of (by rfl) m1 boot_tuple <| da_cons <| dv 4 <| da_nil <| dcall_tuple (.ref p4 _ 4 rfl) (.lst _) ⟨_, .dat _, h shs hne (by omega) hss _⟩)
      have hsm : sm ≠ [] := fun z => by
        rw [z] at e
        cases e
      refine db_one (ds_append (i := 4) rfl (.inl rfl) rfl <| dc_call C4 (hr.mono (by decide)) tk <| da_cons <| dv 0 <| da_cons <| de_imp (k' := fun s' ρ' st' => ∃ sx, s' = .dat (.list (rowsD sx)) ∧ sx ≠ [] ∧ sx.length ≤ 16 ∧ (∀ l ∈ sx, Shp 24 n l) ∧ ρ' = [.raw (.ref dr), .dat (.tuple (nsD one)), .dat (.tuple (nsD (x :: l))), .dat (.tuple (nsD whole)), .own p4 (rowsD shs), .dat (nD m), .dat (.list (rowsD sm)), s7, s8, .any, .any, .any, .any, .dat (.list (rowsD si)), .any]) ?_ ?_)
      · refine de_if <| dt_cmp (op_neD hu) (nomark _) <| dv 13 <| de_lst <| da_nil ⟨_, .nil, by simp, fun p0 => dop_neD (.dat _) (.own p0 _) (ok_rowsL _) (by decide) ⟨_, rfl, ⟨fun e2 => dv 13 ⟨si, rfl, ?_, by omega, his, rfl⟩, fun e2 => dv 6 ⟨sm, rfl, hsm, hml2, hms, rfl⟩⟩⟩⟩
        intro z
        rw [z] at e2
        cases e2
      · rintro s' ρ' st' ⟨sx, rfl, hx1, hx2, hx3, rfl⟩
        refine da_nil fun A => ⟨dr, la, ca, cs, hd.avoid A, rowsD sx, rfl, by rw [rowsD_len]; exact List.length_pos_iff.mpr hx1, by rw [rowsD_len]; omega, fun d hdm st3 => ?_⟩
        obtain ⟨r, hrm, rfl⟩ := List.mem_map.mp hdm
        refine ⟨_, rowsD shs, .dat .nil, rfl, by rw [rowsD_len]; omega, ⟨shs ++ [r], .dat (nD m), .dat (.list (rowsD sm)), s7, s8, .any, .dat (.list (rowsD si)), ?_, by simp, by rw [List.length_append, List.length_singleton]; omega, fun l' hl' => ?_⟩⟩
        · rw [rowsD_app]
          rfl
        · rcases List.mem_append.mp hl' with hl' | hl'
          · exact hss l' hl'
          · rw [List.mem_singleton.mp hl']
            exact hx3 r hrm
  · rintro ρ s ⟨shs, s5, s6, s7, s8, s10, s13, rfl, hne, hsl, hss⟩
    rw [nsD_len, turned_len] at hsl
    exact db_one (ds_ret <| de_callTy call_tuple_of (by rfl) m1 boot_tuple <| da_cons <| dv 4 <| da_nil <| dcall_tuple (.ref p4 _ 4 rfl) (.lst _) ⟨_, .dat _, h shs hne (by omega) hss _⟩)
end
end K33

namespace K33
open PySem PySem.Spec PyProof.Rows L2 DL LH
abbrev sNear : Stmt := topS 48
theorem scNear : FnScope ["draw", "row", "at", "to", "bent", "some"] ["draw", "row"] (defScope sNear) := ⟨rfl, rfl, rfl, by decide +kernel, rfl, by decide +kernel, by decide +kernel⟩
/-- small data: its depth, its size -/
def Gd (k s : Nat) (d : PyData) : Prop := PyData.canLay0 d = true ∧ d.depth ≤ k ∧ szD d ≤ s
theorem Gd.up {k s k' s' : Nat} {d : PyData} (h : Gd k s d) (hk : k ≤ k') (hs : s ≤ s') : Gd k' s' d := ⟨h.1, Nat.le_trans h.2.1 hk, Nat.le_trans h.2.2 hs⟩
theorem szA_le {s : Nat} : ∀ {xs : List PyData}, (∀ x ∈ xs, szD x ≤ s) → szA xs ≤ xs.length * s
  | [], _ => by simp [szA]
  | x :: xs, h => by
    have h1 := h x List.mem_cons_self
    have h2 := szA_le (xs := xs) fun y hy => h y (List.mem_cons_of_mem _ hy)
    rw [szA, List.length_cons, Nat.succ_mul]
    omega
theorem gd_tup {k s n : Nat} {xs : List PyData} (h : ∀ x ∈ xs, Gd k s x) (hl : xs.length ≤ n) : Gd (k + 1) (n * s + 1) (.tuple xs) := by
  refine ⟨by rw [PyData.canLay0]; exact canAll_iff.mpr fun x hx => (h x hx).1, ?_, ?_⟩
  · rw [PyData.depth]
    have : PyData.depthAll xs ≤ k := depthAll_le.mpr fun x hx => (h x hx).2.1
    omega
  · have e : szD (.tuple xs) = szA xs + 1 := by simp [szD]
    have h1 := szA_le fun x hx => (h x hx).2.2
    have h2 : xs.length * s ≤ n * s := Nat.mul_le_mul_right s hl
    omega
theorem gd_list {k s n : Nat} {xs : List PyData} (h : ∀ x ∈ xs, Gd k s x) (hl : xs.length ≤ n) : Gd (k + 1) (n * s + 1) (.list xs) := by
  refine ⟨by rw [PyData.canLay0]; exact canAll_iff.mpr fun x hx => (h x hx).1, ?_, ?_⟩
  · rw [PyData.depth]
    have : PyData.depthAll xs ≤ k := depthAll_le.mpr fun x hx => (h x hx).2.1
    omega
  · have e : szD (.list xs) = szA xs + 1 := by simp [szD]
    have h1 := szA_le fun x hx => (h x hx).2.2
    have h2 : xs.length * s ≤ n * s := Nat.mul_le_mul_right s hl
    omega
theorem gd_int (i : Int) : Gd 0 1 (.int i) := ⟨rfl, Nat.le_refl _, Nat.le_refl _⟩
theorem gd_bool (b : Bool) : Gd 0 1 (.bool b) := ⟨rfl, Nat.le_refl _, Nat.le_refl _⟩
theorem gd_none : Gd 0 1 .none := ⟨rfl, Nat.le_refl _, Nat.le_refl _⟩
theorem gd_nsD {l : List Nat} : ∀ x ∈ nsD l, Gd 0 1 x := fun x hx => by
  obtain ⟨n, _, rfl⟩ := List.mem_map.mp hx
  exact gd_int _
theorem gd_ok {k s : Nat} {d : PyData} (h : Gd k s d) (hk : k ≤ 60) (hs : s ≤ 1000) : tupOk d := fun _ => ⟨⟨h.1, Nat.le_trans h.2.1 hk⟩, Nat.le_trans h.2.2 hs⟩
theorem mem_cut {ds : List PyData} {lo hi : Option Int} {x : PyData} (h : x ∈ DL.cutD ds lo hi) : x ∈ ds := List.mem_of_mem_drop (List.mem_of_mem_take h)
theorem cut_len (ds : List PyData) (lo hi : Option Int) : (DL.cutD ds lo hi).length ≤ ds.length := by
  unfold DL.cutD
  rw [List.length_take, List.length_drop]
  omega
theorem row_ok {xs : List PyData} (h : ∀ x ∈ xs, Gd 1 12 x) (hl : xs.length ≤ 40) : tupOk (.tuple xs) := gd_ok (gd_tup h hl) (by decide) (by decide)
theorem mid_ok {R : List PyData} (h : ∀ x ∈ R, Gd 1 12 x) (hl : R.length ≤ 10) {e : PyData} (he : Gd 1 12 e) (a b c d : Option Int) : tupOk (.tuple (DL.cutD R a b ++ [e] ++ DL.cutD R c d)) := by
  have l1 := cut_len R a b
  have l2 := cut_len R c d
  refine row_ok (fun x hx => ?_) (by rw [List.length_append, List.length_append, List.length_singleton]; omega)
  rcases List.mem_append.mp hx with hx | hx
  · rcases List.mem_append.mp hx with hx | hx
    · exact h x (mem_cut hx)
    · rw [List.mem_singleton.mp hx]
      exact he
  · exact h x (mem_cut hx)
section
variable {P : Program} {w : World} {K : PySem.W.Frag} {mg : Str → Option Value} {base : Heap}
def fNear : Pd := fun m ss st k xk => ∃ (dr la ca : Addr) (cs : List Int) (hd : HasDraw m dr la ca cs) (n : Nat) (shs : List (List Nat)), ss = [.raw (.ref dr), .dat (.tuple (rowsD shs))] ∧ 1 ≤ n ∧ n ≤ 4 ∧ shs ≠ [] ∧ shs.length ≤ 10 ∧ (∀ l ∈ shs, Shp 24 n l) ∧ ∀ d, tupOk d → ∀ st' : m.St, k (.dat d) st'
theorem ok_near (D : Df K mg "_law_near" sNear ["draw", "row"]) (C1 : Cal P w K mg base "_law_take" sTake ["draw", "amount"] 2 fTake) (C2 : Cal P w K mg base "_law_pick" sPick ["draw", "some"] 3 fPick) (C3 : Cal P w K mg base "_law_odd" sOdd ["draw"] 4 fOdd) (m1 : mg "list" = none) (m2 : mg "len" = none) :
    Cal P w K mg base "_law_near" sNear ["draw", "row"] 5 fNear := by
  refine cal_of D scNear (by rintro _ _ _ _ _ ⟨_, _, _, _, _, _, _, rfl, _⟩; rfl) fun f cdv A outer s1 H E c hr tk hp ss st k h => ?_
  obtain ⟨dr, la, ca, cs, hd, n, shs, rfl, h1, h4, hne, hl, hss, h⟩ := h
  have hpos := List.length_pos_iff.mpr hne
  refine db_cons (dset 2 scNear.nd <| dc_call C1 (hr.mono (by decide)) tk <| da_cons <| dv 0 <| da_cons <| de_callB call_len_seq (by rfl) m2 boot_len <| da_cons <| dv 1 <| da_nil <| dcall_len (.dat _) (.tup _) <| da_nil fun A => ⟨dr, la, ca, cs, hd.avoid A, _, rfl, ?_, ?_, fun i st1 i1 i2 => ?_⟩)
  · rw [rowsD_len]; omega
  · rw [rowsD_len]; omega
  rw [rowsD_len] at i2
  obtain ⟨a, rfl⟩ : ∃ a : Nat, i = (a : Int) := ⟨i.toNat, by omega⟩
  have ha : a < shs.length := by omega
  obtain ⟨sh, esh⟩ : ∃ sh, shs[a]? = some sh := ⟨_, List.getElem?_eq_getElem ha⟩
  have hsh := hss sh (List.mem_of_getElem? esh)
  have hshl := hsh.1
  have atR : L2.atI (rowsD shs) (a : Int) = some (.tuple (nsD sh)) := atI_nat (by unfold rowsD; rw [List.getElem?_map, esh]; rfl)
  refine db_cons (dset 3 scNear.nd <| dc_call C1 (hr.mono (by decide)) tk <| da_cons <| dv 0 <| da_cons <| de_callB call_len_seq (by rfl) m2 boot_len <| da_cons <| de_ix ix_tup <| dv 1 <| dv 2 <| dop_ixT atR <| da_nil <| dcall_len (.dat _) (.tup _) <| da_nil fun A => ⟨dr, la, ca, cs, hd.avoid A, _, rfl, ?_, ?_, fun j st2 j1 j2 => ?_⟩)
  · rw [nsD_len]; omega
  · rw [nsD_len]; omega
  rw [nsD_len] at j2
  obtain ⟨b, rfl⟩ : ∃ b : Nat, j = (b : Int) := ⟨j.toNat, by omega⟩
  have hb : b < sh.length := by omega
  obtain ⟨y, ey⟩ : ∃ y, sh[b]? = some y := ⟨_, List.getElem?_eq_getElem hb⟩
  have atS : L2.atI (nsD sh) (b : Int) = some (nD y) := atI_nat (nsD_at ey)
  have l1 := cut_len (nsD sh) none (some (b : Int))
  have l2 := cut_len (nsD sh) (some ((b : Int) + 1)) none
  rw [nsD_len] at l1 l2
  refine db_cons (dset 4 scNear.nd <| de_bin op_catA <| de_bin op_catA <| de_slT <| de_ix ix_tup <| dv 1 <| dv 2 <| dop_ixT atR ⟨_, rfl, dp_none <| dp_some <| dv 3 ⟨_, rfl, ?_⟩⟩)
  refine de_tup <| da_cons <| de_bin op_add <| de_ix ix_tup <| de_ix ix_tup <| dv 1 <| dv 2 <| dop_ixT atR <| dv 3 <| dop_ixT atS <| dc_call C2 (hr.mono (by decide)) tk <| da_cons <| dv 0 <| da_cons <| de_lst <| da_cons <| de_int <| da_cons <| de_neg <| de_int ⟨_, rfl, da_nil ⟨_, .dat (.dat .nil), by simp, fun p => da_nil fun A => ⟨dr, la, ca, cs, hd.avoid A, [.int 1, .int (-1)], rfl, by decide, by decide, fun d hdm st3 => ?_⟩⟩⟩
  obtain ⟨e, rfl⟩ : ∃ e : Int, d = .int e := by
    simp only [List.mem_cons, List.not_mem_nil, or_false] at hdm
    rcases hdm with rfl | rfl
    · exact ⟨_, rfl⟩
    · exact ⟨_, rfl⟩
  obtain ⟨v, ev⟩ : ∃ v : Int, v = (y : Int) + e := ⟨_, rfl⟩
  refine dop_I0 (i := (y : Int)) (j := e) (d := .int v) (by rw [ev]; rfl) <| da_nil ⟨_, .dat .nil, by simp, dop_catA (ds := DL.cutD (nsD sh) none (some (b : Int))) (es := [.int v]) (by rw [List.length_singleton]; omega) <| de_slT <| de_ix ix_tup <| dv 1 <| dv 2 <| dop_ixT atR ⟨_, rfl, dp_some <| de_bin op_add <| dv 3 <| de_int <| dop_I0 rfl ⟨_, rfl, dp_none <| dop_catA (ds := DL.cutD (nsD sh) none (some (b : Int)) ++ [.int v]) (es := DL.cutD (nsD sh) (some ((b : Int) + 1)) none) (by rw [List.length_append, List.length_singleton]; omega) ?_⟩⟩⟩
  obtain ⟨R, eR⟩ : ∃ R, R = rowsD shs := ⟨_, rfl⟩
  have hRl : R.length ≤ 10 := by rw [eR, rowsD_len]; exact hl
  have hR : ∀ x ∈ R, Gd 1 12 x := fun x hx => by
    rw [eR] at hx
    obtain ⟨l', hl', rfl⟩ := List.mem_map.mp hx
    exact (gd_tup gd_nsD (show (nsD l').length ≤ 4 by rw [nsD_len, (hss l' hl').1]; exact h4)).up (Nat.le_refl _) (by decide)
  rw [← eR] at atR ⊢
  have lc : ∀ x y : Option Int, (DL.cutD R x y).length ≤ 10 := fun x y => Nat.le_trans (cut_len _ _ _) hRl
  have c1 : ∀ e : PyData, (DL.cutD R none (some (a : Int))).length + [e].length ≤ 16000000 := fun e => by have := lc none (some (a : Int)); rw [List.length_singleton]; omega
  have c2 : ∀ e : PyData, ((DL.cutD R none (some (a : Int))) ++ [e]).length + (DL.cutD R (some ((a : Int) + 1)) none).length ≤ 16000000 := fun e => by have := lc none (some (a : Int)); have := lc (some ((a : Int) + 1)) none; rw [List.length_append, List.length_singleton]; omega
  have c3 : (DL.cutD R none (some (a : Int))).length + (DL.cutD R (some ((a : Int) + 1)) none).length ≤ 16000000 := by have := lc none (some (a : Int)); have := lc (some ((a : Int) + 1)) none; omega
  have c4 : (DL.cutD R none (some (a : Int))).length + (DL.cutD R (some (a : Int)) (some ((a : Int) + 1))).length ≤ 16000000 := by have := lc none (some (a : Int)); have := lc (some (a : Int)) (some ((a : Int) + 1)); omega
  have c5 : ((DL.cutD R none (some (a : Int))) ++ (DL.cutD R (some (a : Int)) (some ((a : Int) + 1)))).length + (DL.cutD R (some (a : Int)) none).length ≤ 16000000 := by have := lc none (some (a : Int)); have := lc (some (a : Int)) (some ((a : Int) + 1)); have := lc (some (a : Int)) none; rw [List.length_append]; omega
  have c6 : (nsD sh).length + [PyData.int 0].length ≤ 16000000 := by rw [nsD_len, List.length_singleton]; omega
  have c7 : R.length + [PyData.none].length ≤ 16000000 := by rw [List.length_singleton]; omega
  have c8 : 1 ≤ (nsD sh).length := by rw [nsD_len]; omega
  have c9 : (nsD sh).length ≤ 1000 := by rw [nsD_len]; omega
  refine db_cons (dset 5 scNear.nd <| de_lst ?_)
  refine da_cons ?_
  refine de_bin op_catA <| de_bin op_catA <| de_slT <| dv 1 ⟨_, rfl, dp_none <| dp_some <| dv 2 ⟨_, rfl, de_tup <| da_cons <| dv 4 <| da_nil ⟨_, .dat .nil, by simp, dop_catA (ds := (DL.cutD R none (some (a : Int)))) (es := [PyData.tuple (DL.cutD (nsD sh) none (some (b : Int)) ++ [.int v] ++ DL.cutD (nsD sh) (some ((b : Int) + 1)) none)]) (c1 _) <| de_slT <| dv 1 ⟨_, rfl, dp_some <| de_bin op_add <| dv 2 <| de_int <| dop_I0 rfl ⟨_, rfl, dp_none <| dop_catA (ds := (DL.cutD R none (some (a : Int))) ++ [PyData.tuple (DL.cutD (nsD sh) none (some (b : Int)) ++ [.int v] ++ DL.cutD (nsD sh) (some ((b : Int) + 1)) none)]) (es := (DL.cutD R (some ((a : Int) + 1)) none)) (c2 _) ?_⟩⟩⟩⟩⟩
  refine da_cons ?_
  refine de_bin op_catA <| de_slT <| dv 1 ⟨_, rfl, dp_none <| dp_some <| dv 2 ⟨_, rfl, de_slT <| dv 1 ⟨_, rfl, dp_some <| de_bin op_add <| dv 2 <| de_int <| dop_I0 rfl ⟨_, rfl, dp_none <| dop_catA (ds := (DL.cutD R none (some (a : Int)))) (es := (DL.cutD R (some ((a : Int) + 1)) none)) c3 ?_⟩⟩⟩⟩
  refine da_cons ?_
  refine de_bin op_catA <| de_bin op_catA <| de_slT <| dv 1 ⟨_, rfl, dp_none <| dp_some <| dv 2 ⟨_, rfl, de_slT <| dv 1 ⟨_, rfl, dp_some <| dv 2 ⟨_, rfl, dp_some <| de_bin op_add <| dv 2 <| de_int <| dop_I0 rfl ⟨_, rfl, dop_catA (ds := (DL.cutD R none (some (a : Int)))) (es := (DL.cutD R (some (a : Int)) (some ((a : Int) + 1)))) c4 <| de_slT <| dv 1 ⟨_, rfl, dp_some <| dv 2 ⟨_, rfl, dp_none <| dop_catA (ds := (DL.cutD R none (some (a : Int))) ++ (DL.cutD R (some (a : Int)) (some ((a : Int) + 1)))) (es := (DL.cutD R (some (a : Int)) none)) c5 ?_⟩⟩⟩⟩⟩⟩⟩
  refine da_cons ?_
  refine de_revT <| dv 1 ⟨_, rfl, ?_⟩
  refine da_cons ?_
  refine de_callTy call_list_of (by rfl) m1 boot_list <| da_cons <| dv 1 <| da_nil <| dcall_list (.dat _) (.tup _) fun pR => ?_
  refine da_cons ?_
  refine de_bin op_catA <| de_bin op_catA <| de_slT <| dv 1 ⟨_, rfl, dp_none <| dp_some <| dv 2 ⟨_, rfl, de_tup <| da_cons <| de_callTy call_list_of (by rfl) m1 boot_list <| da_cons <| de_ix ix_tup <| dv 1 <| dv 2 <| dop_ixT atR <| da_nil <| dcall_list (.dat _) (.tup _) fun pL => da_nil ⟨_, .own .nil, by simp, dop_catA (ds := (DL.cutD R none (some (a : Int)))) (es := [PyData.list (nsD sh)]) (c1 _) <| de_slT <| dv 1 ⟨_, rfl, dp_some <| de_bin op_add <| dv 2 <| de_int <| dop_I0 rfl ⟨_, rfl, dp_none <| dop_catA (ds := (DL.cutD R none (some (a : Int))) ++ [PyData.list (nsD sh)]) (es := (DL.cutD R (some ((a : Int) + 1)) none)) (c2 _) ?_⟩⟩⟩⟩⟩
  refine da_nil ⟨[.tuple ((DL.cutD R none (some (a : Int))) ++ [PyData.tuple (DL.cutD (nsD sh) none (some (b : Int)) ++ [.int v] ++ DL.cutD (nsD sh) (some ((b : Int) + 1)) none)] ++ (DL.cutD R (some ((a : Int) + 1)) none)), .tuple ((DL.cutD R none (some (a : Int))) ++ (DL.cutD R (some ((a : Int) + 1)) none)), .tuple ((DL.cutD R none (some (a : Int))) ++ (DL.cutD R (some (a : Int)) (some ((a : Int) + 1))) ++ (DL.cutD R (some (a : Int)) none)), .tuple R.reverse, .list R, .tuple ((DL.cutD R none (some (a : Int))) ++ [.list (nsD sh)] ++ (DL.cutD R (some ((a : Int) + 1)) none))], .dat (.dat (.dat (.dat (.own (.dat .nil))))), by simp, fun p5 => ?_⟩
  refine db_cons (dset 5 scNear.nd <| de_bin op_catD <| dv 5 <| de_lst ?_)
  refine da_cons ?_
  refine de_bin op_catA <| de_bin op_catA <| de_slT <| dv 1 ⟨_, rfl, dp_none <| dp_some <| dv 2 ⟨_, rfl, de_tup <| da_cons <| de_bin op_catA <| de_ix ix_tup <| dv 1 <| dv 2 <| dop_ixT atR <| de_tup <| da_cons <| de_int <| da_nil ⟨_, .dat .nil, by simp, dop_catA (ds := nsD sh) (es := [.int 0]) c6 <| da_nil ⟨_, .dat .nil, by simp, dop_catA (ds := (DL.cutD R none (some (a : Int)))) (es := [PyData.tuple (nsD sh ++ [.int 0])]) (c1 _) <| de_slT <| dv 1 ⟨_, rfl, dp_some <| de_bin op_add <| dv 2 <| de_int <| dop_I0 rfl ⟨_, rfl, dp_none <| dop_catA (ds := (DL.cutD R none (some (a : Int))) ++ [PyData.tuple (nsD sh ++ [.int 0])]) (es := (DL.cutD R (some ((a : Int) + 1)) none)) (c2 _) ?_⟩⟩⟩⟩⟩⟩
  refine da_cons ?_
  refine de_bin op_catA <| dv 1 <| de_tup <| da_cons <| de_non <| da_nil ⟨_, .dat .nil, by simp, dop_catA (ds := R) (es := [.none]) c7 ?_⟩
  refine da_cons ?_
  refine de_bin op_catA <| de_bin op_catA <| de_slT <| dv 1 ⟨_, rfl, dp_none <| dp_some <| dv 2 ⟨_, rfl, de_tup <| da_cons <| de_non <| da_nil ⟨_, .dat .nil, by simp, dop_catA (ds := (DL.cutD R none (some (a : Int)))) (es := [PyData.none]) (c1 _) <| de_slT <| dv 1 ⟨_, rfl, dp_some <| de_bin op_add <| dv 2 <| de_int <| dop_I0 rfl ⟨_, rfl, dp_none <| dop_catA (ds := (DL.cutD R none (some (a : Int))) ++ [PyData.none]) (es := (DL.cutD R (some ((a : Int) + 1)) none)) (c2 _) ?_⟩⟩⟩⟩⟩
  refine da_cons ?_
  refine de_tup <| da_nil ⟨_, .nil, by simp, ?_⟩
  refine da_cons ?_
  refine de_non ?_
  refine da_cons ?_
  refine dc_call C3 (hr.mono (by decide)) tk <| da_cons <| dv 0 <| da_nil fun A => ⟨dr, la, ca, cs, hd.avoid A, rfl, fun od hod st4 => ?_⟩
  refine da_cons ?_
  refine de_slT <| dv 1 ⟨_, rfl, dp_none <| dp_some <| de_int ⟨_, rfl, ?_⟩⟩
  refine da_nil ⟨[.tuple ((DL.cutD R none (some (a : Int))) ++ [.tuple (nsD sh ++ [.int 0])] ++ (DL.cutD R (some ((a : Int) + 1)) none)), .tuple (R ++ [.none]), .tuple ((DL.cutD R none (some (a : Int))) ++ [.none] ++ (DL.cutD R (some ((a : Int) + 1)) none)), .tuple [], .none, od, .tuple (DL.cutD R none (some 1))], .dat (.dat (.dat (.dat (.dat (.dat (.dat .nil)))))), by simp, fun p6 => dop_catD (.ref p5 _ 5 rfl) (.own p6 _) (by simp) fun p7 => ?_⟩
  refine db_cons (ds_append (i := 5) rfl (.inl rfl) rfl <| de_bin op_catA <| de_bin op_catA <| de_slT <| dv 1 ⟨_, rfl, dp_none <| dp_some <| dv 2 ⟨_, rfl, de_tup <| da_cons <| de_bin op_repA <| de_tup <| da_cons <| de_bl <| da_nil ⟨_, .dat .nil, by simp, de_callB call_len_seq (by rfl) m2 boot_len <| da_cons <| de_ix ix_tup <| dv 1 <| dv 2 <| dop_ixT atR <| da_nil <| dcall_len (.dat _) (.tup _) <| dop_repA (ds := [.bool true]) (n := (nsD sh).length) (by simp) c8 c9 (by simp) <| da_nil ⟨_, .dat .nil, by simp, dop_catA (ds := (DL.cutD R none (some (a : Int)))) (es := [PyData.tuple (List.replicate (nsD sh).length [PyData.bool true]).flatten]) (c1 _) <| de_slT <| dv 1 ⟨_, rfl, dp_some <| de_bin op_add <| dv 2 <| de_int <| dop_I0 rfl ⟨_, rfl, dp_none <| dop_catA (ds := (DL.cutD R none (some (a : Int))) ++ [PyData.tuple (List.replicate (nsD sh).length [PyData.bool true]).flatten]) (es := (DL.cutD R (some ((a : Int) + 1)) none)) (c2 _) ⟨_, _, .dat .nil, rfl, by simp, ?_⟩⟩⟩⟩⟩⟩⟩)
  refine db_freeze 5 rfl ?_
  refine db_one (ds_ret <| dc_call C2 (hr.mono (by decide)) tk <| da_cons <| dv 0 <| da_cons <| dv 5 <| da_nil fun A => ⟨dr, la, ca, cs, hd.avoid A, _, rfl, ?_, ?_, fun d hdm st5 => ⟨_, .dat _, h d ?_ _⟩⟩)
  · simp
  · simp
  have g5 : ∀ x ∈ [PyData.int v], Gd 0 1 x := fun x hx => by rw [List.mem_singleton.mp hx]; exact gd_int _
  have nl : (nsD sh).length ≤ 4 := by rw [nsD_len]; omega
  rcases List.mem_append.mp hdm with hdm | hdm
  · rcases List.mem_append.mp hdm with hdm | hdm
    · simp only [List.mem_cons, List.not_mem_nil, or_false] at hdm
      rcases hdm with rfl | rfl | rfl | rfl | rfl | rfl
      · refine mid_ok hR hRl ((gd_tup (k := 0) (s := 1) (n := 11) (fun x hx => ?_) ?_).up (by decide) (by decide)) _ _ _ _
        · rcases List.mem_append.mp hx with hx | hx
          · rcases List.mem_append.mp hx with hx | hx
            · exact gd_nsD x (mem_cut hx)
            · exact g5 x hx
          · exact gd_nsD x (mem_cut hx)
        · rw [List.length_append, List.length_append, List.length_singleton]
          omega
      · refine row_ok (fun x hx => ?_) ?_
        · rcases List.mem_append.mp hx with hx | hx
          · exact hR x (mem_cut hx)
          · exact hR x (mem_cut hx)
        · have := lc none (some (a : Int))
          have := lc (some ((a : Int) + 1)) none
          rw [List.length_append]
          omega
      · refine row_ok (fun x hx => ?_) ?_
        · rcases List.mem_append.mp hx with hx | hx
          · rcases List.mem_append.mp hx with hx | hx
            · exact hR x (mem_cut hx)
            · exact hR x (mem_cut hx)
          · exact hR x (mem_cut hx)
        · have := lc none (some (a : Int))
          have := lc (some (a : Int)) (some ((a : Int) + 1))
          have := lc (some (a : Int)) none
          rw [List.length_append, List.length_append]
          omega
      · exact row_ok (fun x hx => hR x (List.mem_reverse.mp hx)) (by rw [List.length_reverse]; omega)
      · exact fun z => by cases z
      · exact mid_ok hR hRl ((gd_list gd_nsD nl).up (by decide) (by decide)) _ _ _ _
    · simp only [List.mem_cons, List.not_mem_nil, or_false] at hdm
      rcases hdm with rfl | rfl | rfl | rfl | rfl | rfl | rfl
      · refine mid_ok hR hRl ((gd_tup (k := 0) (s := 1) (n := 11) (fun x hx => ?_) ?_).up (by decide) (by decide)) _ _ _ _
        · rcases List.mem_append.mp hx with hx | hx
          · exact gd_nsD x hx
          · rw [List.mem_singleton.mp hx]
            exact gd_int _
        · rw [List.length_append, List.length_singleton]
          omega
      · refine row_ok (fun x hx => ?_) (by rw [List.length_append, List.length_singleton]; omega)
        rcases List.mem_append.mp hx with hx | hx
        · exact hR x hx
        · rw [List.mem_singleton.mp hx]
          exact gd_none.up (by decide) (by decide)
      · exact mid_ok hR hRl (gd_none.up (by decide) (by decide)) _ _ _ _
      · exact row_ok (fun _ z => (nomatch z)) (by decide)
      · exact fun z => by cases z
      · exact hod
      · exact row_ok (fun x hx => hR x (mem_cut hx)) (Nat.le_trans (lc _ _) (by decide))
  · rw [List.mem_singleton.mp hdm]
    refine mid_ok hR hRl ((gd_tup (k := 0) (s := 1) (n := 11) (fun x hx => ?_) ?_).up (by decide) (by decide)) _ _ _ _
    · obtain ⟨l', hl', hx⟩ := List.mem_flatten.mp hx
      rw [List.eq_of_mem_replicate hl', List.mem_singleton] at hx
      rw [hx]
      exact gd_bool _
    · simp
      omega
end
end K33

namespace K33
open PySem PySem.Spec PyProof.Rows L2 DL LH
abbrev sLaw : Stmt := topS 49
abbrev lawN : List Str := ["script", "draw", "turn", "one", "other", "whole", "every", "rows", "lap", "row", "thing", "last", "due", "odd", "errors", "some"]
theorem scLaw : FnScope lawN ["script"] (defScope sLaw) := ⟨rfl, rfl, rfl, by decide +kernel, rfl, by decide +kernel, by decide +kernel⟩
/-- the body of the law's loop -/
abbrev lawLoop : List Stmt := match (defBody sLaw).getD 1 (.Pass ⟨0, 0, 0, 0⟩) with
  | .For _ _ b _ _ => b
  | _ => []
section
variable {P : Program} {w : World} {K : PySem.W.Frag} {mg : Str → Option Value} {base : Heap}
abbrev cxLaw (P : Program) (w : World) (K : PySem.W.Frag) (mg : Str → Option Value) (base : Heap) (f : Addr) (cdv : Value) (A : Around) (outer : List PySem.Env) (s1 : Shared) (H : Hp) (E : XK) : Cx := cxOf (L2.CX P w) P w K mg base lawN "law" (defScope sLaw) f cdv A outer s1 H E
theorem isl_ok {CO CT CW : Addr} {m : Mem} {st : m.St} {k : DL.Slot → m.St → Prop} {xk : Exn → m.St → Prop} {one other whole : List Nat} {th : PyData} (h1 : isShape (.tuple (nsD one)) = true) (h2 : isShape (.tuple (nsD other)) = true) (h3 : isShape (.tuple (nsD whole)) = true) (l2 : other.length = one.length) (l3 : whole.length = one.length) (h : k (.dat (.bool (isLadder one other whole th))) st) :
    fIsLadder CO CT CW m [.dat (.tuple (nsD one)), .dat (.tuple (nsD other)), .dat (.tuple (nsD whole)), .dat th] st k xk := by
  have e2 : lenD (.tuple (nsD other)) = lenD (.tuple (nsD one)) := by show (nsD other).length = (nsD one).length; rw [nsD_len, nsD_len, l2]
  have e3 : lenD (.tuple (nsD whole)) = lenD (.tuple (nsD one)) := by show (nsD whole).length = (nsD one).length; rw [nsD_len, nsD_len, l3]
  refine ⟨_, _, _, _, rfl, fun z => ?_, fun _ z => ?_, fun _ _ _ => ⟨fun z => ?_, fun _ _ => ?_⟩⟩
  · rw [h1] at z; cases z
  · rw [h2, decide_eq_true e2] at z; cases z
  · rw [h3, decide_eq_true e3] at z; cases z
  · rw [natsOf_nsD, natsOf_nsD, natsOf_nsD]
    exact h
/-- what a drawn row is -/
def RowOk (n : Nat) (d : PyData) : Prop := ∃ shs : List (List Nat), d = .tuple (rowsD shs) ∧ shs ≠ [] ∧ shs.length ≤ 10 ∧ ∀ l ∈ shs, Shp 24 n l
theorem row_tup {n : Nat} (h4 : n ≤ 4) {shs : List (List Nat)} (hl : shs.length ≤ 10) (hs : ∀ l ∈ shs, Shp 24 n l) : tupOk (.tuple (rowsD shs)) := row_ok (fun x hx => by
  obtain ⟨l', hl', rfl⟩ := List.mem_map.mp hx
  exact (gd_tup gd_nsD (show (nsD l').length ≤ 4 by rw [nsD_len, (hs l' hl').1]; exact h4)).up (Nat.le_refl _) (by decide)) (by rw [rowsD_len]; omega)
theorem two_ok (b : Bool) : okD (.list [.bool b, .bool b]) := ⟨rfl, by simp [PyData.depth, PyData.depthAll]⟩
theorem chk {CO CT CW : Addr} {f : Addr} {cdv : Value} {A : Around} {outer : List PySem.Env} {s1 : Shared} {H : Hp} {E : XK} {c : Cz} {st : c.m.St} {D : Dn c.m} (hr : Room 7 (cxLaw P w K mg base f cdv A outer s1 H E).A) (tk : Takes (cxLaw P w K mg base f cdv A outer s1 H E) c.W) (hp : PassesOwn (model P w) (cxLaw P w K mg base f cdv A outer s1 H E).A (cxLaw P w K mg base f cdv A outer s1 H E).env (cxLaw P w K mg base f cdv A outer s1 H E).xe)
    (C1 : Cal P w K mg base "_law_near" sNear ["draw", "row"] 5 fNear) (C2 : Cal P w K mg base "_law_is_ladder" sLIsLadder ["one", "other", "whole", "thing"] 3 fLIsLadder) (C3 : Cal P w K mg base "_law_says" sSays ["told", "due"] 2 fSays) (C4 : Cal P w K mg base "is_ladder" sIsLadder ["one", "other", "whole", "thing"] 6 (fIsLadder CO CT CW))
    (m3 : mg "range" = none) {dr la ca : Addr} {cs : List Int} (hd : HasDraw c.m dr la ca cs) {n x : Nat} {one l whole : List Nat} {rd : List PyData} {s0 s2 s6 s8 s9 s10 s11 s12 s13 s14 s15 : DL.Slot} (h1 : 1 ≤ n) (h4 : n ≤ 4) (ho : Shp 9 n one) (ht : Shp 9 n (x :: l)) (hw : Shp 19 n whole) (hrd : ∀ d ∈ rd, RowOk n d)
    (h : ∀ (s8 s9 s10 s11 s12 : DL.Slot) st', D.nx [s0, .raw (.ref dr), s2, .dat (.tuple (nsD one)), .dat (.tuple (nsD (x :: l))), .dat (.tuple (nsD whole)), s6, .dat (.list rd), s8, s9, s10, s11, s12, s13, s14, s15] st') :
    DS (cxLaw P w K mg base f cdv A outer s1 H E) c (lawLoop.getD 3 (.Pass ⟨0, 0, 0, 0⟩)) [s0, .raw (.ref dr), s2, .dat (.tuple (nsD one)), .dat (.tuple (nsD (x :: l))), .dat (.tuple (nsD whole)), s6, .dat (.list rd), s8, s9, s10, s11, s12, s13, s14, s15] st D := by
  have hx9 : x ≤ 9 := ht.2.2 x List.mem_cons_self
  have hll : l.length ≤ 3 := by have := ht.1; rw [List.length_cons] at this; omega
  have sho := shp_is ho h1 h4 (by decide)
  have sht := shp_is ht h1 h4 (by decide)
  refine ds_for hp rfl <| di_list <| dv 7 <| .inl ⟨_, rfl, fun i ρ s => ∃ s8 s9 s10 s11 s12, ρ = [s0, .raw (.ref dr), s2, .dat (.tuple (nsD one)), .dat (.tuple (nsD (x :: l))), .dat (.tuple (nsD whole)), s6, .dat (.list rd), s8, s9, s10, s11, s12, s13, s14, s15], ⟨_, _, _, _, _, rfl⟩, ?_, ?_⟩
  · rintro i d ρ s hd1 ⟨s8, s9, s10, s11, s12, rfl⟩
    obtain ⟨shs, rfl, hne, hsl, hss⟩ := hrd d (List.mem_of_getElem? hd1)
    obtain ⟨sh, hgl, hshm⟩ := last_some hne
    have hsh := hss sh hshm
    refine dgn 9 scLaw.nd ?_
    refine db_one (ds_for hp rfl <| di_list <| de_bin op_catD <| de_lst <| da_cons <| dv 9 <| da_nil ⟨_, .dat .nil, by simp, fun p1 => ?_⟩)
    refine dlc 8 scLaw.nd <| di_range1 m3 <| de_int ⟨_, rfl, by decide, by decide, fun q acc s => (∀ d ∈ acc, tupOk d) ∧ acc.length ≤ q, ⟨(fun _ z => (nomatch z)), Nat.le_refl _⟩, ?_, ?_⟩
    · rintro q d acc s hd2 ⟨ha, hal⟩
      obtain ⟨hq, _⟩ := ints_get hd2
      have hq3 : q < 3 := hq
      refine ⟨by omega, fun _ s0 H0 C cl fp => ?_, fun z => nomatch z⟩
      refine dc_call C1 (hr.mono (by decide)) LamX.takes0 <| da_cons <| dv 1 <| da_cons <| dv 9 <| da_nil fun A => ⟨dr, la, ca, cs, hd.avoid A, n, shs, rfl, h1, h4, hne, hsl, hss, fun d' hd' st' => ⟨_, .dat .nil, rfl, fun d2 hm => ?_, by rw [List.length_append, List.length_singleton]; omega⟩⟩
      rcases List.mem_append.mp hm with hm | hm
      · exact ha d2 hm
      · rw [List.mem_singleton.mp hm]
        exact hd'
    rintro acc s ⟨ha, hal⟩ p2
    rw [ints_len] at hal
    have hal3 : acc.length ≤ 3 := hal
    refine dop_catD (.own p1 _) (.own p2 _) (by rw [List.length_singleton]; omega) fun p3 => .inr ⟨p3, _, rfl, fun j ρ s => ∃ s8 s10 s11 s12, ρ = [s0, .raw (.ref dr), s2, .dat (.tuple (nsD one)), .dat (.tuple (nsD (x :: l))), .dat (.tuple (nsD whole)), s6, .dat (.list rd), s8, .dat (.tuple (rowsD shs)), s10, s11, s12, s13, s14, s15], ⟨_, _, _, _, rfl⟩, ?_, ?_⟩
    · rintro j th ρ s hd2 ⟨s8, s10, s11, s12, rfl⟩
      have hth : tupOk th := by
        rcases List.mem_append.mp (List.mem_of_getElem? hd2) with hm | hm
        · rw [List.mem_singleton.mp hm]
          exact row_tup h4 hsl hss
        · exact ha th hm
      refine dgn 10 scLaw.nd ?_
      refine db_one (ds_for hp rfl <| di_list <| de_lst <| da_cons <| dv 5 <| da_cons <| de_ix ix_tup <| dv 9 <| de_neg <| de_int ⟨_, rfl, dop_ixT (last_rows hgl) <| da_nil ⟨_, .dat (.dat .nil), by simp, fun p4 => .inr ⟨p4, _, rfl, fun t ρ s => ∃ s11 s12, ρ = [s0, .raw (.ref dr), s2, .dat (.tuple (nsD one)), .dat (.tuple (nsD (x :: l))), .dat (.tuple (nsD whole)), s6, .dat (.list rd), s8, .dat (.tuple (rowsD shs)), .dat th, s11, s12, s13, s14, s15], ⟨_, _, rfl⟩, ?_, ?_⟩⟩⟩)
      · rintro t d ρ s hd3 ⟨s11, s12, rfl⟩
        obtain ⟨lw, rfl, hlw⟩ : ∃ lw, d = .tuple (nsD lw) ∧ Shp 24 n lw := by
          have hm := List.mem_of_getElem? hd3
          simp only [List.mem_cons, List.not_mem_nil, or_false] at hm
          rcases hm with rfl | rfl
          · exact ⟨whole, rfl, shp_up hw (by decide)⟩
          · exact ⟨sh, rfl, hsh⟩
        have shw := shp_is hlw h1 h4 (by decide)
        have l2 : (x :: l).length = one.length := by rw [ht.1, ho.1]
        have l3 : lw.length = one.length := by rw [hlw.1, ho.1]
        refine dgn 11 scLaw.nd ?_
        refine db_cons (dset 12 scLaw.nd <| dc_call C2 (hr.mono (by decide)) tk <| da_cons <| dv 3 <| da_cons <| dv 4 <| da_cons <| dv 11 <| da_cons <| dv 10 <| da_nil fun A => ⟨one, lw, x, l, th, rfl, by rw [ho.1]; exact h4, by omega, hll, hth, ?_⟩)
        obtain ⟨b, eb⟩ : ∃ b, b = isLadder one (x :: l) lw th := ⟨_, rfl⟩
        rw [← eb]
        refine db_one (ds_if <| dt_not <| dt_val <| dc_call C3 (hr.mono (by decide)) tk <| da_cons <| de_lst ?_)
        refine da_cons ?_
        refine dc_call C4 (hr.mono (by decide)) tk <| da_cons <| dv 3 <| da_cons <| dv 4 <| da_cons <| dv 11 <| da_cons <| dv 10 <| da_nil fun A => isl_ok sho sht shw l2 l3 ?_
        rw [← eb]
        refine da_cons ?_
        refine dc_callK true (ks := ["thing", "whole", "other", "one"]) C4 (hr.mono (by decide)) tk (fun _ _ _ _ _ _ ws h => by match ws, h with | [_, _, _, _], _ => rfl) <| dk_cons <| dv 10 <| dk_cons <| dv 11 <| dk_cons <| dv 4 <| dk_cons <| dv 3 <| dk_nil fun A => isl_ok sho sht shw l2 l3 ?_
        rw [← eb]
        refine da_nil ⟨_, .dat (.dat .nil), by simp, fun p5 => ?_⟩
        refine da_cons <| de_lst <| da_cons <| dv 12 <| da_cons <| dv 12 <| da_nil ⟨_, .dat (.dat .nil), by simp, fun p6 => da_nil fun A => ⟨_, rfl, two_ok b, by simp [szD, szA], true, rfl, ⟨fun z => absurd z (by decide), fun _ => db_nil ⟨_, _, rfl⟩⟩⟩⟩
      · rintro ρ s ⟨s11, s12, rfl⟩
        exact ⟨_, _, _, _, rfl⟩
    · rintro ρ s ⟨s8, s10, s11, s12, rfl⟩
      exact ⟨_, _, _, _, _, rfl⟩
  · rintro ρ s ⟨s8, s9, s10, s11, s12, rfl⟩
    exact h _ _ _ _ _ _
end
end K33

namespace K33
open PySem PySem.Spec PyProof.Rows L2 DL LH LamX
theorem scCaught : FnScope ["work", "caught", "error"] ["work"] (defScope sCaught) := ⟨rfl, rfl, rfl, by decide +kernel, rfl, by decide +kernel, by decide +kernel⟩
def TV (T0 : Addr) : List (Addr × Str) := [(T0, (("law" : Str) ++ (".<locals>." : Str)) ++ ("<lambda>" : Str))]
theorem memTV (T0 : Addr) : (T0, (("law" : Str) ++ (".<locals>." : Str)) ++ ("<lambda>" : Str)) ∈ TV T0 := List.mem_singleton.mpr rfl
theorem allTV (T0 : Addr) : ∀ p ∈ TV T0, p.1 = T0 → p.2 = (("law" : Str) ++ (".<locals>." : Str)) ++ ("<lambda>" : Str) := fun p hp _ => by rw [List.mem_singleton.mp hp]
/-- what is no shape -/
def badD (n : Nat) : List PyData := [.none, .int 5, .tuple (List.replicate n [PyData.int 25]).flatten, .tuple (List.replicate n [PyData.bool true]).flatten, .list (List.replicate n [PyData.int 0]).flatten, .tuple [], .tuple [.int 0, .int 1, .int 0, .int 1, .int 0]]
theorem bad_no {n : Nat} (h1 : 1 ≤ n) (h4 : n ≤ 4) : ∀ d ∈ badD n, isShape d = false := by
  have go : ∀ m ∈ [1, 2, 3, 4], ∀ d ∈ badD m, isShape d = false := by decide +kernel
  exact go n (by simp; omega)
theorem zeros_no {n : Nat} (h1 : 1 ≤ n) (h4 : n ≤ 4) : (5 - n) ≠ n := by omega
section
variable {P : Program} {w : World} {K : PySem.W.Frag} {mg : Str → Option Value} {base : Heap}
section
variable {CO CT CW : Addr} {m : Mem} {st : m.St} {k : DL.Slot → m.St → Prop} {xk : Exn → m.St → Prop}
theorem isl_one {d1 d2 d3 th : PyData} (h : isShape d1 = false) (hx : xk ⟨.ref CO, []⟩ st) : fIsLadder CO CT CW m [.dat d1, .dat d2, .dat d3, .dat th] st k xk := by
  have no : ∀ {p : Prop}, isShape d1 = true → p := fun {p} z => by rw [h] at z; cases z
  exact ⟨_, _, _, _, rfl, fun _ => hx, fun z => no z, fun z => no z⟩
theorem isl_other {d1 d2 d3 th : PyData} (h : isShape d1 = true) (h2 : isShape d2 = false) (hx : xk ⟨.ref CT, []⟩ st) : fIsLadder CO CT CW m [.dat d1, .dat d2, .dat d3, .dat th] st k xk := by
  have no : ∀ {p : Prop}, isShape d1 = false → p := fun {p} z => by rw [h] at z; cases z
  have no2 : ∀ {p : Prop}, isShape d2 = true → p := fun {p} z => by rw [h2] at z; cases z
  exact ⟨_, _, _, _, rfl, fun z => no z, fun _ _ => hx, fun _ z => no2 z⟩
theorem isl_whole {d1 d3 th : PyData} (h : isShape d1 = true) (h2 : (isShape d3 && decide (lenD d3 = lenD d1)) = false) (hx : xk ⟨.ref CW, []⟩ st) : fIsLadder CO CT CW m [.dat d1, .dat d1, .dat d3, .dat th] st k xk := by
  have no : ∀ {p : Prop}, isShape d1 = false → p := fun {p} z => by rw [h] at z; cases z
  have no2 : ∀ {p : Prop}, (isShape d1 && decide (lenD d1 = lenD d1)) = false → p := fun {p} z => by rw [h] at z; simp at z
  have no3 : ∀ {p : Prop}, isShape d3 = true → lenD d3 = lenD d1 → p := fun {p} z e => by rw [z, decide_eq_true e] at h2; cases h2
  exact ⟨_, _, _, _, rfl, fun z => no z, fun _ z => no2 z, fun _ _ _ => ⟨fun _ => hx, fun z e => no3 z e⟩⟩
end
theorem loop_ok {CO CT CW CS c0 T0 : Addr} {f : Addr} {A : Around} {outer : List PySem.Env} {s1 : Shared} {H : Hp} {E : XK} {c : Cz} {st : c.m.St} {D : Dn c.m} (hr : Room 8 (cxLaw P w K mg base f (.ref c0) A outer s1 H E).A) (tk : Takes (cxLaw P w K mg base f (.ref c0) A outer s1 H E) c.W) (hp : PassesOwn (model P w) (cxLaw P w K mg base f (.ref c0) A outer s1 H E).A (cxLaw P w K mg base f (.ref c0) A outer s1 H E).env (cxLaw P w K mg base f (.ref c0) A outer s1 H E).xe)
    (TB : TabB base mg c0 T0) (CF : CauF K mg sCaught CS) (EO : ErrC K mg "BadOne" CO CS) (ET : ErrC K mg "BadOther" CT CS) (EW : ErrC K mg "BadWhole" CW CS)
    (C1 : Cal P w K mg base "_law_near" sNear ["draw", "row"] 5 fNear) (C2 : Cal P w K mg base "_law_is_ladder" sLIsLadder ["one", "other", "whole", "thing"] 3 fLIsLadder) (C3 : Cal P w K mg base "_law_says" sSays ["told", "due"] 2 fSays) (C4 : Cal P w K mg base "is_ladder" sIsLadder ["one", "other", "whole", "thing"] 6 (fIsLadder CO CT CW))
    (C5 : Cal P w K mg base "_law_three" sThree ["draw"] 5 fThree) (C6 : Cal P w K mg base "_law_ladders" sLadders ["one", "other", "whole"] 3 fLadders) (C7 : Cal P w K mg base "_law_shuffled" sShuffled ["draw", "some"] 3 fShuffled) (C8 : Cal P w K mg base "_law_grown_rows" sGrownRows ["draw", "one", "other", "whole"] 4 fGrownRows) (C9 : Cal P w K mg base "_law_pick" sPick ["draw", "some"] 3 fPick)
    (m1 : mg "isinstance" = none) (m2 : mg "len" = none) (m3 : mg "range" = none) {dr la ca : Addr} {cs : List Int} (hd : HasDraw c.m dr la ca cs) (hT : HasTabs c.m (TV T0)) {s0 s2 s3 s4 s5 s6 s7 s8 s9 s10 s11 s12 s13 s14 s15 : DL.Slot}
    (h : ∀ (s3 s4 s5 s6 s7 s8 s9 s10 s11 s12 s13 s14 : DL.Slot) st', D.nx [s0, .raw (.ref dr), s2, s3, s4, s5, s6, s7, s8, s9, s10, s11, s12, s13, s14, s15] st') :
    DB (cxLaw P w K mg base f (.ref c0) A outer s1 H E) c lawLoop [s0, .raw (.ref dr), s2, s3, s4, s5, s6, s7, s8, s9, s10, s11, s12, s13, s14, s15] st D := by
  have hC : ∃ (jn : Nat) (p0 p0' p0'' p1 p2 p3 p4 p5 p6 p7 p8 p9 p10 p11 : Pos), defBody sCaught = [.Assign [.Name "caught" p0] (.Constant .none jn p0') p0'', .Try [.Expr (.Call (.Name "work" p1) [] [] p2) p3] [.ExceptHandler (some (.Name "ShapeError" p4)) (some "error") [.Assign [.Name "caught" p5] (.Name "error" p6) p7] p8] [] [] p9, .Return (some (.Name "caught" p10)) p11] := ⟨_, _, _, _, _, _, _, _, _, _, _, _, _, _, _, rfl⟩
  refine db_cons (ds_asgD <| dc_call C5 (hr.mono (by decide)) tk <| da_cons <| dv 1 <| da_nil fun A => ⟨dr, la, ca, cs, hd.avoid A, rfl, fun n one other whole h1 h4 ho ht hw st1 => ⟨_, rfl, dg_tup rfl <| dgs_cons <| dgn 3 scLaw.nd <| dgs_cons <| dgn 4 scLaw.nd <| dgs_cons <| dgn 5 scLaw.nd <| dgs_nil ?_⟩⟩)
  obtain ⟨x, l, rfl⟩ : ∃ x l, other = x :: l := by
    cases other with
    | nil => have := ht.1; simp at this; omega
    | cons x l => exact ⟨x, l, rfl⟩
  have sho := shp_is ho h1 h4 (by decide)
  refine db_cons (dset 6 scLaw.nd <| dc_call C6 (hr.mono (by decide)) tk <| da_cons <| dv 3 <| da_cons <| dv 4 <| da_cons <| dv 5 <| da_nil fun A => ⟨n, one, x :: l, whole, rfl, h1, h4, ho, ht, hw, fun ds len hlad hlen hdl => ?_⟩)
  have rowE : ∀ d ∈ ds, RowOk n d := fun d hd1 => by
    obtain ⟨shs, e1, e2, e3⟩ := hlad d hd1
    exact ⟨shs, e1, fun z => by rw [z] at e2; simp at e2, by omega, e3⟩
  have okE : ∀ d ∈ ds, okD d := fun d hd1 => by
    obtain ⟨shs, rfl, _⟩ := rowE d hd1
    exact ok_rowsT shs
  refine db_cons (dset 7 scLaw.nd <| de_bin op_catD <| de_slL <| dc_call C7 (hr.mono (by decide)) tk <| da_cons <| dv 1 <| da_cons <| dv 6 <| da_nil fun A => ⟨dr, la, ca, cs, hd.avoid A, ds, rfl, okE, by omega, fun es hes hel st2 => dp_none <| dp_some <| de_int ⟨_, rfl, es, .dat _, fun p1 => ?_⟩⟩)
  have lcut := cut_len es none (some 2)
  refine dlc 8 scLaw.nd <| di_range1 m3 <| de_int ⟨_, rfl, by decide, by decide, fun q acc s => (∀ d ∈ acc, RowOk n d) ∧ acc.length ≤ q, ⟨(fun _ z => (nomatch z)), Nat.le_refl _⟩, ?_, ?_⟩
  · rintro q d acc s hd2 ⟨ha, hal⟩
    obtain ⟨hq, _⟩ := ints_get hd2
    have hq3 : q < 3 := hq
    refine ⟨by omega, fun _ s0 H0 C cl fp => ?_, fun z => nomatch z⟩
    refine dc_call C8 (hr.mono (by decide)) LamX.takes0 <| da_cons <| dv 1 <| da_cons <| dv 3 <| da_cons <| dv 4 <| da_cons <| dv 5 <| da_nil fun A => ⟨dr, la, ca, cs, hd.avoid A, n, one, x :: l, whole, rfl, h1, h4, ho, ht, hw, fun shs e1 e2 e3 st' => ⟨_, .dat .nil, rfl, fun d2 hm => ?_, by rw [List.length_append, List.length_singleton]; omega⟩⟩
    rcases List.mem_append.mp hm with hm | hm
    · exact ha d2 hm
    · rw [List.mem_singleton.mp hm]
      exact ⟨shs, rfl, e1, e2, e3⟩
  rintro acc s ⟨ha, hal⟩ p2
  rw [ints_len] at hal
  have hal3 : acc.length ≤ 3 := hal
  refine dop_catD (.own p1 _) (.own p2 _) (by omega) fun p3 => db_freeze 7 rfl ?_
  have hrd : ∀ d ∈ DL.cutD es none (some 2) ++ acc, RowOk n d := fun d hm => by
    rcases List.mem_append.mp hm with hm | hm
    · exact rowE d (hes d (mem_cut hm))
    · exact ha d hm
  refine db_cons (chk (hr.mono (by decide)) tk hp C1 C2 C3 C4 m3 hd h1 h4 ho ht hw hrd fun t8 t9 t10 t11 t12 st3 => ?_)
  have nl : (nsD one).length = n := by rw [nsD_len, ho.1]
  refine db_cons (dset 13 scLaw.nd <| dc_call C9 (hr.mono (by decide)) tk <| da_cons <| dv 1 <| da_cons <| de_lst ?_)
  refine da_cons ?_
  refine de_non ?_
  refine da_cons ?_
  refine de_int ?_
  refine da_cons ?_
  refine de_bin op_repA <| de_tup <| da_cons <| de_int <| da_nil ⟨_, .dat .nil, by simp, de_callB call_len_seq (by rfl) m2 boot_len <| da_cons <| dv 3 <| da_nil <| dcall_len (.dat _) (.tup _) <| dop_repA (ds := [.int 25]) (n := (nsD one).length) (by simp) (by omega) (by omega) (by simp) ?_⟩
  refine da_cons ?_
  refine de_bin op_repA <| de_tup <| da_cons <| de_bl <| da_nil ⟨_, .dat .nil, by simp, de_callB call_len_seq (by rfl) m2 boot_len <| da_cons <| dv 3 <| da_nil <| dcall_len (.dat _) (.tup _) <| dop_repA (ds := [.bool true]) (n := (nsD one).length) (by simp) (by omega) (by omega) (by simp) ?_⟩
  refine da_cons ?_
  refine de_bin op_rep <| de_lst <| da_cons <| de_int <| da_nil ⟨_, .dat .nil, by simp, fun p4 => de_callB call_len_seq (by rfl) m2 boot_len <| da_cons <| dv 3 <| da_nil <| dcall_len (.dat _) (.tup _) <| dop_rep (ds := [.int 0]) (n := (nsD one).length) (.own p4 _) (by omega) (by simp; omega) fun p5 => ?_⟩
  refine da_cons ?_
  refine de_tup <| da_nil ⟨_, .nil, by simp, ?_⟩
  refine da_cons ?_
  refine de_tup <| da_cons <| de_int <| da_cons <| de_int <| da_cons <| de_int <| da_cons <| de_int <| da_cons <| de_int <| da_nil ⟨_, .dat (.dat (.dat (.dat (.dat .nil)))), by simp, ?_⟩
  rw [nl]
  refine da_nil ⟨badD n, .dat (.dat (.dat (.dat (.own (.dat (.dat .nil)))))), by simp [badD], fun p6 => da_nil fun A => ⟨dr, la, ca, cs, hd.avoid A, badD n, rfl, by simp [badD], by simp [badD], fun odd hodd st4 => ?_⟩⟩
  have hod := bad_no h1 h4 odd hodd
  refine db_cons (dset 14 scLaw.nd <| de_lstO <| de_caught (kk := 6) (T := TV T0) CF scCaught hC rfl rfl rfl rfl TB rfl (memTV T0) (allTV T0) hr hT (fun A' outer' s' H' H0' E' f' c' A'' hr' tk' => ?_))
  refine dc_call C4 hr' tk' <| da_cons <| dv 13 <| da_cons <| dv 13 <| da_cons <| dv 13 <| da_cons <| de_tup <| da_nil ⟨_, .nil, by simp, da_nil fun A3 => isl_one hod ?_⟩
  refine ⟨EO.exm, rfl, _, rfl, fun p a1 => ?_⟩
  refine db_cons (ds_appendO 14 rfl <| de_caught (kk := 6) (T := TV T0) CF scCaught hC rfl rfl rfl rfl TB rfl (memTV T0) (allTV T0) hr hT (fun A' outer' s' H' H0' E' f' c' A'' hr' tk' => ?_))
  refine dc_call C4 hr' tk' <| da_cons <| dv 3 <| da_cons <| dv 13 <| da_cons <| dv 13 <| da_cons <| de_tup <| da_nil ⟨_, .nil, by simp, da_nil fun A3 => isl_other sho hod ?_⟩
  refine ⟨ET.exm, rfl, _, _, _, rfl, rfl, rfl, by simp, fun a2 => ?_⟩
  refine db_cons (ds_appendO 14 rfl <| de_caught (kk := 6) (T := TV T0) CF scCaught hC rfl rfl rfl rfl TB rfl (memTV T0) (allTV T0) hr hT (fun A' outer' s' H' H0' E' f' c' A'' hr' tk' => ?_))
  refine dc_call C4 hr' tk' <| da_cons <| dv 3 <| da_cons <| dv 3 <| da_cons <| dv 13 <| da_cons <| de_tup <| da_nil ⟨_, .nil, by simp, da_nil fun A3 => isl_whole sho (by rw [hod]; rfl) ?_⟩
  refine ⟨EW.exm, rfl, _, _, _, rfl, rfl, rfl, by simp, fun a3 => ?_⟩
  refine db_cons (ds_appendO 14 rfl <| de_caught (kk := 6) (T := TV T0) CF scCaught hC rfl rfl rfl rfl TB rfl (memTV T0) (allTV T0) hr hT (fun A' outer' s' H' H0' E' f' c' A'' hr' tk' => ?_))
  refine dc_call C4 hr' tk' <| da_cons <| dv 3 <| da_cons <| dv 3 <| da_cons ?_
  refine de_bin op_repA <| de_tup <| da_cons <| de_int <| da_nil ⟨_, .dat .nil, by simp, de_bin op_sub <| de_int <| de_callB call_len_seq (by rfl) m2 boot_len <| da_cons <| dv 3 <| da_nil <| dcall_len (.dat _) (.tup _) <| dop_I0 (d := .int ((5 - n : Nat) : Int)) (by rw [nl]; show some (PyData.int _) = some (PyData.int _); congr 2; omega) <| dop_repA (ds := [.int 0]) (n := 5 - n) (by simp) (by omega) (by omega) (by simp) ?_⟩
  have e1 : ¬ (lenD (.tuple (List.replicate (5 - n) [PyData.int 0]).flatten) = lenD (.tuple (nsD one))) := fun z => by
    have z2 : ((List.replicate (5 - n) [PyData.int 0]).flatten).length = (nsD one).length := z
    rw [nl] at z2
    simp at z2
    omega
  refine da_cons <| de_tup <| da_nil ⟨_, .nil, by simp, da_nil fun A3 => isl_whole sho (by rw [decide_eq_false e1, Bool.and_false]) ?_⟩
  refine ⟨EW.exm, rfl, _, _, _, rfl, rfl, rfl, by simp, fun a4 => ?_⟩
  refine db_one (ds_if <| dt_w <| dw_or <| dt_not <| dt_val <| de_callB call_isX (by rfl) m1 boot_isinstance <| da_cons <| de_ix ix_list <| dv 14 <| de_int <| dop_ixO (i := 14) (n := 0) rfl rfl rfl <| da_cons <| de_cls EO <| da_nil <| dcall_isE EO ⟨true, rfl, ⟨fun z => absurd z (by decide), fun _ => ?_⟩⟩)
  refine dw_or <| dt_not <| dt_val <| de_callB call_isX (by rfl) m1 boot_isinstance <| da_cons <| de_ix ix_list <| dv 14 <| de_int <| dop_ixO (i := 14) (n := 1) rfl rfl rfl <| da_cons <| de_cls ET <| da_nil <| dcall_isE ET ⟨true, rfl, ⟨fun z => absurd z (by decide), fun _ => ?_⟩⟩
  refine dw_or <| dt_not <| dt_val <| de_callB call_isX (by rfl) m1 boot_isinstance <| da_cons <| de_ix ix_list <| dv 14 <| de_int <| dop_ixO (i := 14) (n := 2) rfl rfl rfl <| da_cons <| de_cls EW <| da_nil <| dcall_isE EW ⟨true, rfl, ⟨fun z => absurd z (by decide), fun _ => ?_⟩⟩
  refine dw_or1 <| dt_not <| dt_val <| de_callB call_isX (by rfl) m1 boot_isinstance <| da_cons <| de_ix ix_list <| dv 14 <| de_int <| dop_ixO (i := 14) (n := 3) rfl rfl rfl <| da_cons <| de_cls EW <| da_nil <| dcall_isE EW ⟨true, rfl, ⟨fun z => absurd z (by decide), fun _ => db_nil (h _ _ _ _ _ _ _ _ _ _ _ _ _)⟩⟩
end
end K33

namespace K33
open PySem PySem.Spec PyProof.Rows L2 DL LH LamX
section
variable {P : Program} {w : World} {K : PySem.W.Frag} {mg : Str → Option Value} {base : Heap}
theorem de_pair {X : Cx} {c : Cz} {ρ : DL.Env} {st : c.m.St} {k : DL.Slot → DL.Env → c.m.St → Prop} {a b : Int} {n : Nat} {p p1 p2 : Pos} {j1 j2} (h : k (.dat (.tuple [.int a, .int b])) ρ st) (h1 : starEach [.Constant (.int a) j1 p1, .Constant (.int b) j2 p2] X.env = (false, eval (.Constant (.int a) j1 p1) X.env) :: starEach [.Constant (.int b) j2 p2] X.env := by rfl) (h2 : starEach [.Constant (.int b) j2 p2] X.env = (false, eval (.Constant (.int b) j2 p2) X.env) :: starEach [] X.env := by rfl) :
    DE X c (.Tuple [.Constant (.int a) j1 p1, .Constant (.int b) j2 p2] n p) ρ st k := de_tup <| da_cons (hs := h1) <| de_int <| da_cons (hs := h2) <| de_int <| da_nil ⟨_, .dat (.dat .nil), by simp, h⟩
def spLaw (T0 : Addr) (K : PySem.W.Frag) : Sp := fun vs H Q _ => ∃ (a : Addr) (ns : List Int), vs = [.ref a] ∧ SqL K H a (ns.map V.int) ∧ ns.length ≤ 63 ∧ H T0 = some (.tbl #[]) ∧ ∀ H', Q (.bl true) H'
def th1 : PyData := .tuple (rowsD [[1, 0], [1, 1], [2, 1]])
def th2 : PyData := .tuple (rowsD [[1, 0], [2, 0], [2, 1]])
theorem lad1 : isLadder [1, 0] [2, 0] [2, 1] th1 = true := by decide +kernel
theorem lad2 : isLadder [1, 0] [2, 0] [2, 1] th2 = false := by decide +kernel
theorem sh1 : isShape (.tuple (nsD [1, 0])) = true := by decide +kernel
theorem sh2 : isShape (.tuple (nsD [2, 0])) = true := by decide +kernel
theorem sh3 : isShape (.tuple (nsD [2, 1])) = true := by decide +kernel
abbrev lawLast : List Stmt := [(defBody sLaw).getD 2 (.Pass ⟨0, 0, 0, 0⟩), (defBody sLaw).getD 3 (.Pass ⟨0, 0, 0, 0⟩)]
theorem last_ok {CO CT CW c0 : Addr} {f : Addr} {A : Around} {outer : List PySem.Env} {sh : Shared} {H : Hp} {E : XK} {c : Cz} {st : c.m.St} {D : Dn c.m} (hr' : Room 8 (cxLaw P w K mg base f (.ref c0) A outer sh H E).A) (tk : Takes (cxLaw P w K mg base f (.ref c0) A outer sh H E) c.W)
    (C3 : Cal P w K mg base "_law_says" sSays ["told", "due"] 2 fSays) (C4 : Cal P w K mg base "is_ladder" sIsLadder ["one", "other", "whole", "thing"] 6 (fIsLadder CO CT CW)) {s0 s1 s2 s3 s4 s5 s6 s7 s8 s9 s10 s11 s12 s13 s14 s15 : DL.Slot} (h : ∀ st', D.rt (.dat (.bool true)) st') :
    DB (cxLaw P w K mg base f (.ref c0) A outer sh H E) c lawLast [s0, s1, s2, s3, s4, s5, s6, s7, s8, s9, s10, s11, s12, s13, s14, s15] st D := by
  refine db_cons ?_
  refine @ds_asg _ _ _ _ _ _ _ 15 _ _ scLaw.nd rfl (Or.inl rfl) ?_ ?hs (Or.inr rfl)
  case hs => rfl
  refine de_lst ?_
  refine da_cons ?_
  refine de_tup ?_
  refine da_cons ?_
  refine de_pair ?_
  refine da_cons ?_
  refine de_pair ?_
  refine da_cons ?_
  refine de_pair ?_
  refine da_nil ⟨_, .dat (.dat (.dat .nil)), by simp, ?_⟩
  refine da_cons ?_
  refine de_tup ?_
  refine da_cons ?_
  refine de_pair ?_
  refine da_cons ?_
  refine de_pair ?_
  refine da_cons ?_
  refine de_pair ?_
  refine da_nil ⟨_, .dat (.dat (.dat .nil)), by simp, ?_⟩
  refine da_nil ⟨[th1, th2], .dat (.dat .nil), by simp, fun p0 => ?_⟩
  refine db_one (ds_ret <| dc_call C3 (hr'.mono (by decide)) tk ?_)
  refine da_cons ?_
  refine dlcV 15 10 scLaw.nd ⟨fun i acc s => acc = ([.bool true, .bool false] : List PyData).take i, rfl, ?_, ?_⟩
  · rintro i d acc s0 hd rfl
    refine ⟨by rw [List.length_take]; exact Nat.lt_of_le_of_lt (Nat.min_le_right _ _) (by decide), fun _ s0 H0 C cl fp => ?_, fun z => nomatch z⟩
    refine dc_call C4 (hr'.mono (by decide)) LamX.takes0 ?_
    refine da_cons ?_
    refine de_tup <| da_cons <| de_int <| da_cons <| de_int <| da_nil ⟨_, .dat (.dat .nil), by simp, ?_⟩
    refine da_cons ?_
    refine de_tup <| da_cons <| de_int <| da_cons <| de_int <| da_nil ⟨_, .dat (.dat .nil), by simp, ?_⟩
    refine da_cons ?_
    refine de_tup <| da_cons <| de_int <| da_cons <| de_int <| da_nil ⟨_, .dat (.dat .nil), by simp, ?_⟩
    refine da_cons <| dv 10 <| da_nil fun A => ?_
    match i, hd with
    | 0, hd =>
      cases hd
      exact isl_ok (one := [1, 0]) (other := [2, 0]) (whole := [2, 1]) sh1 sh2 sh3 rfl rfl (by rw [lad1]; exact ⟨_, .dat .nil, rfl, rfl⟩)
    | 1, hd =>
      cases hd
      exact isl_ok (one := [1, 0]) (other := [2, 0]) (whole := [2, 1]) sh1 sh2 sh3 rfl rfl (by rw [lad2]; exact ⟨_, .dat .nil, rfl, rfl⟩)
  · rintro acc s0 rfl p1
    refine da_cons ?_
    refine de_lst ?_
    refine da_cons ?_
    refine de_bl ?_
    refine da_cons ?_
    refine de_bl ?_
    refine da_nil ⟨[.bool true, .bool false], .dat (.dat .nil), by simp, fun p2 => ?_⟩
    refine da_nil fun A => ⟨.list [.bool true, .bool false], rfl, ?_, ?_, _, .dat _, h _⟩
    · exact ⟨rfl, by simp [PyData.depth, PyData.depthAll]⟩
    · simp [szD, szA]
theorem ok_law {CO CT CW CS c0 T0 fB : Addr} {f : Addr} {fdB : FuncData} {oc : Value} {od : Option Addr} {kV doc pm : Value} {an : Option Addr} {ct : Value} {osl : Array (Option Value)}
    (lk : K.lookup f = some ⟨oc, od, .func (PySem.W.fnOf "law" "law" (defArgs sLaw) (defBody sLaw) (defScope sLaw) .none kV doc pm an (.ref c0) ct), osl⟩) (hcd : PySem.W.codeIn K (.ref c0) "law" = true)
    (FB : L2.Fun K "_law_begun" "_law_begun" sBegun fB fdB) (mB' : mg "_law_begun" = some (.ref fB)) (bB : Binds K fdB ["script"] [])
    (TB : TabB base mg c0 T0) (CF : CauF K mg sCaught CS) (EO : ErrC K mg "BadOne" CO CS) (ET : ErrC K mg "BadOther" CT CS) (EW : ErrC K mg "BadWhole" CW CS)
    (C1 : Cal P w K mg base "_law_near" sNear ["draw", "row"] 5 fNear) (C2 : Cal P w K mg base "_law_is_ladder" sLIsLadder ["one", "other", "whole", "thing"] 3 fLIsLadder) (C3 : Cal P w K mg base "_law_says" sSays ["told", "due"] 2 fSays) (C4 : Cal P w K mg base "is_ladder" sIsLadder ["one", "other", "whole", "thing"] 6 (fIsLadder CO CT CW))
    (C5 : Cal P w K mg base "_law_three" sThree ["draw"] 5 fThree) (C6 : Cal P w K mg base "_law_ladders" sLadders ["one", "other", "whole"] 3 fLadders) (C7 : Cal P w K mg base "_law_shuffled" sShuffled ["draw", "some"] 3 fShuffled) (C8 : Cal P w K mg base "_law_grown_rows" sGrownRows ["draw", "one", "other", "whole"] 4 fGrownRows) (C9 : Cal P w K mg base "_law_pick" sPick ["draw", "some"] 3 fPick)
    (m0 : mg "abs" = none) (m1 : mg "isinstance" = none) (m2 : mg "len" = none) (m3 : mg "range" = none) (m4 : mg "min" = none) :
    FnOk P w K mg base (L2.CX P w) 9 f (PySem.W.fnOf "law" "law" (defArgs sLaw) (defBody sLaw) (defScope sLaw) .none kV doc pm an (.ref c0) ct) ["script"] (spLaw T0 K) := by
  refine fn_of lk hcd scLaw (fun vs H Q E h => by obtain ⟨a, ns, rfl, _⟩ := h; rfl) fun A outer s H vs Q E hr h => ?_
  obtain ⟨a, ns, rfl, hS, hlen, hT, q⟩ := h
  refine ⟨WB _ (defBody sLaw), pss_w, ?_⟩
  have hr' : Room 8 (cxLaw P w K mg base f (.ref c0) A outer s H E).A := hr
  have hp : PassesOwn (model P w) (cxLaw P w K mg base f (.ref c0) A outer s H E).A (cxLaw P w K mg base f (.ref c0) A outer s H E).env (cxLaw P w K mg base f (.ref c0) A outer s H E).xe := passes_of rfl
  refine wb_of (pss_cons (ps_set (i := 1) scLaw.nd rfl (.inr rfl) (pe_callS (E := L2.WE (fun _ _ _ _ => False)) (ok_begun (Ts := [T0]) (P := P) (w := w) (base := base) FB m0) (hr'.mono (by decide)) rfl mB' FB.kp bB (fun σ => passAt LamX.takes0 σ) (pa_cons (pe_var (i := 0) rfl (.inl rfl)) pa_nil))) pss_w) ?_
  refine ⟨.ref a, rfl, a, ns, rfl, hS, hlen, fun p hp => by rw [List.mem_singleton.mp hp]; exact hT, fun dr la ca cs d H1 hS1 hT1 hD => ?_⟩
  have hTabs : Tabs (TV T0) H1 := fun p hp => by
    rw [List.mem_singleton.mp hp]
    exact TabS.nil (hT1 T0 (List.mem_singleton.mpr rfl))
  show WB (cxLaw P w K mg base f (.ref c0) A outer s H E) ((defBody sLaw).drop 1) _ [some (.ref a), some (.ref dr), none, none, none, none, none, none, none, none, none, none, none, none, none, none] H1
  have main : DB (cxLaw P w K mg base f (.ref c0) A outer s H E) ⟨fun _ _ _ _ => False, mL (TV T0) dr la ca cs, H1, fun _ _ => False⟩ ((defBody sLaw).drop 1) [.dat (.list (ns.map .int)), .raw (.ref dr), .any, .any, .any, .any, .any, .any, .any, .any, .any, .any, .any, .any, .any, .any] d ⟨fun _ _ => False, fun s _ => s = .dat (.bool true), fun _ _ => False, fun _ _ => False⟩ := by
    have tk : Takes (cxLaw P w K mg base f (.ref c0) A outer s H E) (fun _ _ _ _ => False) := LamX.takes0
    refine db_cons (ds_for hp rfl <| di_range1 m3 <| de_bin op_add <| de_int <| de_callB (call_min2 rfl) (by rfl) m4 boot_min <| da_cons <| de_callB call_len_seq (by rfl) m2 boot_len <| da_cons <| dv 0 <| da_nil <| dcall_len (.dat _) (.lst _) <| da_cons <| de_int <| da_nil <| dcall_min2 <| dop_I0 rfl ⟨_, rfl, ?_, ?_, fun i ρ s => ∃ s2 s3 s4 s5 s6 s7 s8 s9 s10 s11 s12 s13 s14, ρ = [.dat (.list (ns.map .int)), .raw (.ref dr), s2, s3, s4, s5, s6, s7, s8, s9, s10, s11, s12, s13, s14, .any], ⟨_, _, _, _, _, _, _, _, _, _, _, _, _, rfl⟩, ?_, ?_⟩)
    · omega
    · omega
    · rintro i d ρ s' _ ⟨s2, s3, s4, s5, s6, s7, s8, s9, s10, s11, s12, s13, s14, rfl⟩
      refine dgn 2 scLaw.nd ?_
      exact loop_ok hr' tk hp TB CF EO ET EW C1 C2 C3 C4 C5 C6 C7 C8 C9 m1 m2 m3 hdL htL fun t3 t4 t5 t6 t7 t8 t9 t10 t11 t12 t13 t14 st' => ⟨_, _, _, _, _, _, _, _, _, _, _, _, _, rfl⟩
    · rintro ρ s' ⟨s2, s3, s4, s5, s6, s7, s8, s9, s10, s11, s12, s13, s14, rfl⟩
      refine @last_ok P w K mg base CO CT CW c0 f A outer s H E _ _ _ hr' tk C3 C4 _ _ _ _ _ _ _ _ _ _ _ _ _ _ _ _ ?_
      exact fun _ => rfl
  refine main [] _ H1 _ ⟨⟨hD, hTabs⟩, Kp.refl _ _, List.nodup_nil, fun p hp => (nomatch hp), ?_⟩ rfl ⟨fun _ _ _ _ h => h.elim, fun _ _ _ _ h => h.elim, fun _ _ _ _ h => h.elim, fun s' _ v H' e _ _ b => ?_⟩ fun _ _ _ _ _ h => h.elim
  · intro e he
    rcases List.mem_cons.mp (show e ∈ (some (V.ref a), DL.Slot.dat (.list (ns.map .int))) :: (some (V.ref dr), .raw (.ref dr)) :: List.replicate 14 (none, .any) from he) with rfl | he
    · exact ⟨_, rfl, hS1.move fun a o n t e => ⟨fun z => z.elim n fun z => (nomatch z), e⟩⟩
    · rcases List.mem_cons.mp he with rfl | he
      · rfl
      · rw [List.eq_of_mem_replicate he]
        trivial
  · subst e
    have ev : v = .bl true := da_flat (w := .bl true) rfl b
    rw [ev]
    exact q H'
end
end K33

namespace K33
open PySem PySem.Spec PyProof.Rows L2 DL LH LamX
theorem cst_mk {K : PySem.W.Frag} {h : Heap} {mg : Str → Option Value} {x : Str} {u : Value} {i : Int} (X : K.In h) (G : h.Ns mainGlobals mg) (a : PySem.W.nsIn K mainGlobals x = some (some u)) (r : RelV (.int i) u) : Cst mg x i := ⟨_, PySem.W.mg_of X G a, r⟩
theorem all_mk {l : PySem.W.OpenLaw} {w : World} {K : PySem.W.Frag} {h : Heap} {mg : Str → Option Value} {fa c0 T0 CS C0 C1 C2 : Addr} (X : K.In h) (G : h.Ns mainGlobals mg) (hfa : mg "law" = some (.ref fa))
    (tab : PySem.W.CodeHd h c0 T0 ∧ h.get? T0 = some { cls := .none, data := .fields #[] }) (hn : K.lookup T0 = none)
    (d__law_mixed : Df K mg "_law_mixed" sMixed ["draw"])
    (d__law_take : Df K mg "_law_take" sTake ["draw", "amount"])
    (d__law_pick : Df K mg "_law_pick" sPick ["draw", "some"])
    (d__law_kinds : Df K mg "_law_kinds" sKinds ["thing"])
    (d__law_says : Df K mg "_law_says" sSays ["told", "due"])
    (d_is_number : Df K mg "is_number" sIsNumber ["thing"])
    (d_is_size : Df K mg "is_size" sIsSize ["thing"])
    (d_is_shape_of : Df K mg "is_shape_of" sIsShapeOf ["thing"])
    (d_turned_shape_by : Df K mg "turned_shape_by" sTurned ["shape"])
    (d_grown : Df K mg "grown" sGrown ["ahead", "shape"])
    (d_may_follow : Df K mg "may_follow" sMayFollow ["ahead", "news"])
    (d_need_shapes : Df K mg "need_shapes" sNeedShapes ["one", "other"])
    (d_need_three : Df K mg "need_three" sNeedThree ["one", "other", "whole"])
    (d_is_ladder_of : Df K mg "is_ladder_of" sIsLadderOf ["one", "other", "whole", "thing"])
    (d_is_ladder : Df K mg "is_ladder" sIsLadder ["one", "other", "whole", "thing"])
    (d__law_odd : Df K mg "_law_odd" sOdd ["draw"])
    (d__law_is_number : Df K mg "_law_is_number" sLIsNumber ["thing"])
    (d__law_raised : Df K mg "_law_raised" sLRaised ["prime", "power"])
    (d__law_turned_shape : Df K mg "_law_turned_shape" sLTurned ["shape"])
    (d__law_is_shape : Df K mg "_law_is_shape" sLIsShape ["thing"])
    (d__law_slant : Df K mg "_law_slant" sSlant ["numbers"])
    (d__law_sets : Df K mg "_law_sets" sSets ["size", "many"])
    (d__law_near_shape : Df K mg "_law_near_shape" sNearShape ["draw", "shape"])
    (d__law_shapes : Df K mg "_law_shapes" sShapes ["draw", "size"])
    (d__law_letters : Df K mg "_law_letters" sLetters ["one", "strip", "before"])
    (d__law_all_fillings : Df K mg "_law_all_fillings" sAll ["one", "other"])
    (d__law_whole : Df K mg "_law_whole" sWhole ["draw", "one", "other"])
    (d__law_rich : Df K mg "_law_rich" sRich ["draw", "one", "other"])
    (d__law_is_ladder : Df K mg "_law_is_ladder" sLIsLadder ["one", "other", "whole", "thing"])
    (d__law_climbs : Df K mg "_law_climbs" sClimbs ["shapes", "late"])
    (d__law_ladders : Df K mg "_law_ladders" sLadders ["one", "other", "whole"])
    (d__law_three : Df K mg "_law_three" sThree ["draw"])
    (d__law_shuffled : Df K mg "_law_shuffled" sShuffled ["draw", "some"])
    (d__law_grown_rows : Df K mg "_law_grown_rows" sGrownRows ["draw", "one", "other", "whole"])
    (d__law_near : Df K mg "_law_near" sNear ["draw", "row"])
    (d__law_begun : Df K mg "_law_begun" sBegun ["script"])
    (d_law : DfC K mg "law" sLaw ["script"] c0)
    (cf : CauF K mg sCaught CS)
    (e_BadOne : ErrC K mg "BadOne" C0 CS)
    (e_BadOther : ErrC K mg "BadOther" C1 CS)
    (e_BadWhole : ErrC K mg "BadWhole" C2 CS)
    (k_MOST_SIZE : Cst mg "MOST_SIZE" 4)
    (k_MOST_POWER : Cst mg "MOST_POWER" 24)
    (z_int : mg "int" = none)
    (z_len : mg "len" = none)
    (z_isinstance : mg "isinstance" = none)
    (z_tuple : mg "tuple" = none)
    (z_list : mg "list" = none)
    (z_dict : mg "dict" = none)
    (z_bool : mg "bool" = none)
    (z_all : mg "all" = none)
    (z_zip : mg "zip" = none)
    (z_range : mg "range" = none)
    (z_enumerate : mg "enumerate" = none)
    (z_sorted : mg "sorted" = none)
    (z_sum : mg "sum" = none)
    (z_max : mg "max" = none)
    (z_min : mg "min" = none)
    (z_abs : mg "abs" = none) :
    LawAtS l w K (L2.CX l.prog w) 9 63 "script" mg fa h := by
  obtain ⟨fB, fdB, FB, hmB, hbB⟩ := d__law_begun.ex
  obtain ⟨f, oc, od, kV, doc, pm, an, ct, osl, lk, hcd, hkp, hm, hb⟩ := d_law.ex
  rw [hfa] at hm
  cases hm
  refine ⟨PySem.W.fnOf "law" "law" (defArgs sLaw) (defBody sLaw) (defScope sLaw) .none kV doc pm an (.ref c0) ct, [(c0, T0)], spLaw T0 K, fun p hp => by rw [List.mem_singleton.mp hp]; exact tab.2, fun p hp => by rw [List.mem_singleton.mp hp]; exact hn, fun p hp => by rw [List.mem_singleton.mp hp]; exact tab.1, fun s u => .of_eq rfl,
    fun H a ns hl _ hT hS => ⟨a, ns, rfl, hS, hl, hT (c0, T0) (List.mem_singleton.mpr rfl), fun _ => rfl⟩, fun base _ _ TB => ?_⟩
  have TB0 := TB (c0, T0) (List.mem_singleton.mpr rfl)
  have P__law_mixed := ok_mixed (P := l.prog) (w := w) (base := base) d__law_mixed z_int
  have P__law_take := ok_take (P := l.prog) (w := w) (base := base) d__law_take P__law_mixed z_int
  have P__law_pick := ok_pick (P := l.prog) (w := w) (base := base) d__law_pick P__law_take z_len
  have P__law_kinds := ok_kinds (P := l.prog) (w := w) (base := base) d__law_kinds z_isinstance z_tuple z_list z_dict z_bool
  have P__law_says := ok_says (P := l.prog) (w := w) (base := base) d__law_says P__law_kinds
  have P_is_number := ok_is_number (P := l.prog) (w := w) (base := base) d_is_number z_isinstance z_int z_bool
  have P_is_size := ok_is_size (P := l.prog) (w := w) (base := base) d_is_size P_is_number k_MOST_SIZE
  have P_is_shape_of := ok_is_shape_of (P := l.prog) (w := w) (base := base) d_is_shape_of P_is_number P_is_size k_MOST_POWER z_isinstance z_tuple z_len z_all z_zip
  have P_turned_shape_by := ok_turned (P := l.prog) (w := w) (base := base) d_turned_shape_by z_tuple z_len z_range
  have P_grown := ok_grown (P := l.prog) (w := w) (base := base) d_grown z_zip
  have P_may_follow := ok_may_follow (P := l.prog) (w := w) (base := base) d_may_follow z_len
  have P_need_shapes := ok_need_shapes (P := l.prog) (w := w) (base := base) d_need_shapes P_is_shape_of e_BadOne e_BadOther z_len
  have P_need_three := ok_need_three (P := l.prog) (w := w) (base := base) d_need_three P_is_shape_of P_need_shapes e_BadWhole z_len
  have P_is_ladder_of := ok_is_ladder_of (P := l.prog) (w := w) (base := base) d_is_ladder_of P_is_shape_of P_turned_shape_by P_grown P_may_follow z_isinstance z_tuple z_len z_all z_enumerate
  have P_is_ladder := ok_is_ladder (P := l.prog) (w := w) (base := base) d_is_ladder P_need_three P_is_ladder_of
  have P__law_odd := ok_odd (P := l.prog) (w := w) (base := base) d__law_odd P__law_pick
  have P__law_is_number := ok_lis_number (P := l.prog) (w := w) (base := base) d__law_is_number z_isinstance z_int z_bool
  have P__law_raised := ok_lraised (P := l.prog) (w := w) (base := base) d__law_raised z_range
  have P__law_turned_shape := ok_lturned (P := l.prog) (w := w) (base := base) d__law_turned_shape z_tuple z_len z_range
  have P__law_is_shape := ok_lis_shape (P := l.prog) (w := w) (base := base) d__law_is_shape P__law_is_number z_isinstance z_tuple z_len z_list z_sorted
  have P__law_slant := ok_slant (P := l.prog) (w := w) (base := base) d__law_slant z_tuple z_len z_range z_enumerate
  have P__law_sets := ok_sets (P := l.prog) (w := w) (base := base) d__law_sets z_sum z_range
  have P__law_near_shape := ok_near_shape (P := l.prog) (w := w) (base := base) d__law_near_shape P__law_take z_list z_len z_max z_tuple z_sorted
  have P__law_shapes := ok_shapes (P := l.prog) (w := w) (base := base) d__law_shapes P__law_take P__law_pick z_tuple z_sorted z_range
  have P__law_letters := ok_letters (P := l.prog) (w := w) (base := base) d__law_letters z_len z_range z_sum z_min
  have P__law_all_fillings := ok_all (P := l.prog) (w := w) (base := base) d__law_all_fillings P__law_letters z_tuple z_enumerate z_zip
  have P__law_whole := ok_whole (P := l.prog) (w := w) (base := base) d__law_whole P__law_letters P__law_pick P__law_slant z_tuple z_zip
  have P__law_rich := ok_rich (P := l.prog) (w := w) (base := base) d__law_rich P__law_all_fillings P__law_pick z_sorted
  have P__law_is_ladder := ok_lis_ladder (P := l.prog) (w := w) (base := base) d__law_is_ladder P__law_is_shape P__law_turned_shape z_isinstance z_tuple z_len z_range z_enumerate
  have P__law_climbs := ok_climbs (P := l.prog) (w := w) (base := base) d__law_climbs z_len z_zip z_range
  have P__law_ladders := ok_ladders (P := l.prog) (w := w) (base := base) d__law_ladders P__law_is_shape P__law_turned_shape P__law_sets P__law_climbs z_tuple z_len z_range z_enumerate z_int z_zip z_sorted
  have P__law_three := ok_three (P := l.prog) (w := w) (base := base) d__law_three P__law_take P__law_pick P__law_shapes P__law_rich P__law_whole P__law_near_shape
  have P__law_shuffled := ok_shuffled (P := l.prog) (w := w) (base := base) d__law_shuffled P__law_take z_list z_len
  have P__law_grown_rows := ok_grown_rows (P := l.prog) (w := w) (base := base) d__law_grown_rows P__law_is_shape P__law_turned_shape P__law_raised P__law_pick z_tuple z_len z_range z_sum z_int z_zip
  have P__law_near := ok_near (P := l.prog) (w := w) (base := base) d__law_near P__law_take P__law_pick P__law_odd z_list z_len
  exact ok_law (P := l.prog) (w := w) (base := base) lk hcd FB hmB hbB TB0 cf e_BadOne e_BadOther e_BadWhole P__law_near P__law_is_ladder P__law_says P_is_ladder P__law_three P__law_ladders P__law_shuffled P__law_grown_rows P__law_pick z_abs z_isinstance z_len z_range z_min
end K33

open PySem PySem.W PyProof.Rows
set_option maxHeartbeats 0 in
theorem PySem.Challenge.cw_carryshapes_k33_whole_ladders_judged_holds : PySem.Challenge.rw_carryshapes_k33_whole_ladders_judged.Holds := by
  w_on; o_law; k_head; (case hw => w_witness2)
  k_fill
  refine LamX.walk_ofTs (l := PySem.Challenge.rw_carryshapes_k33_whole_ladders_judged) (n := 63) (k := 9) (x := "script") (CX := fun w => L2.CX PySem.Challenge.rw_carryshapes_k33_whole_ladders_judged.prog w) rfl (by decide) rfl ⟨rfl, by decide, by decide⟩ (fun w h Y => PySem.W.km_in_of Y) ?F (fun w H s e s' h => by obtain ⟨_, _, _, _, _, _, _, _, _, _, _, _, z⟩ := h; exact z)
  case F =>
    intro w mg fa h Y KX G hmg
    refine' K33.all_mk KX G hmg (DL.code_mk KX ?tl ?te ?t1 ?t2 ?t3 ?t4 ?t5 (PySem.W.km_tabs_of Y _ ?tm)) ?tn
      (DL.df_mk KX G (fun _ _ _ _ _ _ us hl => match us, hl with | [_], _ => rfl) ?a0 ?l0 ?c0 ?k0)
      (DL.df_mk KX G (fun _ _ _ _ _ _ us hl => match us, hl with | [_, _], _ => rfl) ?a1 ?l1 ?c1 ?k1)
      (DL.df_mk KX G (fun _ _ _ _ _ _ us hl => match us, hl with | [_, _], _ => rfl) ?a2 ?l2 ?c2 ?k2)
      (DL.df_mk KX G (fun _ _ _ _ _ _ us hl => match us, hl with | [_], _ => rfl) ?a3 ?l3 ?c3 ?k3)
      (DL.df_mk KX G (fun _ _ _ _ _ _ us hl => match us, hl with | [_, _], _ => rfl) ?a4 ?l4 ?c4 ?k4)
      (DL.df_mk KX G (fun _ _ _ _ _ _ us hl => match us, hl with | [_], _ => rfl) ?a5 ?l5 ?c5 ?k5)
      (DL.df_mk KX G (fun _ _ _ _ _ _ us hl => match us, hl with | [_], _ => rfl) ?a6 ?l6 ?c6 ?k6)
      (DL.df_mk KX G (fun _ _ _ _ _ _ us hl => match us, hl with | [_], _ => rfl) ?a7 ?l7 ?c7 ?k7)
      (DL.df_mk KX G (fun _ _ _ _ _ _ us hl => match us, hl with | [_], _ => rfl) ?a8 ?l8 ?c8 ?k8)
      (DL.df_mk KX G (fun _ _ _ _ _ _ us hl => match us, hl with | [_, _], _ => rfl) ?a9 ?l9 ?c9 ?k9)
      (DL.df_mk KX G (fun _ _ _ _ _ _ us hl => match us, hl with | [_, _], _ => rfl) ?a10 ?l10 ?c10 ?k10)
      (DL.df_mk KX G (fun _ _ _ _ _ _ us hl => match us, hl with | [_, _], _ => rfl) ?a11 ?l11 ?c11 ?k11)
      (DL.df_mk KX G (fun _ _ _ _ _ _ us hl => match us, hl with | [_, _, _], _ => rfl) ?a12 ?l12 ?c12 ?k12)
      (DL.df_mk KX G (fun _ _ _ _ _ _ us hl => match us, hl with | [_, _, _, _], _ => rfl) ?a13 ?l13 ?c13 ?k13)
      (DL.df_mk KX G (fun _ _ _ _ _ _ us hl => match us, hl with | [_, _, _, _], _ => rfl) ?a14 ?l14 ?c14 ?k14)
      (DL.df_mk KX G (fun _ _ _ _ _ _ us hl => match us, hl with | [_], _ => rfl) ?a15 ?l15 ?c15 ?k15)
      (DL.df_mk KX G (fun _ _ _ _ _ _ us hl => match us, hl with | [_], _ => rfl) ?a16 ?l16 ?c16 ?k16)
      (DL.df_mk KX G (fun _ _ _ _ _ _ us hl => match us, hl with | [_, _], _ => rfl) ?a17 ?l17 ?c17 ?k17)
      (DL.df_mk KX G (fun _ _ _ _ _ _ us hl => match us, hl with | [_], _ => rfl) ?a18 ?l18 ?c18 ?k18)
      (DL.df_mk KX G (fun _ _ _ _ _ _ us hl => match us, hl with | [_], _ => rfl) ?a19 ?l19 ?c19 ?k19)
      (DL.df_mk KX G (fun _ _ _ _ _ _ us hl => match us, hl with | [_], _ => rfl) ?a20 ?l20 ?c20 ?k20)
      (DL.df_mk KX G (fun _ _ _ _ _ _ us hl => match us, hl with | [_, _], _ => rfl) ?a21 ?l21 ?c21 ?k21)
      (DL.df_mk KX G (fun _ _ _ _ _ _ us hl => match us, hl with | [_, _], _ => rfl) ?a22 ?l22 ?c22 ?k22)
      (DL.df_mk KX G (fun _ _ _ _ _ _ us hl => match us, hl with | [_, _], _ => rfl) ?a23 ?l23 ?c23 ?k23)
      (DL.df_mk KX G (fun _ _ _ _ _ _ us hl => match us, hl with | [_, _, _], _ => rfl) ?a24 ?l24 ?c24 ?k24)
      (DL.df_mk KX G (fun _ _ _ _ _ _ us hl => match us, hl with | [_, _], _ => rfl) ?a25 ?l25 ?c25 ?k25)
      (DL.df_mk KX G (fun _ _ _ _ _ _ us hl => match us, hl with | [_, _, _], _ => rfl) ?a26 ?l26 ?c26 ?k26)
      (DL.df_mk KX G (fun _ _ _ _ _ _ us hl => match us, hl with | [_, _, _], _ => rfl) ?a27 ?l27 ?c27 ?k27)
      (DL.df_mk KX G (fun _ _ _ _ _ _ us hl => match us, hl with | [_, _, _, _], _ => rfl) ?a28 ?l28 ?c28 ?k28)
      (DL.df_mk KX G (fun _ _ _ _ _ _ us hl => match us, hl with | [_, _], _ => rfl) ?a29 ?l29 ?c29 ?k29)
      (DL.df_mk KX G (fun _ _ _ _ _ _ us hl => match us, hl with | [_, _, _], _ => rfl) ?a30 ?l30 ?c30 ?k30)
      (DL.df_mk KX G (fun _ _ _ _ _ _ us hl => match us, hl with | [_], _ => rfl) ?a31 ?l31 ?c31 ?k31)
      (DL.df_mk KX G (fun _ _ _ _ _ _ us hl => match us, hl with | [_, _], _ => rfl) ?a32 ?l32 ?c32 ?k32)
      (DL.df_mk KX G (fun _ _ _ _ _ _ us hl => match us, hl with | [_, _, _, _], _ => rfl) ?a33 ?l33 ?c33 ?k33)
      (DL.df_mk KX G (fun _ _ _ _ _ _ us hl => match us, hl with | [_, _], _ => rfl) ?a34 ?l34 ?c34 ?k34)
      (DL.df_mk KX G (fun _ _ _ _ _ _ us hl => match us, hl with | [_], _ => rfl) ?a35 ?l35 ?c35 ?k35)
      (DL.dfC_mk KX G (fun _ _ _ _ _ _ us hl => match us, hl with | [_], _ => rfl) ?a36 ?l36 ?c36 ?k36)
      (DL.cau_mk KX G (fun _ _ _ _ _ _ us hl => match us, hl with | [_], _ => rfl) ?ca ?cl ?cc ?ck ?cs)
      (DL.err_mk KX G ⟨?bs0, ?bh0, ?bt0⟩ ?pa0 ?pq0 ?pk0 ?pt0 ?ps0 ?pg0 ?ph0 ?pi0 ?pd0 ?pc0 ?pn0 ?px0 ?pm0)
      (DL.err_mk KX G ⟨?bs1, ?bh1, ?bt1⟩ ?pa1 ?pq1 ?pk1 ?pt1 ?ps1 ?pg1 ?ph1 ?pi1 ?pd1 ?pc1 ?pn1 ?px1 ?pm1)
      (DL.err_mk KX G ⟨?bs2, ?bh2, ?bt2⟩ ?pa2 ?pq2 ?pk2 ?pt2 ?ps2 ?pg2 ?ph2 ?pi2 ?pd2 ?pc2 ?pn2 ?px2 ?pm2)
      (K33.cst_mk KX G ?oa0 ?ob0)
      (K33.cst_mk KX G ?oa1 ?ob1)
      (PySem.W.mg_none_of KX G ?z0)
      (PySem.W.mg_none_of KX G ?z1)
      (PySem.W.mg_none_of KX G ?z2)
      (PySem.W.mg_none_of KX G ?z3)
      (PySem.W.mg_none_of KX G ?z4)
      (PySem.W.mg_none_of KX G ?z5)
      (PySem.W.mg_none_of KX G ?z6)
      (PySem.W.mg_none_of KX G ?z7)
      (PySem.W.mg_none_of KX G ?z8)
      (PySem.W.mg_none_of KX G ?z9)
      (PySem.W.mg_none_of KX G ?z10)
      (PySem.W.mg_none_of KX G ?z11)
      (PySem.W.mg_none_of KX G ?z12)
      (PySem.W.mg_none_of KX G ?z13)
      (PySem.W.mg_none_of KX G ?z14)
      (PySem.W.mg_none_of KX G ?z15)
    case a0 => k_is
    case l0 => k_is
    case c0 => k_is
    case k0 => k_is
    case a1 => k_is
    case l1 => k_is
    case c1 => k_is
    case k1 => k_is
    case a2 => k_is
    case l2 => k_is
    case c2 => k_is
    case k2 => k_is
    case a3 => k_is
    case l3 => k_is
    case c3 => k_is
    case k3 => k_is
    case a4 => k_is
    case l4 => k_is
    case c4 => k_is
    case k4 => k_is
    case a5 => k_is
    case l5 => k_is
    case c5 => k_is
    case k5 => k_is
    case a6 => k_is
    case l6 => k_is
    case c6 => k_is
    case k6 => k_is
    case a7 => k_is
    case l7 => k_is
    case c7 => k_is
    case k7 => k_is
    case a8 => k_is
    case l8 => k_is
    case c8 => k_is
    case k8 => k_is
    case a9 => k_is
    case l9 => k_is
    case c9 => k_is
    case k9 => k_is
    case a10 => k_is
    case l10 => k_is
    case c10 => k_is
    case k10 => k_is
    case a11 => k_is
    case l11 => k_is
    case c11 => k_is
    case k11 => k_is
    case a12 => k_is
    case l12 => k_is
    case c12 => k_is
    case k12 => k_is
    case a13 => k_is
    case l13 => k_is
    case c13 => k_is
    case k13 => k_is
    case a14 => k_is
    case l14 => k_is
    case c14 => k_is
    case k14 => k_is
    case a15 => k_is
    case l15 => k_is
    case c15 => k_is
    case k15 => k_is
    case a16 => k_is
    case l16 => k_is
    case c16 => k_is
    case k16 => k_is
    case a17 => k_is
    case l17 => k_is
    case c17 => k_is
    case k17 => k_is
    case a18 => k_is
    case l18 => k_is
    case c18 => k_is
    case k18 => k_is
    case a19 => k_is
    case l19 => k_is
    case c19 => k_is
    case k19 => k_is
    case a20 => k_is
    case l20 => k_is
    case c20 => k_is
    case k20 => k_is
    case a21 => k_is
    case l21 => k_is
    case c21 => k_is
    case k21 => k_is
    case a22 => k_is
    case l22 => k_is
    case c22 => k_is
    case k22 => k_is
    case a23 => k_is
    case l23 => k_is
    case c23 => k_is
    case k23 => k_is
    case a24 => k_is
    case l24 => k_is
    case c24 => k_is
    case k24 => k_is
    case a25 => k_is
    case l25 => k_is
    case c25 => k_is
    case k25 => k_is
    case a26 => k_is
    case l26 => k_is
    case c26 => k_is
    case k26 => k_is
    case a27 => k_is
    case l27 => k_is
    case c27 => k_is
    case k27 => k_is
    case a28 => k_is
    case l28 => k_is
    case c28 => k_is
    case k28 => k_is
    case a29 => k_is
    case l29 => k_is
    case c29 => k_is
    case k29 => k_is
    case a30 => k_is
    case l30 => k_is
    case c30 => k_is
    case k30 => k_is
    case a31 => k_is
    case l31 => k_is
    case c31 => k_is
    case k31 => k_is
    case a32 => k_is
    case l32 => k_is
    case c32 => k_is
    case k32 => k_is
    case a33 => k_is
    case l33 => k_is
    case c33 => k_is
    case k33 => k_is
    case a34 => k_is
    case l34 => k_is
    case c34 => k_is
    case k34 => k_is
    case a35 => k_is
    case l35 => k_is
    case c35 => k_is
    case k35 => k_is
    case a36 => k_is
    case l36 => k_is
    case c36 => k_is
    case k36 => k_is
    case ca => k_is
    case cl => k_is
    case cc => k_is
    case ck => k_is
    case cs => k_is
    case tl => k_is
    case te => rfl
    case t1 => rfl
    case t2 => rfl
    case t3 => rfl
    case t4 => rfl
    case t5 => rfl
    case tm => exact List.mem_singleton.mpr rfl
    case tn => kernel_rfl
    case bs0 => k_is
    case bh0 => k_is
    case bt0 => k_is
    case pa0 => k_is
    case pq0 => kernel_rfl
    case pk0 => k_is
    case pt0 => k_is
    case ps0 => k_is
    case pg0 => k_is
    case ph0 => k_is
    case pi0 => k_is
    case pd0 => k_is
    case pc0 => k_is
    case pn0 => k_is
    case px0 => k_is
    case pm0 => k_is
    case bs1 => k_is
    case bh1 => k_is
    case bt1 => k_is
    case pa1 => k_is
    case pq1 => kernel_rfl
    case pk1 => k_is
    case pt1 => k_is
    case ps1 => k_is
    case pg1 => k_is
    case ph1 => k_is
    case pi1 => k_is
    case pd1 => k_is
    case pc1 => k_is
    case pn1 => k_is
    case px1 => k_is
    case pm1 => k_is
    case bs2 => k_is
    case bh2 => k_is
    case bt2 => k_is
    case pa2 => k_is
    case pq2 => kernel_rfl
    case pk2 => k_is
    case pt2 => k_is
    case ps2 => k_is
    case pg2 => k_is
    case ph2 => k_is
    case pi2 => k_is
    case pd2 => k_is
    case pc2 => k_is
    case pn2 => k_is
    case px2 => k_is
    case pm2 => k_is
    case oa0 => k_is
    case ob0 => exact ⟨_, rfl⟩
    case oa1 => k_is
    case ob1 => exact ⟨_, rfl⟩
    case z0 => k_is
    case z1 => k_is
    case z2 => k_is
    case z3 => k_is
    case z4 => k_is
    case z5 => k_is
    case z6 => k_is
    case z7 => k_is
    case z8 => k_is
    case z9 => k_is
    case z10 => k_is
    case z11 => k_is
    case z12 => k_is
    case z13 => k_is
    case z14 => k_is
    case z15 => k_is

