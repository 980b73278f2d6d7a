import PyProof.Rows.All
import Wide.All
import OpenK.AllK
import Wide.FinOn
import HandS.ForMost
import HandS.ForExc
import HandS.Lambda
import HandS.EndTab
import HandS.IsInst
import HandS.Wide
import HandS.Conv
import HandS.ExcValue
import HandS.ExcIs
import PyProof.ExcBaseAll.ValueError
import PySem.Challenge.RW_carryshapes_k00_whole_primes
set_option Elab.async false
set_option linter.all false
set_option maxRecDepth 100000
set_option maxHeartbeats 4000000
/-! # A data layer: defs shown as predicate transformers over plain data -/
namespace DL
open PySem PySem.Spec PyProof.Rows L2

/-! ### canonical readings -/
section
variable (X : Cx)
def WE (e : Expr) : TE := fun σ H Q => ∀ (pins : List (Addr × Obj)) (s : Shared), Inv X pins σ H s → wpAny (model X.prog X.w) X.A (eval e X.env) (EP X pins σ Q) X.xe s
def WT (e : Expr) : TT := fun σ H Q => ∀ (pins : List (Addr × Obj)) (s : Shared), Inv X pins σ H s → wpAny (model X.prog X.w) X.A (isTrue e X.env (eval e X.env)) (TP X pins σ Q) X.xe s
def WW (e : Expr) : TT := fun σ H Q => ∀ (whole : Sem Value) (pins : List (Addr × Obj)) (s : Shared), Inv X pins σ H s → wpAny (model X.prog X.w) X.A (isTrue e X.env whole) (TP X pins σ Q) X.xe s
def WA (es : List Expr) : TA := fun σ H Q => ∀ (pos : Pos) (pins : List (Addr × Obj)) (s : Shared), Inv X pins σ H s → wpAny (model X.prog X.w) X.A (spliced (backTo pos (starEach es X.env))) (AP X pins σ Q) X.xe s
def WS (st : Stmt) : TS := fun D σ H => ∀ (pins : List (Addr × Obj)) (s : Shared), Inv X pins σ H s → wpAny (model X.prog X.w) X.A (exec st X.env) (SP X pins D) X.xe s
def WB (st : List Stmt) : TS := fun D σ H => ∀ (pins : List (Addr × Obj)) (s : Shared), Inv X pins σ H s → wpAny (model X.prog X.w) X.A (execs st X.env) (SP X pins D) X.xe s
end
section
variable {X : Cx} {e : Expr} {es : List Expr} {st : Stmt} {sts : List Stmt} {σ : L2.St} {H : Hp}
theorem pe_w : PE X e (WE X e) := ⟨fun pins s σ H Q I h => h pins s I⟩
theorem pt_w : PT X e (WT X e) := ⟨fun pins s σ H Q I h => h pins s I⟩
theorem pw_w : PW X e (WW X e) := ⟨fun wh pins s σ H Q I h => h wh pins s I⟩
theorem pa_w : PA X es (WA X es) := ⟨fun pos pins s σ H Q I h => h pos pins s I⟩
theorem ps_w : PS X st (WS X st) := ⟨fun pins s σ H D I h => h pins s I⟩
theorem pss_w : PSs X sts (WB X sts) := ⟨fun pins s σ H D I h => h pins s I⟩
theorem we_of {t : TE} {Q : VK} (h : PE X e t) (q : t σ H Q) : WE X e σ H Q := fun pins s I => h.run pins s σ H Q I q
theorem wt_of {t : TT} {Q : Bool → Hp → Prop} (h : PT X e t) (q : t σ H Q) : WT X e σ H Q := fun pins s I => h.run pins s σ H Q I q
theorem ww_of {t : TT} {Q : Bool → Hp → Prop} (h : PW X e t) (q : t σ H Q) : WW X e σ H Q := fun wh pins s I => h.run wh pins s σ H Q I q
theorem wa_of {t : TA} {Q : List V → Hp → Prop} (h : PA X es t) (q : t σ H Q) : WA X es σ H Q := fun pos pins s I => h.run pos pins s σ H Q I q
theorem ws_of {t : TS} {D : Ends} (h : PS X st t) (q : t D σ H) : WS X st D σ H := fun pins s I => h.run pins s σ H D I q
theorem wb_of {t : TS} {D : Ends} (h : PSs X sts t) (q : t D σ H) : WB X sts D σ H := fun pins s I => h.run pins s σ H D I q
end

/-! ### data at values: N, the places that data does not hang on (they may change) -/
def RdL (N : Addr → Prop) (K : PySem.W.Frag) (H : Hp) (a : Addr) (xs : List V) : Prop :=
  (¬ N a ∧ Rd H a (.lst xs)) ∨ ∃ (o : Obj) (its : Array Value) (n : Nat), K.lookup a = some o ∧ o.cls = .type "list" ∧ o.dict = none ∧ o.data = .seq its n ∧ its.size ≤ sizeLine ∧ Vals xs its.toList
def RdT (N : Addr → Prop) (K : PySem.W.Frag) (H : Hp) (a : Addr) (xs : List V) : Prop :=
  (¬ N a ∧ Rd H a (.tup xs)) ∨ ∃ (o : Obj) (its : Array Value) (n : Nat), K.lookup a = some o ∧ o.cls = .type "tuple" ∧ o.data = .seq its n ∧ its.size ≤ sizeLine ∧ Vals xs its.toList
/-- no table of code objects -/
def NT (o : HO) : Prop := ∀ ps, o ≠ .tbl ps
theorem nt_lst {xs : List V} : NT (.lst xs) := fun _ z => nomatch z
theorem nt_tup {xs : List V} : NT (.tup xs) := fun _ z => nomatch z
theorem nt_dK {kvs : List (Key × V)} : NT (.dK kvs) := fun _ z => nomatch z
theorem nt_frz {o : Obj} {u : HO} : NT (.frz o u) := fun _ z => nomatch z
def keyD : Key → PyData
  | .inl i => .int i
  | .inr s => .str s
mutual
inductive Da (N : Addr → Prop) (K : PySem.W.Frag) (H : Hp) : V → PyData → Prop
  | non : Da N K H .non .none
  | bl (b : Bool) : Da N K H (.bl b) (.bool b)
  | int (i : Int) : Da N K H (.int i) (.int i)
  | str (x : Str) : Da N K H (.str x) (.str x)
  | lst {a : Addr} {xs : List V} {ds : List PyData} : RdL N K H a xs → DaAll N K H xs ds → Da N K H (.ref a) (.list ds)
  | tup {a : Addr} {xs : List V} {ds : List PyData} : RdT N K H a xs → DaAll N K H xs ds → Da N K H (.ref a) (.tuple ds)
  | dct {a : Addr} {kvs : List (Key × V)} {ds : List PyData} : ¬ N a → Rd H a (.dK kvs) → DaAll N K H (kvs.map fun p => p.2) ds → Da N K H (.ref a) (.dict ((kvs.map fun p => keyD p.1).zip ds))
inductive DaAll (N : Addr → Prop) (K : PySem.W.Frag) (H : Hp) : List V → List PyData → Prop
  | nil : DaAll N K H [] []
  | cons {v : V} {vs : List V} {d : PyData} {ds : List PyData} : Da N K H v d → DaAll N K H vs ds → DaAll N K H (v :: vs) (d :: ds)
end
section
variable {N N' : Addr → Prop} {K : PySem.W.Frag} {H H' : Hp}
theorem rd_some {a : Addr} {u : HO} (h : Rd H a u) (t : NT u) : ∃ o, NT o ∧ H a = some o := by
  rcases h with h | ⟨o, h⟩
  · exact ⟨_, t, h⟩
  · exact ⟨_, nt_frz, h⟩
theorem Rd.move {a : Addr} {u : HO} (h : Rd H a u) (t : NT u) (k : ∀ o, NT o → H a = some o → H' a = some o) : Rd H' a u := by
  rcases h with h | ⟨o, h⟩
  · exact .inl (k _ t h)
  · exact .inr ⟨o, k _ nt_frz h⟩
theorem rd_n {a : Addr} {u : HO} (h : Rd H a u) (t : NT u) (k : ∀ a o, ¬ N a → NT o → H a = some o → ¬ N' a ∧ H' a = some o) (n : ¬ N a) : ¬ N' a := by
  obtain ⟨o, t, e⟩ := rd_some h t
  exact (k _ _ n t e).1
mutual
/-- N to N', H to H': all that data hangs on goes along -/
theorem Da.move (k : ∀ a o, ¬ N a → NT o → H a = some o → ¬ N' a ∧ H' a = some o) : ∀ {v : V} {d : PyData}, Da N K H v d → Da N' K H' v d
  | _, _, .non => .non
  | _, _, .bl b => .bl b
  | _, _, .int i => .int i
  | _, _, .str x => .str x
  | _, _, .lst (.inl ⟨n, r⟩) q => .lst (.inl ⟨rd_n r nt_lst k n, Rd.move r nt_lst fun o t e => (k _ _ n t e).2⟩) (DaAll.move k q)
  | _, _, .lst (.inr r) q => .lst (.inr r) (DaAll.move k q)
  | _, _, .tup (.inl ⟨n, r⟩) q => .tup (.inl ⟨rd_n r nt_tup k n, Rd.move r nt_tup fun o t e => (k _ _ n t e).2⟩) (DaAll.move k q)
  | _, _, .tup (.inr r) q => .tup (.inr r) (DaAll.move k q)
  | _, _, .dct n r q => .dct (rd_n r nt_dK k n) (Rd.move r nt_dK fun o t e => (k _ _ n t e).2) (DaAll.move k q)
theorem DaAll.move (k : ∀ a o, ¬ N a → NT o → H a = some o → ¬ N' a ∧ H' a = some o) : ∀ {vs : List V} {ds : List PyData}, DaAll N K H vs ds → DaAll N' K H' vs ds
  | _, _, .nil => .nil
  | _, _, .cons h q => .cons (Da.move k h) (DaAll.move k q)
end
theorem DaAll.len : ∀ {vs : List V} {ds : List PyData}, DaAll N K H vs ds → vs.length = ds.length
  | _, _, .nil => rfl
  | _, _, .cons _ q => by rw [List.length_cons, List.length_cons, DaAll.len q]
theorem DaAll.get : ∀ {vs : List V} {ds : List PyData} {i : Nat} {d : PyData}, DaAll N K H vs ds → ds[i]? = some d → ∃ v, vs[i]? = some v ∧ Da N K H v d
  | _, _, _, _, .nil, e => by simp at e
  | _, _, 0, _, .cons h _, e => by simp at e; subst e; exact ⟨_, rfl, h⟩
  | _, _, i + 1, d, .cons _ q, e => by
    obtain ⟨v, h1, h2⟩ := DaAll.get (i := i) (d := d) q (by simpa using e)
    exact ⟨v, by simpa using h1, h2⟩
theorem DaAll.getV : ∀ {vs : List V} {ds : List PyData} {i : Nat} {v : V}, DaAll N K H vs ds → vs[i]? = some v → ∃ d, ds[i]? = some d ∧ Da N K H v d
  | _, _, _, _, .nil, e => by simp at e
  | _, _, 0, _, .cons h _, e => by simp at e; subst e; exact ⟨_, rfl, h⟩
  | _, _, i + 1, v, .cons _ q, e => by
    obtain ⟨d, h1, h2⟩ := DaAll.getV (i := i) (v := v) q (by simpa using e)
    exact ⟨d, by simpa using h1, h2⟩
theorem DaAll.app : ∀ {vs ws : List V} {ds es : List PyData}, DaAll N K H vs ds → DaAll N K H ws es → DaAll N K H (vs ++ ws) (ds ++ es)
  | _, _, _, _, .nil, q => q
  | _, _, _, _, .cons h t, q => .cons h (DaAll.app t q)
theorem DaAll.take : ∀ {vs : List V} {ds : List PyData} (n : Nat), DaAll N K H vs ds → DaAll N K H (vs.take n) (ds.take n)
  | _, _, 0, _ => .nil
  | _, _, _ + 1, .nil => .nil
  | _, _, n + 1, .cons h q => .cons h (DaAll.take n q)
theorem DaAll.drop : ∀ {vs : List V} {ds : List PyData} (n : Nat), DaAll N K H vs ds → DaAll N K H (vs.drop n) (ds.drop n)
  | _, _, 0, q => q
  | _, _, _ + 1, .nil => .nil
  | _, _, n + 1, .cons _ q => DaAll.drop n q
theorem DaAll.set {v : V} {d : PyData} (h : Da N K H v d) : ∀ {vs : List V} {ds : List PyData} (i : Nat), DaAll N K H vs ds → DaAll N K H (vs.set i v) (ds.set i d)
  | _, _, _, .nil => .nil
  | _, _, 0, .cons _ q => .cons h q
  | _, _, i + 1, .cons g q => .cons g (DaAll.set h i q)
theorem DaAll.erase : ∀ {vs : List V} {ds : List PyData} (i : Nat), DaAll N K H vs ds → DaAll N K H (vs.eraseIdx i) (ds.eraseIdx i)
  | _, _, _, .nil => .nil
  | _, _, 0, .cons _ q => q
  | _, _, i + 1, .cons g q => .cons g (DaAll.erase i q)
theorem RdL.sq {a : Addr} {xs : List V} (h : RdL N K H a xs) : SqL K H a xs := h.elim (fun z => .inl z.2) .inr
theorem RdT.sq {a : Addr} {xs : List V} (h : RdT N K H a xs) : SqT K H a xs := h.elim (fun z => .inl z.2) .inr
mutual
theorem Da.dp : ∀ {v : V} {d : PyData}, Da N K H v d → d.canLay0 = true → Dp K H v d
  | _, _, .non, _ => .non
  | _, _, .bl b, _ => .bl b
  | _, _, .int i, _ => .int i
  | _, _, .str x, _ => .str x
  | _, _, .lst r q, h => .lst r.sq (DaAll.dp q (by simpa [PyData.canLay0] using h))
  | _, _, .tup r q, h => .tup r.sq (DaAll.dp q (by simpa [PyData.canLay0] using h))
  | _, _, .dct _ _ _, h => by simp [PyData.canLay0] at h
theorem DaAll.dp : ∀ {vs : List V} {ds : List PyData}, DaAll N K H vs ds → PyData.canLayAll0 ds = true → DpAll K H vs ds
  | _, _, .nil, _ => .nil
  | _, _, .cons h q, e => by
    rw [PyData.canLayAll0, Bool.and_eq_true] at e
    exact .cons (Da.dp h e.1) (DaAll.dp q e.2)
end
end

/-! ### slots, entries, memories -/
inductive Slot where
  | any | raw (v : V) | dat (d : PyData) | own (p : Addr) (ds : List PyData) | obj (φ : Addr → HO)
abbrev Ent := Option V × Slot
def ownP (e : Ent) : Option Addr := match e.2 with
  | .own p _ => some p
  | _ => none
def owns (L : List Ent) : List Addr := L.filterMap ownP
def EntOk (N : Addr → Prop) (K : PySem.W.Frag) (H : Hp) (e : Ent) : Prop := match e.2 with
  | .any => True
  | .raw v => e.1 = some v
  | .dat d => ∃ v, e.1 = some v ∧ Da N K H v d
  | .own p ds => e.1 = some (.ref p) ∧ ∃ xs, H p = some (.lst xs) ∧ DaAll N K H xs ds
  | .obj φ => ∃ a, e.1 = some (.ref a) ∧ ¬ N a ∧ NT (φ a) ∧ H a = some (φ a)
/-- M: what may change in a call; N: what data does not hang on; St, ok: what is known of it -/
structure Mem where
  M : Addr → Prop
  N : Addr → Prop
  sub : ∀ a, M a → N a
  St : Type
  ok : PySem.W.Frag → St → Hp → Prop
  dom : ∀ {K : PySem.W.Frag} {st : St} {H : Hp} {a : Addr}, ok K st H → N a → H a ≠ none
  stab : ∀ {K : PySem.W.Frag} {st : St} {H H' : Hp}, ok K st H → (∀ b, N b → H' b = H b) → (∀ b o, (∀ xs, o ≠ HO.lst xs) → H b = some o → H' b = some o) → ok K st H'
def Kp (M : Addr → Prop) (H H' : Hp) : Prop := ∀ b o, ¬ M b → NT o → H b = some o → H' b = some o
theorem Kp.refl (M : Addr → Prop) (H : Hp) : Kp M H H := fun _ _ _ _ h => h
theorem Kp.trans {M : Addr → Prop} {H H1 H2 : Hp} (a : Kp M H H1) (b : Kp M H1 H2) : Kp M H H2 := fun c o n t h => b c o n t (a c o n t h)
structure Here (m : Mem) (K : PySem.W.Frag) (H0 : Hp) (L : List Ent) (st : m.St) (H : Hp) : Prop where
  ok : m.ok K st H
  kp : Kp m.M H0 H
  nd : (owns L).Nodup
  fr : ∀ p ∈ owns L, ¬ m.N p ∧ Fr0 H0 p
  all : ∀ e ∈ L, EntOk (fun a => m.N a ∨ a ∈ owns L) K H e
theorem owns_cons (e : Ent) (L : List Ent) : owns (e :: L) = (ownP e).toList ++ owns L := by
  unfold owns
  rw [List.filterMap_cons]
  cases ownP e <;> rfl
theorem owns_app (L L' : List Ent) : owns (L ++ L') = owns L ++ owns L' := List.filterMap_append
theorem mem_owns {L : List Ent} {p : Addr} : p ∈ owns L ↔ ∃ e ∈ L, ownP e = some p := List.mem_filterMap
theorem owns_sub {L L' : List Ent} (h : ∀ e ∈ L', e ∈ L) : ∀ p ∈ owns L', p ∈ owns L := fun p hp => by
  obtain ⟨e, he, q⟩ := mem_owns.mp hp
  exact mem_owns.mpr ⟨e, h e he, q⟩
theorem nd_set : ∀ (l : List Ent) (i : Nat) (e : Ent) (t : List Ent), (owns (l ++ e :: t)).Nodup → (owns (l.set i e ++ t)).Nodup
  | [], i, e, t, h => by
    have h' : (owns (e :: t)).Nodup := h
    rw [owns_cons] at h'
    exact (List.nodup_append.mp h').2.1
  | a :: l, 0, e, t, h => by
    have h' : (owns (a :: (l ++ e :: t))).Nodup := h
    rw [owns_cons] at h'
    have h2 := (List.nodup_append.mp h').2.1
    show (owns (e :: (l ++ t))).Nodup
    exact ((List.perm_middle (a := e) (l₁ := l) (l₂ := t)).filterMap ownP).nodup_iff.mp h2
  | a :: l, i + 1, e, t, h => by
    have h' : (owns (a :: (l ++ e :: t))).Nodup := h
    rw [owns_cons] at h'
    obtain ⟨h1, h2, h3⟩ := List.nodup_append.mp h'
    show (owns (a :: (l.set i e ++ t))).Nodup
    rw [owns_cons]
    refine List.nodup_append.mpr ⟨h1, nd_set l i e t h2, fun x hx y hy => h3 x hx y ?_⟩
    refine owns_sub (fun z hz => ?_) y hy
    rcases List.mem_append.mp hz with hz | hz
    · rcases List.mem_or_eq_of_mem_set hz with hz | hz
      · exact List.mem_append_left _ hz
      · subst hz
        exact List.mem_append_right _ List.mem_cons_self
    · exact List.mem_append_right _ (List.mem_cons_of_mem _ hz)
section
variable {m : Mem} {K : PySem.W.Frag} {H0 H H' : Hp} {L L' : List Ent} {st st' : m.St} {p : Addr} {o : HO} {v : V} {s : Slot} {d : PyData} {ds : List PyData} {xs : List V}
theorem EntOk.move {N N' : Addr → Prop} {e : Ent} (h : EntOk N K H e) (k : ∀ a o, ¬ N a → NT o → H a = some o → ¬ N' a ∧ H' a = some o) (ko : ∀ p ds, e.2 = .own p ds → ∀ xs, H p = some (.lst xs) → H' p = some (.lst xs)) : EntOk N' K H' e := by
  obtain ⟨o, s⟩ := e
  cases s with
  | any => trivial
  | raw v => exact h
  | dat d => obtain ⟨v, e, q⟩ := h; exact ⟨v, e, q.move k⟩
  | own p ds => obtain ⟨e, xs, e2, q⟩ := h; exact ⟨e, xs, ko p ds rfl _ e2, q.move k⟩
  | obj φ => obtain ⟨a, e, n, t, q⟩ := h; exact ⟨a, e, (k a _ n t q).1, t, (k a _ n t q).2⟩
theorem nt_fr {o : HO} (t : NT o) (f : Fr0 H p) : H p ≠ some o := fun e => by
  obtain ⟨ps, z⟩ := f _ e
  exact t ps z
theorem fr_none (h : H p = none) : Fr0 H p := fun o e => by rw [h] at e; cases e
theorem nt_or (o : HO) : NT o ∨ ∃ ps, o = .tbl ps := by
  cases o <;> first | exact .inr ⟨_, rfl⟩ | exact .inl fun _ z => nomatch z
theorem Here.fresh0 (h : Here m K H0 L st H) (hn : ¬ m.N p) (hp : Fr0 H p) : Fr0 H0 p := fun o e => by
  rcases nt_or o with t | t
  · exact absurd (h.kp p o (fun z => hn (m.sub _ z)) t e) (nt_fr t hp)
  · exact t
theorem Here.freshN (h : Here m K H0 L st H) (hp : H p = none) : ¬ m.N p := fun n => m.dom h.ok n hp
/-- some of the entries -/
theorem Here.mono (h : Here m K H0 L st H) (hs : ∀ e ∈ L', e ∈ L) (nd : (owns L').Nodup) : Here m K H0 L' st H where
  ok := h.ok
  kp := h.kp
  nd := nd
  fr := fun p hp => h.fr p (owns_sub hs p hp)
  all := fun e he => (h.all e (hs e he)).move (fun a o n t e => ⟨fun z => n (z.elim .inl fun z => .inr (owns_sub hs a z)), e⟩) fun _ _ _ _ q => q
theorem Here.tail {e : Ent} (h : Here m K H0 (e :: L) st H) : Here m K H0 L st H := h.mono (fun x hx => List.mem_cons_of_mem _ hx) (by
  have := h.nd
  rw [owns_cons] at this
  exact (List.nodup_append.mp this).2.1)
theorem Here.perm (h : Here m K H0 L st H) (q : L.Perm L') : Here m K H0 L' st H := h.mono (fun e he => q.mem_iff.mpr he) ((q.filterMap ownP).nodup_iff.mp h.nd)
/-- the entry in the middle goes -/
theorem Here.cut {A B : List Ent} {e : Ent} (h : Here m K H0 (A ++ e :: B) st H) : Here m K H0 (A ++ B) st H := (h.perm List.perm_middle).tail
/-- an entry that owns nothing comes -/
theorem Here.put {A B : List Ent} {e : Ent} (h : Here m K H0 (A ++ B) st H) (he : ownP e = none) (q : EntOk (fun a => m.N a ∨ a ∈ owns (A ++ B)) K H e) : Here m K H0 (A ++ e :: B) st H := by
  have e0 : owns (e :: (A ++ B)) = owns (A ++ B) := by rw [owns_cons, he]; rfl
  have h1 : Here m K H0 (e :: (A ++ B)) st H := ⟨h.ok, h.kp, by rw [e0]; exact h.nd, by rw [e0]; exact h.fr, by
    rw [e0]
    intro x hx
    rcases List.mem_cons.mp hx with rfl | hx
    · exact q
    · exact h.all x hx⟩
  exact h1.perm List.perm_middle.symm
theorem Here.alloc (h : Here m K H0 L st H) (hp : H p = none) : Here m K H0 L st (upd H p o) where
  ok := m.stab h.ok (fun b hb => upd_ne fun z => m.dom h.ok hb (by rw [z]; exact hp)) fun b o _ e => by rw [upd_ne (ne_of_none e hp)]; exact e
  kp := fun b u n t e => by rw [upd_ne (ne_of_none (h.kp b u n t e) hp)]; exact h.kp b u n t e
  nd := h.nd
  fr := h.fr
  all := fun e he => (h.all e he).move (fun a u n t e => ⟨n, by rw [upd_ne (ne_of_none e hp)]; exact e⟩) fun q _ _ u e => by rw [upd_ne (ne_of_none e hp)]; exact e
/-- a new list, owned -/
theorem Here.allocOwn {A B : List Ent} (h : Here m K H0 (A ++ B) st H) (hp : H p = none) (q : DaAll (fun a => m.N a ∨ a ∈ owns (A ++ B)) K H xs ds) : Here m K H0 (A ++ (some (.ref p), .own p ds) :: B) st (upd H p (.lst xs)) := by
  have h1 := h.alloc (o := .lst xs) hp
  have e0 : owns ((some (V.ref p), Slot.own p ds) :: (A ++ B)) = p :: owns (A ++ B) := by rw [owns_cons]; rfl
  have np : p ∉ owns (A ++ B) := fun z => by
    obtain ⟨e, he, q⟩ := mem_owns.mp z
    have k := h.all e he
    obtain ⟨o, s⟩ := e
    cases s with
    | own p' ds' =>
      obtain ⟨_, xs', e2, _⟩ := k
      have : p' = p := Option.some.inj q
      rw [this, hp] at e2
      cases e2
    | _ => cases q
  have mv : ∀ a o, ¬ (m.N a ∨ a ∈ owns (A ++ B)) → upd H p (.lst xs) a = some o → a ≠ p → ¬ (m.N a ∨ a ∈ p :: owns (A ++ B)) := fun a o n e ne z => z.elim (fun z => n (.inl z)) fun z => (List.mem_cons.mp z).elim ne fun z => n (.inr z)
  have h2 : Here m K H0 ((some (.ref p), .own p ds) :: (A ++ B)) st (upd H p (.lst xs)) := by
    refine ⟨h1.ok, h1.kp, by rw [e0]; exact List.nodup_cons.mpr ⟨np, h.nd⟩, ?_, ?_⟩
    · rw [e0]
      intro x hx
      rcases List.mem_cons.mp hx with rfl | hx
      · exact ⟨h.freshN hp, h.fresh0 (h.freshN hp) (fr_none hp)⟩
      · exact h.fr x hx
    · rw [e0]
      intro x hx
      have go : ∀ a o, ¬ (m.N a ∨ a ∈ owns (A ++ B)) → NT o → H a = some o → ¬ (m.N a ∨ a ∈ p :: owns (A ++ B)) ∧ upd H p (.lst xs) a = some o := fun a o n t e => by
        have ne : a ≠ p := ne_of_none e hp
        have e' : upd H p (.lst xs) a = some o := by rw [upd_ne ne]; exact e
        exact ⟨mv a o n e' ne, e'⟩
      rcases List.mem_cons.mp hx with rfl | hx
      · exact ⟨rfl, xs, upd_same, q.move go⟩
      · exact (h.all x hx).move go fun q _ _ u e => by rw [upd_ne (ne_of_none e hp)]; exact e
  exact h2.perm List.perm_middle.symm
/-- an owned list is written -/
theorem Here.write {A B : List Ent} {ds' : List PyData} {ys : List V} {o : Option V} (h : Here m K H0 (A ++ (o, .own p ds) :: B) st H) (q : DaAll (fun a => m.N a ∨ a ∈ owns (A ++ (o, .own p ds) :: B)) K H ys ds') :
    Here m K H0 (A ++ (o, .own p ds') :: B) st (upd H p (.lst ys)) := by
  have hp : p ∈ owns (A ++ (o, .own p ds) :: B) := mem_owns.mpr ⟨_, List.mem_append_right _ List.mem_cons_self, rfl⟩
  have eo : owns (A ++ (o, Slot.own p ds') :: B) = owns (A ++ (o, Slot.own p ds) :: B) := by rw [owns_app, owns_app, owns_cons, owns_cons]; rfl
  obtain ⟨nN, n0⟩ := h.fr p hp
  have go : ∀ a u, ¬ (m.N a ∨ a ∈ owns (A ++ (o, Slot.own p ds) :: B)) → NT u → H a = some u → ¬ (m.N a ∨ a ∈ owns (A ++ (o, Slot.own p ds) :: B)) ∧ upd H p (.lst ys) a = some u := fun a u n t e => ⟨n, by
    rw [upd_ne fun z => n (.inr (by rw [z]; exact hp))]
    exact e⟩
  have h0 := h.all _ (List.mem_append_right A List.mem_cons_self)
  refine ⟨m.stab h.ok (fun b hb => upd_ne fun z => nN (by rw [← z]; exact hb)) (fun b u t e => by
    obtain ⟨_, xs0, e0, _⟩ := h0
    rw [upd_ne fun z => by rw [z, e0] at e; exact t _ (Option.some.inj e).symm]
    exact e), fun b u n t e => ?_, by rw [eo]; exact h.nd, by rw [eo]; exact h.fr, ?_⟩
  · rw [upd_ne fun z => nt_fr t n0 (by rw [← z]; exact e)]
    exact h.kp b u n t e
  · rw [eo]
    intro x hx
    have old : ∀ x ∈ A ++ B, EntOk (fun a => m.N a ∨ a ∈ owns (A ++ (o, Slot.own p ds) :: B)) K (upd H p (.lst ys)) x := fun x hx => by
      have hx' : x ∈ A ++ (o, .own p ds) :: B := (List.mem_append.mp hx).elim (List.mem_append_left _) fun z => List.mem_append_right _ (List.mem_cons_of_mem _ z)
      refine (h.all x hx').move go fun q' ds2 e2 u eu => ?_
      have nq : q' ≠ p := fun z => by
        have n1 := (h.perm List.perm_middle).nd
        rw [owns_cons] at n1
        have n2 := (List.nodup_cons.mp (show (p :: owns (A ++ B)).Nodup from n1)).1
        exact n2 (mem_owns.mpr ⟨x, hx, by unfold ownP; rw [e2, z]⟩)
      rw [upd_ne nq]
      exact eu
    rcases List.mem_append.mp hx with hx | hx
    · exact old x (List.mem_append_left _ hx)
    · rcases List.mem_cons.mp hx with rfl | hx
      · exact ⟨h0.1, ys, upd_same, q.move go⟩
      · exact old x (List.mem_append_right _ hx)
/-- behind a call -/
theorem Here.step (h : Here m K H0 L st H) (k : Kp m.M H H') (ok : m.ok K st' H') : Here m K H0 L st' H' where
  ok := ok
  kp := h.kp.trans k
  nd := h.nd
  fr := h.fr
  all := fun e he => (h.all e he).move (fun a u n t e => ⟨n, k a u (fun z => n (.inl (m.sub _ z))) t e⟩) fun q ds' e2 u eu => k q _ (fun z => (h.fr q (mem_owns.mpr ⟨e, he, by unfold ownP; rw [e2]⟩)).1 (m.sub _ z)) nt_lst eu
end
end DL

namespace DL
open PySem PySem.Spec PyProof.Rows L2

/-! ### the judgements -/
/-- an exception as data: its class, its own fields -/
structure Exn where
  cls : Value
  fs : List (Str × PyData) := []
def ExnAt (N : Addr → Prop) (K : PySem.W.Frag) (H : Hp) (d : Option Addr) (ex : Exn) : Prop :=
  (ex.fs = [] ∧ d = none) ∨ ∃ (a : Addr) (kvs : List (Str × V)), ex.fs ≠ [] ∧ d = some a ∧ H a = some (.xd kvs) ∧ kvs.map (fun p => p.1) = ex.fs.map (fun p => p.1) ∧ DaAll N K H (kvs.map fun p => p.2) (ex.fs.map fun p => p.2)
/-- what surrounds a body: the wish of exceptions, the memory, the heap at the entry, what is wanted of exceptions -/
structure Cz where
  W : WX
  m : Mem
  H0 : Hp
  xk : Exn → m.St → Prop
abbrev Env := List Slot
def Cont (c : Cz) (K : PySem.W.Frag) (σ : L2.St) (τ : List Ent) (k : Slot → Env → c.m.St → Prop) (Q : VK) : Prop :=
  ∀ s ρ' st' v H', k s ρ' st' → Here c.m K c.H0 (σ.zip ρ' ++ (some v, s) :: τ) st' H' → σ.length = ρ'.length → Q v H'
def ContB (c : Cz) (K : PySem.W.Frag) (σ : L2.St) (τ : List Ent) (k : Bool → Env → c.m.St → Prop) (Q : Bool → Hp → Prop) : Prop :=
  ∀ b ρ' st' H', k b ρ' st' → Here c.m K c.H0 (σ.zip ρ' ++ τ) st' H' → σ.length = ρ'.length → Q b H'
def argEnts : List V → List Slot → List Ent
  | v :: vs, s :: ss => (some v, s) :: argEnts vs ss
  | _, _ => []
def ContA (c : Cz) (K : PySem.W.Frag) (σ : L2.St) (τ : List Ent) (k : List Slot → Env → c.m.St → Prop) (Q : List V → Hp → Prop) : Prop :=
  ∀ ss ρ' st' vs H', k ss ρ' st' → vs.length = ss.length → Here c.m K c.H0 (σ.zip ρ' ++ (argEnts vs ss ++ τ)) st' H' → σ.length = ρ'.length → Q vs H'
def ContX (c : Cz) (K : PySem.W.Frag) : Prop := ∀ ex st' d σ' H', c.xk ex st' → c.m.ok K st' H' → Kp c.m.M c.H0 H' → ExnAt c.m.N K H' d ex → c.W ex.cls d σ' H'
def DE (X : Cx) (c : Cz) (e : Expr) (ρ : Env) (st : c.m.St) (k : Slot → Env → c.m.St → Prop) : Prop :=
  ∀ (τ : List Ent) (σ : L2.St) (H : Hp) (Q : VK), Here c.m X.K c.H0 (σ.zip ρ ++ τ) st H → σ.length = ρ.length → Cont c X.K σ τ k Q → ContX c X.K → WE X e σ H Q
def DT (X : Cx) (c : Cz) (e : Expr) (ρ : Env) (st : c.m.St) (k : Bool → Env → c.m.St → Prop) : Prop :=
  ∀ (τ : List Ent) (σ : L2.St) (H : Hp) (Q : Bool → Hp → Prop), Here c.m X.K c.H0 (σ.zip ρ ++ τ) st H → σ.length = ρ.length → ContB c X.K σ τ k Q → ContX c X.K → WT X e σ H Q
def DW (X : Cx) (c : Cz) (e : Expr) (ρ : Env) (st : c.m.St) (k : Bool → Env → c.m.St → Prop) : Prop :=
  ∀ (τ : List Ent) (σ : L2.St) (H : Hp) (Q : Bool → Hp → Prop), Here c.m X.K c.H0 (σ.zip ρ ++ τ) st H → σ.length = ρ.length → ContB c X.K σ τ k Q → ContX c X.K → WW X e σ H Q
def DA (X : Cx) (c : Cz) (es : List Expr) (ρ : Env) (st : c.m.St) (k : List Slot → Env → c.m.St → Prop) : Prop :=
  ∀ (τ : List Ent) (σ : L2.St) (H : Hp) (Q : List V → Hp → Prop), Here c.m X.K c.H0 (σ.zip ρ ++ τ) st H → σ.length = ρ.length → ContA c X.K σ τ k Q → ContX c X.K → WA X es σ H Q
/-- what is wanted behind a statement, over data -/
structure Dn (m : Mem) where
  nx : Env → m.St → Prop
  rt : Slot → m.St → Prop
  bk : Env → m.St → Prop := fun _ _ => False
  ct : Env → m.St → Prop := fun _ _ => False
/-- what is handed back -/
def Back (m : Mem) (K : PySem.W.Frag) (H0 H' : Hp) (v : V) : Slot → Prop
  | .any => True
  | .raw w => v = w
  | .dat d => Da m.N K H' v d
  | .own p ds => v = .ref p ∧ Fr0 H0 p ∧ ¬ m.N p ∧ ∃ xs, H' p = some (.lst xs) ∧ DaAll (fun a => m.N a ∨ a = p) K H' xs ds
  | .obj φ => ∃ a, v = .ref a ∧ ¬ m.N a ∧ NT (φ a) ∧ H' a = some (φ a)
structure ContS (c : Cz) (K : PySem.W.Frag) (τ : List Ent) (D : Dn c.m) (De : Ends) : Prop where
  nx : ∀ ρ' st' σ' H', D.nx ρ' st' → Here c.m K c.H0 (σ'.zip ρ' ++ τ) st' H' → σ'.length = ρ'.length → De.nx σ' H'
  bk : ∀ ρ' st' σ' H', D.bk ρ' st' → Here c.m K c.H0 (σ'.zip ρ' ++ τ) st' H' → σ'.length = ρ'.length → De.bk σ' H'
  ct : ∀ ρ' st' σ' H', D.ct ρ' st' → Here c.m K c.H0 (σ'.zip ρ' ++ τ) st' H' → σ'.length = ρ'.length → De.ct σ' H'
  rt : ∀ s st' v H', D.rt s st' → c.m.ok K st' H' → Kp c.m.M c.H0 H' → Back c.m K c.H0 H' v s → De.rt v H'
def DS (X : Cx) (c : Cz) (s : Stmt) (ρ : Env) (st : c.m.St) (D : Dn c.m) : Prop :=
  ∀ (τ : List Ent) (σ : L2.St) (H : Hp) (De : Ends), Here c.m X.K c.H0 (σ.zip ρ ++ τ) st H → σ.length = ρ.length → ContS c X.K τ D De → ContX c X.K → WS X s De σ H
def DB (X : Cx) (c : Cz) (ss : List Stmt) (ρ : Env) (st : c.m.St) (D : Dn c.m) : Prop :=
  ∀ (τ : List Ent) (σ : L2.St) (H : Hp) (De : Ends), Here c.m X.K c.H0 (σ.zip ρ ++ τ) st H → σ.length = ρ.length → ContS c X.K τ D De → ContX c X.K → WB X ss De σ H

section
variable {X : Cx} {c : Cz} {e a b : Expr} {es : List Expr} {ρ : Env} {st : c.m.St} {pos : Pos} {k : Slot → Env → c.m.St → Prop} {kb : Bool → Env → c.m.St → Prop} {ka : List Slot → Env → c.m.St → Prop}

/-! ### entries at slots -/
theorem zip_get {σ : L2.St} {ρ : Env} {i : Nat} {s : Slot} (hl : σ.length = ρ.length) (h : ρ[i]? = some s) : ∃ o, σ[i]? = some o ∧ (o, s) ∈ σ.zip ρ ∧ (σ.zip ρ)[i]? = some (o, s) := by
  have hi : i < ρ.length := (List.getElem?_eq_some_iff.mp h).1
  have hi' : i < σ.length := by omega
  have e1 : σ[i]? = some σ[i] := List.getElem?_eq_getElem hi'
  have e2 : (σ.zip ρ)[i]? = some (σ[i], s) := by
    rw [List.getElem?_zip_eq_some]
    exact ⟨e1, h⟩
  exact ⟨σ[i], e1, List.mem_of_getElem? e2, e2⟩
theorem zip_set : ∀ (σ : L2.St) (ρ : Env) (i : Nat) (o : Option V) (s : Slot), (σ.set i o).zip (ρ.set i s) = (σ.zip ρ).set i (o, s)
  | [], _, _, _, _ => by simp
  | _ :: _, [], _, _, _ => by simp
  | _ :: _, _ :: _, 0, _, _ => rfl
  | x :: σ, y :: ρ, i + 1, o, s => by
    show (x, y) :: ((σ.set i o).zip (ρ.set i s)) = (x, y) :: ((σ.zip ρ).set i (o, s))
    rw [zip_set σ ρ i o s]
/-- what a slot's name gives -/
def look : Slot → Option Slot
  | .any => none
  | .raw v => some (.raw v)
  | .dat d => some (.dat d)
  | .own p _ => some (.raw (.ref p))
  | .obj φ => some (.obj φ)
theorem look_ok {m : Mem} {K : PySem.W.Frag} {H0 H : Hp} {A B : List Ent} {st : m.St} {o : Option V} {s s' : Slot} (h : Here m K H0 (A ++ B) st H) (he : (o, s) ∈ A ++ B) (hs : look s = some s') : ∃ v, o = some v ∧ Here m K H0 (A ++ (some v, s') :: B) st H := by
  have q := h.all _ he
  cases s with
  | any => cases hs
  | raw v =>
    cases hs
    exact ⟨v, q, h.put rfl rfl⟩
  | dat d =>
    cases hs
    obtain ⟨v, e, z⟩ := q
    exact ⟨v, e, h.put rfl ⟨v, rfl, z⟩⟩
  | own p ds =>
    cases hs
    exact ⟨.ref p, q.1, h.put rfl rfl⟩
  | obj φ =>
    cases hs
    obtain ⟨a, e, n, t, z⟩ := q
    exact ⟨.ref a, e, h.put rfl ⟨a, rfl, n, t, z⟩⟩
theorem de_var {i : Nat} {x : Str} {s s' : Slot} (hρ : ρ[i]? = some s) (hs : look s = some s') (hN : X.N[i]? = some x) (hv : Vis X.env.scope x) (h : k s' ρ st) (hd : (x == ("__debug__" : Str)) = false := by decide) (hcd : (x == ("__classdict__" : Str)) = false := by decide) : DE X c (.Name x pos) ρ st k := by
  intro τ σ H Q hh hl hk hx
  obtain ⟨o, e1, e2, _⟩ := zip_get hl hρ
  obtain ⟨v, rfl, h2⟩ := look_ok hh (List.mem_append_left _ e2) hs
  exact we_of (pe_var hN hv hd hcd) ⟨v, e1, hk _ _ _ _ _ h h2 hl⟩
/-- a value without the heap -/
def flatD : V → Option PyData
  | .non => some .none
  | .bl b => some (.bool b)
  | .int i => some (.int i)
  | .str x => some (.str x)
  | _ => none
theorem flat_da {N : Addr → Prop} {K : PySem.W.Frag} {H : Hp} {v : V} {d : PyData} (h : flatD v = some d) : Da N K H v d := by
  cases v <;> first | (cases h; constructor) | cases h
theorem da_flat {N : Addr → Prop} {K : PySem.W.Frag} {H : Hp} {v w : V} {d : PyData} (h : flatD w = some d) (q : Da N K H v d) : v = w := by
  cases w with
  | non => cases h; cases q; rfl
  | bl b => cases h; cases q; rfl
  | int i => cases h; cases q; rfl
  | str x => cases h; cases q; rfl
  | _ => cases h
theorem Here.flat {m : Mem} {K : PySem.W.Frag} {H0 H : Hp} {A B : List Ent} {st : m.St} {v : V} {d : PyData} (h : Here m K H0 (A ++ B) st H) (hv : flatD v = some d) : Here m K H0 (A ++ (some v, .dat d) :: B) st H := h.put rfl ⟨v, rfl, flat_da hv⟩
theorem Here.dat {m : Mem} {K : PySem.W.Frag} {H0 H : Hp} {L : List Ent} {st : m.St} {o : Option V} {d : PyData} (h : Here m K H0 L st H) (he : (o, .dat d) ∈ L) : ∃ v, o = some v ∧ Da (fun a => m.N a ∨ a ∈ owns L) K H v d := h.all _ he
theorem de_tC {v : V} {d : PyData} (hp : PE X e (tC v)) (hv : flatD v = some d) (h : k (.dat d) ρ st) : DE X c e ρ st k := by
  intro τ σ H Q hh hl hk hx
  exact we_of hp (hk _ _ _ _ _ h (hh.flat hv) hl)
theorem de_int {i : Int} {j} (h : k (.dat (.int i)) ρ st) : DE X c (.Constant (.int i) j pos) ρ st k := de_tC pe_int rfl h
theorem de_bl {i : Bool} {j} (h : k (.dat (.bool i)) ρ st) : DE X c (.Constant (.bool i) j pos) ρ st k := de_tC pe_bl rfl h
theorem de_non {j} (h : k (.dat .none) ρ st) : DE X c (.Constant .none j pos) ρ st k := de_tC pe_non rfl h
theorem de_str {x : Str} {j} (h : k (.dat (.str x)) ρ st) : DE X c (.Constant (.str x) j pos) ρ st k := de_tC pe_str rfl h
theorem de_imp {k' : Slot → Env → c.m.St → Prop} (h : DE X c e ρ st k') (q : ∀ s ρ st, k' s ρ st → k s ρ st) : DE X c e ρ st k := fun τ σ H Q hh hl hk hx => h τ σ H Q hh hl (fun s ρ' st' v H' hk' => hk s ρ' st' v H' (q _ _ _ hk')) hx

/-! ### operators by values -/
/-- the two operands' entries on top -/
def DOp (K : PySem.W.Frag) (c : Cz) (r : R2) (s1 s2 : Slot) (ρ : Env) (st : c.m.St) (k : Slot → Env → c.m.St → Prop) : Prop :=
  ∀ (τ : List Ent) (σ : L2.St) (H : Hp) (Q : VK) (v1 v2 : V), Here c.m K c.H0 (σ.zip ρ ++ (some v2, s2) :: (some v1, s1) :: τ) st H → σ.length = ρ.length → Cont c K σ τ k Q → r v1 v2 H Q
theorem de_two {r : R2} {t : TE → TE → TE} (ht : ∀ ta tb σ H Q, t ta tb σ H Q = ta σ H fun x H1 => tb σ H1 fun y H2 => r x y H2 Q) (hp : PE X e (t (WE X a) (WE X b)))
    (h : DE X c a ρ st fun s1 ρ1 st1 => DE X c b ρ1 st1 fun s2 ρ2 st2 => DOp X.K c r s1 s2 ρ2 st2 k) : DE X c e ρ st k := by
  intro τ σ H Q hh hl hk hx
  refine we_of hp ?_
  rw [ht]
  refine h τ σ H _ hh hl (fun s1 ρ1 st1 v1 H1 h1 hh1 hl1 => ?_) hx
  exact h1 _ σ H1 _ hh1 hl1 (fun s2 ρ2 st2 v2 H2 h2 hh2 hl2 => h2 τ σ H2 Q v1 v2 hh2 hl2 hk) hx
theorem de_bin {op : Operator} {r : R2} (ho : OpR X (binaryOp op) r) (h : DE X c a ρ st fun s1 ρ1 st1 => DE X c b ρ1 st1 fun s2 ρ2 st2 => DOp X.K c r s1 s2 ρ2 st2 k) : DE X c (.BinOp a op b pos) ρ st k :=
  de_two (t := tOp r) (fun _ _ _ _ _ => rfl) (pe_op ho pe_w pe_w) h
theorem de_cmp {op : CmpOp} {r : R2} (ho : OpR X (compareOp op) r) (hm : behindInMarks op b = false) (h : DE X c a ρ st fun s1 ρ1 st1 => DE X c b ρ1 st1 fun s2 ρ2 st2 => DOp X.K c r s1 s2 ρ2 st2 k) : DE X c (.Compare a [op] [b] pos) ρ st k :=
  de_two (t := tOp r) (fun _ _ _ _ _ => rfl) (pe_cmpR ho pe_w pe_w hm) h
theorem de_ix {r : R2} (ho : IxR X r) (h : DE X c a ρ st fun s1 ρ1 st1 => DE X c b ρ1 st1 fun s2 ρ2 st2 => DOp X.K c r s1 s2 ρ2 st2 k) (hs : PlainIx b := by exact fun _ _ => rfl) : DE X c (.Subscript a b pos) ρ st k :=
  de_two (t := tOp r) (fun _ _ _ _ _ => rfl) (pe_ix ho pe_w pe_w hs) h
section
variable {K : PySem.W.Frag} {s1 s2 : Slot} {m : Mem} {H0 H : Hp} {A B : List Ent}
/-- two temporaries go, a flat value comes -/
theorem Here.two {m : Mem} {st : m.St} {e1 e2 : Ent} {v : V} {d : PyData} (h : Here m K H0 (A ++ e1 :: e2 :: B) st H) (hv : flatD v = some d) : Here m K H0 (A ++ (some v, .dat d) :: B) st H := Here.flat (Here.cut (Here.cut h)) hv
theorem Here.one {m : Mem} {st : m.St} {e1 : Ent} {v : V} {d : PyData} (h : Here m K H0 (A ++ e1 :: B) st H) (hv : flatD v = some d) : Here m K H0 (A ++ (some v, .dat d) :: B) st H := Here.flat (Here.cut h) hv
theorem Here.int1 {m : Mem} {st : m.St} {o : Option V} {d : PyData} {w : V} (h : Here m K H0 (A ++ (o, .dat d) :: B) st H) (hw : flatD w = some d) : o = some w := by
  obtain ⟨v, rfl, q⟩ := h.dat (List.mem_append_right _ List.mem_cons_self)
  rw [da_flat hw q]
theorem Here.int2 {m : Mem} {st : m.St} {o : Option V} {d : PyData} {w : V} {e : Ent} (h : Here m K H0 (A ++ e :: (o, .dat d) :: B) st H) (hw : flatD w = some d) : o = some w := by
  obtain ⟨v, rfl, q⟩ := h.dat (List.mem_append_right _ (List.mem_cons_of_mem _ List.mem_cons_self))
  rw [da_flat hw q]
theorem dop_I0 {g : Int → Int → V} {i j : Int} {d : PyData} (hd : flatD (g i j) = some d) (h : k (.dat d) ρ st) : DOp K c (rI0 g) (.dat (.int i)) (.dat (.int j)) ρ st k := by
  intro τ σ H Q v1 v2 hh hl hk
  have e1 : v1 = .int i := Option.some.inj (hh.int2 (w := .int i) rfl)
  have e2 : v2 = .int j := Option.some.inj (hh.int1 (w := .int j) rfl)
  exact ⟨i, j, e1, e2, hk _ _ _ _ _ h (hh.two hd) hl⟩
theorem dop_I {g : Int → Int → V} {C : Int → Int → Prop} {i j : Int} {d : PyData} (hd : flatD (g i j) = some d) (hc : C i j) (h : k (.dat d) ρ st) : DOp K c (rI C g) (.dat (.int i)) (.dat (.int j)) ρ st k := by
  intro τ σ H Q v1 v2 hh hl hk
  have e1 : v1 = .int i := Option.some.inj (hh.int2 (w := .int i) rfl)
  have e2 : v2 = .int j := Option.some.inj (hh.int1 (w := .int j) rfl)
  exact ⟨i, j, e1, e2, hc, hk _ _ _ _ _ h (hh.two hd) hl⟩
/-- == of flat values of one kind -/
theorem dop_eq {x y : V} {dx dy : PyData} (hx : flatD x = some dx) (hy : flatD y = some dy) (hs : scal x y = true) (h : k (.dat (.bool (decide (x = y)))) ρ st) : DOp K c rEq (.dat dx) (.dat dy) ρ st k := by
  intro τ σ H Q v1 v2 hh hl hk
  have e1 : v1 = x := Option.some.inj (hh.int2 hx)
  have e2 : v2 = y := Option.some.inj (hh.int1 hy)
  subst e1 e2
  exact ⟨hs, hk _ _ _ _ _ h (hh.two (v := .bl _) rfl) hl⟩
theorem dop_ne {x y : V} {dx dy : PyData} (hx : flatD x = some dx) (hy : flatD y = some dy) (hs : scal x y = true) (h : k (.dat (.bool (!decide (x = y)))) ρ st) : DOp K c rNe (.dat dx) (.dat dy) ρ st k := by
  intro τ σ H Q v1 v2 hh hl hk
  have e1 : v1 = x := Option.some.inj (hh.int2 hx)
  have e2 : v2 = y := Option.some.inj (hh.int1 hy)
  subst e1 e2
  exact ⟨hs, hk _ _ _ _ _ h (hh.two (v := .bl _) rfl) hl⟩
/-- what an operand is as data: a fresh list, or an owned one by its name, is its list -/
inductive AsD (ρ : Env) : Slot → PyData → Prop
  | dat (d : PyData) : AsD ρ (.dat d) d
  | own (p : Addr) (ds : List PyData) : AsD ρ (.own p ds) (.list ds)
  | ref (p : Addr) (ds : List PyData) (i : Nat) (h : ρ[i]? = some (.own p ds)) : AsD ρ (.raw (.ref p)) (.list ds)
/-- as it lies: with the places of the owned ones -/
theorem asD_ok {m : Mem} {st : m.St} {σ : L2.St} {ρ : Env} {L : List Ent} {v : V} {s : Slot} {d : PyData} (h : Here m K H0 L st H) (hz : ∀ e ∈ σ.zip ρ, e ∈ L) (hl : σ.length = ρ.length) (hm : (some v, s) ∈ L) (a : AsD ρ s d) : Da (fun a => m.N a) K H v d := by
  have wk : ∀ {v d}, Da (fun a => m.N a ∨ a ∈ owns L) K H v d → Da (fun a => m.N a) K H v d := fun q => q.move fun a o n t e => ⟨fun z => n (.inl z), e⟩
  have wkA : ∀ {v d}, DaAll (fun a => m.N a ∨ a ∈ owns L) K H v d → DaAll (fun a => m.N a) K H v d := fun q => q.move fun a o n t e => ⟨fun z => n (.inl z), e⟩
  cases a with
  | dat d =>
    obtain ⟨v', e, q⟩ := h.dat hm
    cases e
    exact wk q
  | own p ds =>
    obtain ⟨e, xs, e2, q⟩ := h.all _ hm
    cases e
    exact .lst (.inl ⟨(h.fr p (mem_owns.mpr ⟨_, hm, rfl⟩)).1, .inl e2⟩) (wkA q)
  | ref p ds i hi =>
    have e : some v = some (V.ref p) := h.all _ hm
    cases e
    obtain ⟨o, _, e2, _⟩ := zip_get hl hi
    have e3 := hz _ e2
    obtain ⟨_, xs, e4, q⟩ := h.all _ e3
    exact .lst (.inl ⟨(h.fr p (mem_owns.mpr ⟨_, e3, rfl⟩)).1, .inl e4⟩) (wkA q)
theorem dop_eqD {d1 d2 : PyData} (a1 : AsD ρ s1 d1) (a2 : AsD ρ s2 d2) (h1 : SeqAt.shaped d1 = true) (h2 : SeqAt.shaped d2 = true) (h : k (.dat (.bool (PyData.eqv d1 d2))) ρ st) : DOp K c (rEqD K) s1 s2 ρ st k := by
  intro τ σ H Q v1 v2 hh hl hk
  have m1 := asD_ok hh (fun e he => List.mem_append_left _ he) hl (List.mem_append_right _ (List.mem_cons_of_mem _ List.mem_cons_self)) a1
  have m2 := asD_ok hh (fun e he => List.mem_append_left _ he) hl (List.mem_append_right _ List.mem_cons_self) a2
  exact ⟨d1, d2, m1.dp (SeqAt.canLay_of_shaped h1), m2.dp (SeqAt.canLay_of_shaped h2), h1, h2, hk _ _ _ _ _ h (hh.two (v := .bl _) rfl) hl⟩
theorem dop_neD {d1 d2 : PyData} (a1 : AsD ρ s1 d1) (a2 : AsD ρ s2 d2) (h1 : SeqAt.shaped d1 = true) (h2 : SeqAt.shaped d2 = true) (h : k (.dat (.bool (!PyData.eqv d1 d2))) ρ st) : DOp K c (rNeD K) s1 s2 ρ st k := by
  intro τ σ H Q v1 v2 hh hl hk
  have m1 := asD_ok hh (fun e he => List.mem_append_left _ he) hl (List.mem_append_right _ (List.mem_cons_of_mem _ List.mem_cons_self)) a1
  have m2 := asD_ok hh (fun e he => List.mem_append_left _ he) hl (List.mem_append_right _ List.mem_cons_self) a2
  exact ⟨d1, d2, m1.dp (SeqAt.canLay_of_shaped h1), m2.dp (SeqAt.canLay_of_shaped h2), h1, h2, hk _ _ _ _ _ h (hh.two (v := .bl _) rfl) hl⟩
end
end
end DL

namespace DL
open PySem PySem.Spec PyProof.Rows L2

section
variable {X : Cx} {c : Cz} {e a b t : Expr} {es : List Expr} {ρ : Env} {st : c.m.St} {pos : Pos} {k : Slot → Env → c.m.St → Prop} {kb : Bool → Env → c.m.St → Prop} {ka : List Slot → Env → c.m.St → Prop}

/-! ### tests -/
theorem bool_of {K : PySem.W.Frag} {m : Mem} {H0 H : Hp} {A B : List Ent} {st : m.St} {v : V} {x : Bool} (h : Here m K H0 (A ++ (some v, .dat (.bool x)) :: B) st H) : v = .bl x := Option.some.inj (h.int1 (w := .bl x) rfl)
theorem dt_val (h : DE X c e ρ st fun s ρ1 st1 => ∃ x, s = .dat (.bool x) ∧ kb x ρ1 st1) (he : ∀ whole, isTrue e X.env whole = (do let v ← whole; standAt e.pos; holding [v] (truthy v)) := by intro _; rfl) : DT X c e ρ st kb := by
  intro τ σ H Q hh hl hk hx
  refine wt_of (pt_val pe_w he) (h τ σ H _ hh hl (fun s ρ1 st1 v H1 h1 hh1 hl1 => ?_) hx)
  obtain ⟨x, rfl, q⟩ := h1
  exact ⟨x, bool_of hh1, hk _ _ _ _ q hh1.cut hl1⟩
theorem dt_cmp {op : CmpOp} {r : R2} (ho : OpR X (compareOp op) r) (hm : behindInMarks op b = false)
    (h : DE X c a ρ st fun s1 ρ1 st1 => DE X c b ρ1 st1 fun s2 ρ2 st2 => DOp X.K c r s1 s2 ρ2 st2 fun s ρ3 st3 => ∃ x, s = .dat (.bool x) ∧ kb x ρ3 st3) : DT X c (.Compare a [op] [b] pos) ρ st kb := by
  intro τ σ H Q hh hl hk hx
  refine wt_of (pt_cmpR ho pe_w pe_w hm) ?_
  refine h τ σ H _ hh hl (fun s1 ρ1 st1 v1 H1 h1 hh1 hl1 => ?_) hx
  refine h1 _ σ H1 _ hh1 hl1 (fun s2 ρ2 st2 v2 H2 h2 hh2 hl2 => ?_) hx
  refine h2 τ σ H2 _ v1 v2 hh2 hl2 (fun s ρ3 st3 v H3 h3 hh3 hl3 => ?_)
  obtain ⟨x, rfl, q⟩ := h3
  exact ⟨x, bool_of hh3, hk _ _ _ _ q hh3.cut hl3⟩
theorem dt_not (h : DT X c a ρ st fun x ρ1 st1 => kb (!x) ρ1 st1) : DT X c (.UnaryOp .Not a pos) ρ st kb := by
  intro τ σ H Q hh hl hk hx
  exact wt_of (pt_not pt_w) (h τ σ H _ hh hl (fun x ρ1 st1 H1 h1 hh1 hl1 => hk _ _ _ _ h1 hh1 hl1) hx)
theorem dt_w (h : DW X c e ρ st kb) : DT X c e ρ st kb := fun τ σ H Q hh hl hk hx => wt_of pw_w.pt (h τ σ H Q hh hl hk hx)
theorem dw_and1 {pos'} (h : DT X c a ρ st kb) : DW X c (.BoolOp .And [a] pos') ρ st kb := fun τ σ H Q hh hl hk hx => ww_of (pw_and1 pt_w) (h τ σ H Q hh hl hk hx)
theorem dw_or1 {pos'} (h : DT X c a ρ st kb) : DW X c (.BoolOp .Or [a] pos') ρ st kb := fun τ σ H Q hh hl hk hx => ww_of (pw_or1 pt_w) (h τ σ H Q hh hl hk hx)
theorem dw_and {rest : List Expr} {pos'} (h : DT X c a ρ st fun x ρ1 st1 => (x = true → DW X c (.BoolOp .And (b :: rest) pos') ρ1 st1 kb) ∧ (x = false → kb false ρ1 st1)) : DW X c (.BoolOp .And (a :: b :: rest) pos') ρ st kb := by
  intro τ σ H Q hh hl hk hx
  refine ww_of (pw_and pt_w pw_w) (h τ σ H _ hh hl (fun x ρ1 st1 H1 h1 hh1 hl1 => ?_) hx)
  cases x with
  | true => exact iteT (h1.1 rfl τ σ H1 Q hh1 hl1 hk hx)
  | false => exact iteF (hk _ _ _ _ (h1.2 rfl) hh1 hl1)
theorem dw_or {rest : List Expr} {pos'} (h : DT X c a ρ st fun x ρ1 st1 => (x = true → kb true ρ1 st1) ∧ (x = false → DW X c (.BoolOp .Or (b :: rest) pos') ρ1 st1 kb)) : DW X c (.BoolOp .Or (a :: b :: rest) pos') ρ st kb := by
  intro τ σ H Q hh hl hk hx
  refine ww_of (pw_or pt_w pw_w) (h τ σ H _ hh hl (fun x ρ1 st1 H1 h1 hh1 hl1 => ?_) hx)
  cases x with
  | true => exact iteT (hk _ _ _ _ (h1.1 rfl) hh1 hl1)
  | false => exact iteF (h1.2 rfl τ σ H1 Q hh1 hl1 hk hx)

/-! ### values by tests -/
theorem de_if (h : DT X c t ρ st fun x ρ1 st1 => (x = true → DE X c a ρ1 st1 k) ∧ (x = false → DE X c b ρ1 st1 k)) : DE X c (.IfExp t a b pos) ρ st k := by
  intro τ σ H Q hh hl hk hx
  refine we_of (pe_ifExp pt_w pe_w pe_w) (h τ σ H _ hh hl (fun x ρ1 st1 H1 h1 hh1 hl1 => ?_) hx)
  cases x with
  | true => exact iteT (h1.1 rfl τ σ H1 Q hh1 hl1 hk hx)
  | false => exact iteF (h1.2 rfl τ σ H1 Q hh1 hl1 hk hx)
theorem de_one {op} {pos'} (h : DE X c a ρ st k) : DE X c (.BoolOp op [a] pos') ρ st k := fun τ σ H Q hh hl hk hx => we_of (pe_one pe_w) (h τ σ H Q hh hl hk hx)
theorem de_and {rest : List Expr} {pos'} (h : DE X c a ρ st fun s ρ1 st1 => ∃ x, s = .dat (.bool x) ∧ (x = true → DE X c (.BoolOp .And (b :: rest) pos') ρ1 st1 k) ∧ (x = false → k (.dat (.bool false)) ρ1 st1)) : DE X c (.BoolOp .And (a :: b :: rest) pos') ρ st k := by
  intro τ σ H Q hh hl hk hx
  refine we_of (pe_and pe_w pe_w) (h τ σ H _ hh hl (fun s ρ1 st1 v H1 h1 hh1 hl1 => ?_) hx)
  obtain ⟨x, rfl, q1, q2⟩ := h1
  refine ⟨x, bool_of hh1, ?_⟩
  cases x with
  | true => exact iteT (q1 rfl τ σ H1 Q hh1.cut hl1 hk hx)
  | false => exact iteF (hk _ _ _ _ _ (q2 rfl) (hh1.one rfl) hl1)
theorem de_or {rest : List Expr} {pos'} (h : DE X c a ρ st fun s ρ1 st1 => ∃ x, s = .dat (.bool x) ∧ (x = true → k (.dat (.bool true)) ρ1 st1) ∧ (x = false → DE X c (.BoolOp .Or (b :: rest) pos') ρ1 st1 k)) : DE X c (.BoolOp .Or (a :: b :: rest) pos') ρ st k := by
  intro τ σ H Q hh hl hk hx
  refine we_of (pe_or pe_w pe_w) (h τ σ H _ hh hl (fun s ρ1 st1 v H1 h1 hh1 hl1 => ?_) hx)
  obtain ⟨x, rfl, q1, q2⟩ := h1
  refine ⟨x, bool_of hh1, ?_⟩
  cases x with
  | true => exact iteT (hk _ _ _ _ _ (q1 rfl) (hh1.one rfl) hl1)
  | false => exact iteF (q2 rfl τ σ H1 Q hh1.cut hl1 hk hx)
theorem de_not (h : DE X c a ρ st fun s ρ1 st1 => ∃ x, s = .dat (.bool x) ∧ k (.dat (.bool (!x))) ρ1 st1) : DE X c (.UnaryOp .Not a pos) ρ st k := by
  intro τ σ H Q hh hl hk hx
  refine we_of (pe_not pe_w) (h τ σ H _ hh hl (fun s ρ1 st1 v H1 h1 hh1 hl1 => ?_) hx)
  obtain ⟨x, rfl, q⟩ := h1
  exact ⟨x, bool_of hh1, hk _ _ _ _ _ q (hh1.one (v := .bl _) rfl) hl1⟩
theorem de_neg (h : DE X c a ρ st fun s ρ1 st1 => ∃ i, s = .dat (.int i) ∧ k (.dat (.int (-i))) ρ1 st1) : DE X c (.UnaryOp .USub a pos) ρ st k := by
  intro τ σ H Q hh hl hk hx
  refine we_of (pe_un un_neg pe_w) (h τ σ H _ hh hl (fun s ρ1 st1 v H1 h1 hh1 hl1 => ?_) hx)
  obtain ⟨i, rfl, q⟩ := h1
  exact ⟨i, Option.some.inj (hh1.int1 (w := .int i) rfl), hk _ _ _ _ _ q (hh1.one (v := .int _) rfl) hl1⟩

/-! ### arguments, displays -/
theorem da_nil (h : ka [] ρ st) : DA X c [] ρ st ka := fun τ σ H Q hh hl hk hx => wa_of pa_nil (hk _ _ _ [] _ h rfl hh hl)
theorem da_cons (h : DE X c e ρ st fun s ρ1 st1 => DA X c es ρ1 st1 fun ss ρ2 st2 => ka (s :: ss) ρ2 st2) (hs : starEach (e :: es) X.env = (false, eval e X.env) :: starEach es X.env := by rfl) : DA X c (e :: es) ρ st ka := by
  intro τ σ H Q hh hl hk hx
  refine wa_of (pa_cons pe_w pa_w hs) (h τ σ H _ hh hl (fun s ρ1 st1 v H1 h1 hh1 hl1 => ?_) hx)
  refine h1 _ σ H1 _ hh1 hl1 (fun ss ρ2 st2 vs H2 h2 hlen hh2 hl2 => ?_) hx
  refine hk _ _ _ (v :: vs) _ h2 (by rw [List.length_cons, List.length_cons, hlen]) (hh2.perm ?_) hl2
  refine List.Perm.append_left _ ?_
  show (argEnts vs ss ++ (some v, s) :: τ).Perm ((some v, s) :: (argEnts vs ss ++ τ))
  exact List.perm_middle
theorem argEnts_mem : ∀ {vs : List V} {ss : List Slot} {i : Nat} {v : V} {s : Slot}, vs[i]? = some v → ss[i]? = some s → (some v, s) ∈ argEnts vs ss
  | [], _, _, _, _, h, _ => by simp at h
  | _ :: _, [], _, _, _, _, h => by simp at h
  | _ :: _, _ :: _, 0, _, _, h1, h2 => by
    cases h1; cases h2
    exact List.mem_cons_self
  | _ :: _, _ :: _, i + 1, v, s, h1, h2 => List.mem_cons_of_mem _ (argEnts_mem (i := i) (by simpa using h1) (by simpa using h2))
/-- the arguments go -/
theorem Here.cutA {m : Mem} {K : PySem.W.Frag} {H0 H : Hp} {A B : List Ent} {st : m.St} : ∀ {M : List Ent}, Here m K H0 (A ++ (M ++ B)) st H → Here m K H0 (A ++ B) st H
  | [], h => h
  | _ :: M, h => Here.cutA (M := M) h.cut
/-- arguments that are data, all -/
inductive AllD : List Slot → List PyData → Prop
  | nil : AllD [] []
  | dat {d : PyData} {ss : List Slot} {ds : List PyData} : AllD ss ds → AllD (.dat d :: ss) (d :: ds)
  | own {p : Addr} {es ds : List PyData} {ss : List Slot} : AllD ss ds → AllD (.own p es :: ss) (.list es :: ds)
theorem owns_drop {L : List Ent} {M : List Ent} : ∀ p ∈ owns M, p ∈ owns (L ++ M) := fun p hp => by
  rw [owns_app]
  exact List.mem_append_right _ hp
/-- what the arguments are, told without their own places -/
theorem allD_da {m : Mem} {K : PySem.W.Frag} {H0 H : Hp} {A B : List Ent} {st : m.St} : ∀ {ss : List Slot} {ds : List PyData} {vs : List V}, AllD ss ds → vs.length = ss.length → Here m K H0 (A ++ (argEnts vs ss ++ B)) st H → DaAll (fun a => m.N a ∨ a ∈ owns (A ++ B)) K H vs ds
  | _, _, [], .nil, _, _ => .nil
  | _, _, v :: vs, .dat (d := d) q, hl, h => by
    have h' : Here m K H0 (A ++ (some v, .dat d) :: (argEnts vs _ ++ B)) st H := h
    obtain ⟨v', e, z⟩ := h'.dat (List.mem_append_right _ List.mem_cons_self)
    cases e
    refine .cons (z.move fun a o n t e => ⟨fun y => n (y.elim .inl fun y => .inr ?_), e⟩) (allD_da q (by simpa using hl) h'.cut)
    refine owns_sub (fun x hx => ?_) a y
    rcases List.mem_append.mp hx with hx | hx
    · exact List.mem_append_left _ hx
    · exact List.mem_append_right _ (List.mem_cons_of_mem _ (List.mem_append_right _ hx))
  | _, _, v :: vs, .own (p := p) (es := es) (ss := ss) q, hl, h => by
    have h' : Here m K H0 (A ++ (some v, .own p es) :: (argEnts vs ss ++ B)) st H := h
    have hm : (some v, Slot.own p es) ∈ A ++ (some v, .own p es) :: (argEnts vs ss ++ B) := List.mem_append_right _ List.mem_cons_self
    obtain ⟨e, xs, e2, z⟩ := h'.all _ hm
    cases e
    have hN := (h'.fr p (mem_owns.mpr ⟨_, hm, rfl⟩)).1
    have nd := (h'.perm List.perm_middle).nd
    rw [owns_cons] at nd
    have np := (List.nodup_cons.mp (show (p :: owns (A ++ (argEnts vs ss ++ B))).Nodup from nd)).1
    have sub : ∀ x ∈ owns (A ++ B), x ∈ owns (A ++ (argEnts vs ss ++ B)) := owns_sub fun x hx => (List.mem_append.mp hx).elim (List.mem_append_left _) fun z => List.mem_append_right _ (List.mem_append_right _ z)
    refine .cons (.lst (.inl ⟨fun y => y.elim hN fun y => np (sub p y), .inl e2⟩) (z.move fun a o n t e => ⟨fun y => n (y.elim .inl fun y => .inr ?_), e⟩)) (allD_da q (by simpa using hl) h'.cut)
    refine owns_sub (fun x hx => ?_) a y
    rcases List.mem_append.mp hx with hx | hx
    · exact List.mem_append_left _ hx
    · exact List.mem_append_right _ (List.mem_cons_of_mem _ (List.mem_append_right _ hx))
theorem de_tup {kk : Nat} (h : DA X c es ρ st fun ss ρ1 st1 => ∃ ds, AllD ss ds ∧ ds.length ≤ 100000 ∧ k (.dat (.tuple ds)) ρ1 st1) : DE X c (.Tuple es kk pos) ρ st k := by
  intro τ σ H Q hh hl hk hx
  refine we_of (pe_tup pa_w) (h τ σ H _ hh hl (fun ss ρ1 st1 vs H1 h1 hlen hh1 hl1 => ?_) hx)
  obtain ⟨ds, a, hz, q⟩ := h1
  have da := allD_da a hlen hh1
  refine ⟨by rw [da.len]; exact Nat.le_trans hz (by decide), fun p hp => ?_⟩
  have h2 := hh1.cutA
  have np : ¬ (c.m.N p ∨ p ∈ owns (σ.zip ρ1 ++ τ)) := fun z => by
    rcases z with z | z
    · exact h2.freshN hp z
    · obtain ⟨x, hx, e⟩ := mem_owns.mp z
      have k := h2.all x hx
      obtain ⟨o, s⟩ := x
      cases s with
      | own p' ds' =>
        obtain ⟨_, xs', e2, _⟩ := k
        have : p' = p := Option.some.inj e
        rw [this, hp] at e2
        cases e2
      | _ => cases e
  have h3 := h2.alloc (o := .tup vs) hp
  refine hk _ _ _ _ _ q (h3.put rfl ⟨_, rfl, .tup (.inl ⟨np, .inl upd_same⟩) (da.move fun a o n t e => ⟨n, ?_⟩)⟩) hl1
  rw [upd_ne (ne_of_none e hp)]
  exact e
theorem de_lst (h : DA X c es ρ st fun ss ρ1 st1 => ∃ ds, AllD ss ds ∧ ds.length ≤ 100000 ∧ ∀ p, k (.own p ds) ρ1 st1) : DE X c (.List es pos) ρ st k := by
  intro τ σ H Q hh hl hk hx
  refine we_of (pe_lst pa_w) (h τ σ H _ hh hl (fun ss ρ1 st1 vs H1 h1 hlen hh1 hl1 => ?_) hx)
  obtain ⟨ds, a, hz, q⟩ := h1
  have da := allD_da a hlen hh1
  exact ⟨by rw [da.len]; exact Nat.le_trans hz (by decide), fun p hp => hk _ _ _ _ _ (q p) (hh1.cutA.allocOwn hp da) hl1⟩

/-! ### calls of built-ins, by values -/
def DCall (K : PySem.W.Frag) (c : Cz) (r : List V → Hp → VK → Prop) (ss : List Slot) (ρ : Env) (st : c.m.St) (k : Slot → Env → c.m.St → Prop) : Prop :=
  ∀ (τ : List Ent) (σ : L2.St) (H : Hp) (Q : VK) (vs : List V), vs.length = ss.length → Here c.m K c.H0 (σ.zip ρ ++ (argEnts vs ss ++ τ)) st H → σ.length = ρ.length → Cont c K σ τ k Q → r vs H Q
theorem de_callB {r : List V → Hp → VK → Prop} {x : Str} {id : String} {p : Pos} (hc : CallR X (.builtin id) r) (hg : Gl X x) (hm : X.mg x = none) (hv : bootBuiltins x = some (.builtin id))
    (h : DA X c (e :: es) ρ st fun ss ρ1 st1 => DCall X.K c r ss ρ1 st1 k) (hn : x ≠ "__name__" := by decide) (hdb : (x == ("__debug__" : Str)) = false := by decide)
    (he : starEach (e :: es) X.env = (false, eval e X.env) :: starEach es X.env := by rfl) (hpl : (backTo pos (starEach es X.env)).any (·.1) = false := by rfl) : DE X c (.Call (.Name x p) (e :: es) [] pos) ρ st k := by
  intro τ σ H Q hh hl hk hx
  exact we_of (pe_callB hc hg hm hv pa_w hn hdb he hpl) (h τ σ H _ hh hl (fun ss ρ1 st1 vs H1 h1 hlen hh1 hl1 => h1 τ σ H1 Q vs hlen hh1 hl1 hk) hx)
theorem de_callTy {r : List V → Hp → VK → Prop} {x : Str} {id : String} {p : Pos} (hc : CallR X (.type id) r) (hg : Gl X x) (hm : X.mg x = none) (hv : bootBuiltins x = some (.type id))
    (h : DA X c (e :: es) ρ st fun ss ρ1 st1 => DCall X.K c r ss ρ1 st1 k) (hn : x ≠ "__name__" := by decide) (hdb : (x == ("__debug__" : Str)) = false := by decide)
    (he : starEach (e :: es) X.env = (false, eval e X.env) :: starEach es X.env := by rfl) (hpl : (backTo pos (starEach es X.env)).any (·.1) = false := by rfl) : DE X c (.Call (.Name x p) (e :: es) [] pos) ρ st k := by
  intro τ σ H Q hh hl hk hx
  exact we_of (pe_callTy hc hg hm hv pa_w hn hdb he hpl) (h τ σ H _ hh hl (fun ss ρ1 st1 vs H1 h1 hlen hh1 hl1 => h1 τ σ H1 Q vs hlen hh1 hl1 hk) hx)

/-! ### defs -/
def Mem.avoid (m : Mem) (A : List Addr) : Mem where
  M := m.M
  N := fun a => m.N a ∨ a ∈ A
  sub := fun a h => .inl (m.sub a h)
  St := m.St
  ok := fun K st H => m.ok K st H ∧ ∀ a ∈ A, ∃ o, NT o ∧ H a = some o
  dom := fun h n => n.elim (fun n => m.dom h.1 n) fun n => by obtain ⟨o, _, e⟩ := h.2 _ n; rw [e]; exact fun z => nomatch z
  stab := fun h k k2 => ⟨m.stab h.1 (fun b n => k b (.inl n)) k2, fun a ha => by rw [k a (.inr ha)]; exact h.2 a ha⟩
/-- a def over data: from the arguments and the state to what follows, and to what an exception makes -/
abbrev Pd := (m : Mem) → List Slot → m.St → (Slot → m.St → Prop) → (Exn → m.St → Prop) → Prop
def spD (K : PySem.W.Frag) (F : Pd) : Sp := fun vs H Q E => ∃ (m : Mem) (ss : List Slot) (st : m.St) (k : Slot → m.St → Prop) (xk : Exn → m.St → Prop),
  m.ok K st H ∧ vs.length = ss.length ∧ (∀ x ∈ argEnts vs ss, EntOk m.N K H x ∧ ownP x = none) ∧ F m ss st k xk ∧
    (∀ s st' v H', k s st' → m.ok K st' H' → Kp m.M H H' → Back m K H H' v s → Q v H') ∧ (∀ ex st' d H', xk ex st' → m.ok K st' H' → Kp m.M H H' → ExnAt m.N K H' d ex → E ex.cls d H')
def normS : Slot → Slot
  | .own _ ds => .dat (.list ds)
  | s => s
theorem ownP_norm (o : Option V) (s : Slot) : ownP (o, normS s) = none := by cases s <;> rfl
theorem norm_ok {m : Mem} {K : PySem.W.Frag} {H0 H : Hp} {A B : List Ent} {st : m.St} : ∀ {ss : List Slot} {vs : List V}, vs.length = ss.length → Here m K H0 (A ++ (argEnts vs ss ++ B)) st H → ∀ x ∈ argEnts vs (ss.map normS), EntOk (fun a => m.N a ∨ a ∈ owns (A ++ B)) K H x ∧ ownP x = none
  | [], [], _, _, x, hx => by cases hx
  | s :: ss, v :: vs, hl, h, x, hx => by
    have h' : Here m K H0 (A ++ (some v, s) :: (argEnts vs ss ++ B)) st H := h
    have wk : ∀ a, a ∈ owns (A ++ B) → a ∈ owns (A ++ (some v, s) :: (argEnts vs ss ++ B)) := owns_sub fun x hx => (List.mem_append.mp hx).elim (List.mem_append_left _) fun z => List.mem_append_right _ (List.mem_cons_of_mem _ (List.mem_append_right _ z))
    rcases List.mem_cons.mp (show x ∈ (some v, normS s) :: argEnts vs (ss.map normS) from hx) with rfl | hx
    · refine ⟨?_, ownP_norm _ _⟩
      have k := h'.all _ (List.mem_append_right _ List.mem_cons_self)
      cases s with
      | any => trivial
      | raw w => exact k
      | dat d =>
        obtain ⟨v', e, z⟩ := k
        exact ⟨v', e, z.move fun a o n t e => ⟨fun y => n (y.elim .inl fun y => .inr (wk a y)), e⟩⟩
      | obj φ =>
        obtain ⟨a, e, n, t, z⟩ := k
        exact ⟨a, e, fun y => n (y.elim .inl fun y => .inr (wk a y)), t, z⟩
      | own p es =>
        have := allD_da (A := A) (B := argEnts vs ss ++ B) (vs := [v]) (ss := [.own p es]) (.own .nil) rfl h'
        cases this with
        | cons q _ =>
          refine ⟨v, rfl, q.move fun a o n t e => ⟨fun y => n (y.elim .inl fun y => .inr ?_), e⟩⟩
          exact owns_sub (fun x hx => (List.mem_append.mp hx).elim (List.mem_append_left _) fun z => List.mem_append_right _ (List.mem_append_right _ z)) a y
    · exact norm_ok (by simpa using hl) h'.cut x hx
theorem argEnts_len : ∀ (vs : List V) (ss : List Slot), vs.length = (ss.map normS).length ↔ vs.length = ss.length := fun vs ss => by rw [List.length_map]
/-- behind a call, with what came -/
theorem Here.back {m : Mem} {K : PySem.W.Frag} {H0 H H' : Hp} {A B : List Ent} {st st' : m.St} {v : V} {s : Slot} (h : Here m K H0 (A ++ B) st H) (k : Kp m.M H H') (ok : m.ok K st' H') (b : Back (m.avoid (owns (A ++ B))) K H H' v s) : Here m K H0 (A ++ (some v, s) :: B) st' H' := by
  have h1 := h.step k ok
  cases s with
  | any => exact h1.put rfl trivial
  | raw w => exact h1.put rfl (by rw [show v = w from b]; rfl)
  | dat d => exact h1.put rfl ⟨v, rfl, b⟩
  | obj φ =>
    obtain ⟨a, e, n, t, q⟩ := b
    exact h1.put rfl ⟨a, by rw [e], n, t, q⟩
  | own p ds =>
    obtain ⟨rfl, hp, np, xs, e2, q⟩ := b
    have e0 : owns ((some (V.ref p), Slot.own p ds) :: (A ++ B)) = p :: owns (A ++ B) := by rw [owns_cons]; rfl
    have pA : p ∉ owns (A ++ B) := fun z => np (.inr z)
    refine Here.perm (L := (some (V.ref p), Slot.own p ds) :: (A ++ B)) ⟨ok, h1.kp, by rw [e0]; exact List.nodup_cons.mpr ⟨pA, h.nd⟩, ?_, ?_⟩ List.perm_middle.symm
    · rw [e0]
      intro x hx
      rcases List.mem_cons.mp hx with rfl | hx
      · exact ⟨fun z => np (.inl z), h.fresh0 (fun z => np (.inl z)) hp⟩
      · exact h.fr x hx
    · rw [e0]
      intro x hx
      rcases List.mem_cons.mp hx with rfl | hx
      · refine ⟨rfl, xs, e2, q.move fun a o n t e => ⟨fun z => n ?_, e⟩⟩
        rcases z with z | z
        · exact .inl (.inl z)
        · rcases List.mem_cons.mp z with z | z
          · exact .inr z
          · exact .inl (.inr z)
      · refine (h.all x hx).move (fun a o n t e => ⟨fun z => ?_, k a o (fun z => n (.inl (m.sub _ z))) t e⟩) fun q' ds' e2 u eu => k q' _ (fun z => (h.fr q' (mem_owns.mpr ⟨x, hx, by unfold ownP; rw [e2]⟩)).1 (m.sub _ z)) nt_lst eu
        rcases z with z | z
        · exact n (.inl z)
        · rcases List.mem_cons.mp z with z | z
          · exact nt_fr t hp (by rw [← z]; exact e)
          · exact n (.inr z)
/-- the promise of a def, in use -/
theorem spD_use {F : Pd} {τ : List Ent} {σ : L2.St} {H : Hp} {Q : VK} {ss : List Slot} {vs : List V} (hlen : vs.length = ss.length) (hh : Here c.m X.K c.H0 (σ.zip ρ ++ (argEnts vs ss ++ τ)) st H) (hl : σ.length = ρ.length) (hk : Cont c X.K σ τ k Q) (hx : ContX c X.K)
    (h : ∀ A, F (c.m.avoid A) (ss.map normS) st (fun s st' => k s ρ st') c.xk) : spD X.K F vs H Q (fun cls d H' => c.W cls d σ H') := by
  have h2 := hh.cutA
  have al : ∀ a ∈ owns (σ.zip ρ ++ τ), ∃ o, NT o ∧ H a = some o := fun a ha => by
    obtain ⟨x, hx, e⟩ := mem_owns.mp ha
    have k := h2.all x hx
    obtain ⟨o, s⟩ := x
    cases s with
    | own p' ds' =>
      obtain ⟨_, xs', e2, _⟩ := k
      have : p' = a := Option.some.inj e
      rw [← this]
      exact ⟨_, nt_lst, e2⟩
    | _ => cases e
  refine ⟨c.m.avoid (owns (σ.zip ρ ++ τ)), ss.map normS, st, _, _, ⟨h2.ok, al⟩, by rw [List.length_map]; exact hlen, norm_ok hlen hh, h _, fun s st' v H' h1 ok kp b => ?_, fun ex st' d H' h1 ok kp xa => ?_⟩
  · exact hk _ _ _ _ _ h1 (h2.back kp ok.1 b) hl
  · refine hx _ _ _ _ _ h1 ok.1 (h2.kp.trans kp) ?_
    rcases xa with xa | ⟨a, kvs, e0, e1, e2, e3, e4⟩
    · exact .inl xa
    · exact .inr ⟨a, kvs, e0, e1, e2, e3, e4.move fun a o n t e => ⟨fun z => n (.inl z), e⟩⟩
theorem de_call {F : Pd} {kk : Nat} {f : Addr} {fd : FuncData} {ps : List Str} {x : Str} {p : Pos} (Fk : FnOk X.prog X.w X.K X.mg X.base (L2.CX X.prog X.w) kk f fd ps (spD X.K F)) (hr : Room kk X.A) (hm : X.mg x = some (.ref f)) (hkp : PySem.W.keepIn X.K (.ref f) = true) (hb : Binds X.K fd ps []) (tk : Takes X c.W)
    (h : DA X c (e :: es) ρ st fun ss ρ1 st1 => ∀ A, F (c.m.avoid A) (ss.map normS) st1 (fun s st' => k s ρ1 st') c.xk) (hg : Gl X x := by rfl) (hdb : (x == ("__debug__" : Str)) = false := by decide)
    (he : starEach (e :: es) X.env = (false, eval e X.env) :: starEach es X.env := by rfl) (hpl : (backTo pos (starEach es X.env)).any (·.1) = false := by rfl) : DE X c (.Call (.Name x p) (e :: es) [] pos) ρ st k := by
  intro τ σ H Q hh hl hk hx
  refine we_of (pe_callS (E := L2.WE c.W) Fk hr hg hm hkp hb (fun σ => passAt tk σ) pa_w hdb he hpl) (h τ σ H _ hh hl (fun ss ρ1 st1 vs H1 h1 hlen hh1 hl1 => ?_) hx)
  exact spD_use hlen hh1 hl1 hk hx h1
theorem de_call0 {F : Pd} {kk : Nat} {f : Addr} {fd : FuncData} {ps : List Str} {x : Str} {p : Pos} (Fk : FnOk X.prog X.w X.K X.mg X.base (L2.CX X.prog X.w) kk f fd ps (spD X.K F)) (hr : Room kk X.A) (hm : X.mg x = some (.ref f)) (hkp : PySem.W.keepIn X.K (.ref f) = true) (hb : Binds X.K fd ps []) (tk : Takes X c.W)
    (h : ∀ A, F (c.m.avoid A) [] st (fun s st' => k s ρ st') c.xk) (hg : Gl X x := by rfl) (hdb : (x == ("__debug__" : Str)) = false := by decide) : DE X c (.Call (.Name x p) [] [] pos) ρ st k := by
  intro τ σ H Q hh hl hk hx
  intro pins s I
  refine wpAny_Call_Name_kw (ld_glob I hg hm ?_ hdb)
  refine PySem.W.callWith_K0 I.kIn hkp (run_fnS (us := []) (vs := []) (E := L2.WE c.W) Fk hr hb (passAt tk σ) I .nil ?_)
  exact spD_use (ss := []) (vs := []) rfl hh hl hk hx h
end
end DL

namespace DL
open PySem PySem.Spec PyProof.Rows L2

section
variable (X : Cx)
def WG (tg : Expr) : TG := fun v σ H Q => ∀ (pins : List (Addr × Obj)) (s : Shared) (u : Value), Inv X pins σ H s → RelV v u → wpAny (model X.prog X.w) X.A (assign tg X.env u) (fun _ s' => ∃ σ' H', Inv X pins σ' H' s' ∧ Q σ' H') X.xe s
def WGs (ts : List Expr) : TGs := fun vs σ H Q => ∀ (pins : List (Addr × Obj)) (s : Shared) (us : List Value), Inv X pins σ H s → Vals vs us → wpAny (model X.prog X.w) X.A (assignInOrder ((assignEach ts X.env).map (·.2)) us) (fun _ s' => ∃ σ' H', Inv X pins σ' H' s' ∧ Q σ' H') X.xe s
def WI (tg iter : Expr) : TI := fun σ H R => ∀ (pins : List (Addr × Obj)) (s : Shared), Inv X pins σ H s → wpAny (model X.prog X.w) X.A (eval iter X.env) (fun v s1 => wpAny (model X.prog X.w) X.A (pyIter v) (PIE X pins σ tg R) X.xe s1) X.xe s
end
section
variable {X : Cx} {σ : L2.St} {H : Hp}
theorem pg_w {tg : Expr} : PG X tg (WG X tg) := ⟨fun pins s σ H v u Q I r h => h pins s u I r⟩
theorem pgs_w {ts : List Expr} : PGs X ts (WGs X ts) := ⟨fun pins s σ H vs us Q I r h => h pins s us I r⟩
theorem pi_w {tg iter : Expr} : PI X tg iter (WI X tg iter) := ⟨fun pins s σ H R I h => h pins s I⟩
theorem wg_of {tg : Expr} {t : TG} {v : V} {Q : L2.St → Hp → Prop} (h : PG X tg t) (q : t v σ H Q) : WG X tg v σ H Q := fun pins s u I r => h.run pins s σ H v u Q I r q
theorem wgs_of {ts : List Expr} {t : TGs} {vs : List V} {Q : L2.St → Hp → Prop} (h : PGs X ts t) (q : t vs σ H Q) : WGs X ts vs σ H Q := fun pins s us I r => h.run pins s σ H vs us Q I r q
theorem wi_of {tg iter : Expr} {t : TI} {R : It → Hp → Prop} (h : PI X tg iter t) (q : t σ H R) : WI X tg iter σ H R := fun pins s I => h.run pins s σ H R I q
end

/-! ### targets, things that are walked -/
def DG (X : Cx) (c : Cz) (tg : Expr) (d : PyData) (ρ : Env) (st : c.m.St) (kk : Env → c.m.St → Prop) : Prop :=
  ∀ (τ : List Ent) (σ : L2.St) (H : Hp) (Q : L2.St → Hp → Prop) (x : V), Here c.m X.K c.H0 (σ.zip ρ ++ (some x, .dat d) :: τ) st H → σ.length = ρ.length →
    (∀ ρ' st' σ' H', kk ρ' st' → Here c.m X.K c.H0 (σ'.zip ρ' ++ τ) st' H' → σ'.length = ρ'.length → Q σ' H') → WG X tg x σ H Q
def WalkD (K : PySem.W.Frag) (c : Cz) (J : It) (E : List Ent) (ds : List PyData) : Prop :=
  ∀ (A B : List Ent) (st : c.m.St) (H : Hp), Here c.m K c.H0 (A ++ (E ++ B)) st H → ∀ i : Nat, (ds.length ≤ i → J.stop i H) ∧
    ∀ d, ds[i]? = some d → J.go i H ∧ ∀ x H', J.yld i H x H' → Here c.m K c.H0 (A ++ (some x, .dat d) :: (E ++ B)) st H'
def DI (X : Cx) (c : Cz) (tg iter : Expr) (ρ : Env) (st : c.m.St) (ki : List PyData → Env → c.m.St → Prop) : Prop :=
  ∀ (τ : List Ent) (σ : L2.St) (H : Hp) (R : It → Hp → Prop), Here c.m X.K c.H0 (σ.zip ρ ++ τ) st H → σ.length = ρ.length →
    (∀ ds ρ' st' J E H', ki ds ρ' st' → WalkD X.K c J E ds → Here c.m X.K c.H0 (σ.zip ρ' ++ (E ++ τ)) st' H' → σ.length = ρ'.length → R J H') → ContX c X.K → WI X tg iter σ H R
section
variable {X : Cx} {c : Cz} {e a b t : Expr} {es : List Expr} {ρ : Env} {st : c.m.St} {pos : Pos} {k : Slot → Env → c.m.St → Prop} {kb : Bool → Env → c.m.St → Prop} {ka : List Slot → Env → c.m.St → Prop} {kk : Env → c.m.St → Prop}
/-- a slot is stored -/
theorem Here.store {m : Mem} {K : PySem.W.Frag} {H0 H : Hp} {τ : List Ent} {σ : L2.St} {ρ : Env} {st : m.St} {v : V} {s : Slot} (h : Here m K H0 (σ.zip ρ ++ (some v, s) :: τ) st H) (i : Nat) : Here m K H0 ((σ.set i (some v)).zip (ρ.set i s) ++ τ) st H := by
  rw [zip_set]
  refine h.mono (fun x hx => ?_) (nd_set _ i _ τ h.nd)
  rcases List.mem_append.mp hx with hx | hx
  · rcases List.mem_or_eq_of_mem_set hx with hx | hx
    · exact List.mem_append_left _ hx
    · subst hx
      exact List.mem_append_right _ List.mem_cons_self
  · exact List.mem_append_right _ (List.mem_cons_of_mem _ hx)
theorem len_set {σ : L2.St} {ρ : Env} {i : Nat} {o : Option V} {s : Slot} (h : σ.length = ρ.length) : (σ.set i o).length = (ρ.set i s).length := by rw [List.length_set, List.length_set, h]
theorem dg_name {i : Nat} {x : Str} {d : PyData} (hN : X.N.Nodup) (hi : X.N[i]? = some x) (hx : Loc X.env.scope x) (h : kk (ρ.set i (.dat d)) st) (hf : X.fn x = true ∨ X.env.scope.names.lookup x = some .local := by first | exact .inl rfl | exact .inr rfl | assumption) : DG X c (.Name x pos) d ρ st kk := by
  intro τ σ H Q v hh hl hk
  exact wg_of (pg_name hN hi hx hf) (hk _ _ _ _ h (hh.store i) (len_set hl))
/-- several targets of a tuple -/
def DGs (X : Cx) (c : Cz) (ts : List Expr) (ds : List PyData) (ρ : Env) (st : c.m.St) (kk : Env → c.m.St → Prop) : Prop :=
  ∀ (τ : List Ent) (σ : L2.St) (H : Hp) (Q : L2.St → Hp → Prop) (xs : List V), Here c.m X.K c.H0 (σ.zip ρ ++ τ) st H → DaAll (fun _ => False) X.K (fun a => none) [] [] → σ.length = ρ.length →
    xs.length = ds.length → Here c.m X.K c.H0 (σ.zip ρ ++ (argEnts xs (ds.map .dat) ++ τ)) st H →
    (∀ ρ' st' σ' H', kk ρ' st' → Here c.m X.K c.H0 (σ'.zip ρ' ++ τ) st' H' → σ'.length = ρ'.length → Q σ' H') → WGs X ts xs σ H Q
theorem dgs_nil (h : kk ρ st) : DGs X c [] [] ρ st kk := by
  intro τ σ H Q xs _ _ hl hlen hh hk
  cases xs with
  | nil => exact wgs_of pgs_nil ⟨rfl, hk _ _ _ _ h hh hl⟩
  | cons x xs => cases hlen
theorem dgs_cons {ts : List Expr} {d : PyData} {ds : List PyData} (h : DG X c t d ρ st fun ρ1 st1 => DGs X c ts ds ρ1 st1 kk) (hs : (assignEach (t :: ts) X.env).map (·.2) = assign t X.env :: (assignEach ts X.env).map (·.2) := by rfl) : DGs X c (t :: ts) (d :: ds) ρ st kk := by
  intro τ σ H Q xs _ z hl hlen hh hk
  cases xs with
  | nil => cases hlen
  | cons x xs =>
    refine wgs_of (pgs_cons pg_w pgs_w hs) ⟨x, xs, rfl, ?_⟩
    refine h (argEnts xs (ds.map .dat) ++ τ) σ H _ x hh hl (fun ρ1 st1 σ1 H1 h1 hh1 hl1 => ?_)
    exact h1 τ σ1 H1 Q xs hh1.cutA z hl1 (by simpa using hlen) hh1 hk
theorem dg_tup {kt : Nat} {ds : List PyData} {n : Nat} (hc : X.calm = true) (h : DGs X c es ds ρ st kk) (hn : (assignEach es X.env).length = n := by rfl) (hst : (assignEach es X.env).findIdx? (·.1) = none := by rfl) (hds : ds.length = n := by rfl) : DG X c (.Tuple es kt pos) (.tuple ds) ρ st kk := by
  intro τ σ H Q v hh hl hk
  obtain ⟨v', e, q⟩ := hh.dat (List.mem_append_right _ List.mem_cons_self)
  cases e
  cases q with
  | tup r qa =>
    refine wg_of (pg_tup hc pgs_w hn hst) ⟨_, _, rfl, r.sq, by rw [qa.len, hds], ?_⟩
    refine h τ σ H Q _ hh.cut .nil hl qa.len ?_ hk
    have go : ∀ {xs : List V} {es : List PyData} {B : List Ent}, Here c.m X.K c.H0 (σ.zip ρ ++ B) st H → (∀ (i : Nat) (v : V), xs[i]? = some v → ∃ d, es[i]? = some d ∧ Da (fun a => c.m.N a ∨ a ∈ owns (σ.zip ρ ++ B)) X.K H v d) → xs.length = es.length → Here c.m X.K c.H0 (σ.zip ρ ++ (argEnts xs (es.map .dat) ++ B)) st H := by
      intro xs
      induction xs with
      | nil =>
        intro es B hb _ hlen
        cases es with
        | nil => exact hb
        | cons _ _ => cases hlen
      | cons x xs ih =>
        intro es B hb hq hlen
        cases es with
        | nil => cases hlen
        | cons d es =>
          obtain ⟨d', e, q⟩ := hq 0 x rfl
          cases e
          have h1 := ih (es := es) hb (fun i v hv => hq (i + 1) v hv) (by simpa using hlen)
          show Here c.m X.K c.H0 (σ.zip ρ ++ (some x, .dat d) :: (argEnts xs (es.map .dat) ++ B)) st H
          have eo : ∀ a, a ∈ owns (σ.zip ρ ++ (argEnts xs (es.map .dat) ++ B)) → a ∈ owns (σ.zip ρ ++ B) := fun a ha => by
            rw [owns_app, owns_app] at ha
            rw [owns_app]
            rcases List.mem_append.mp ha with ha | ha
            · exact List.mem_append_left _ ha
            · rcases List.mem_append.mp ha with ha | ha
              · obtain ⟨y, hy, ey⟩ := mem_owns.mp ha
                have : ∀ (xs : List V) (es : List PyData) (y : Ent), y ∈ argEnts xs (es.map .dat) → ownP y = none := by
                  intro xs
                  induction xs with
                  | nil => intro es y hy; cases hy
                  | cons x xs ih =>
                    intro es y hy
                    cases es with
                    | nil => cases hy
                    | cons d es =>
                      rcases List.mem_cons.mp hy with rfl | hy
                      · rfl
                      · exact ih es y hy
                rw [this xs es y hy] at ey
                cases ey
              · exact List.mem_append_right _ ha
          exact h1.put rfl ⟨x, rfl, q.move fun a o n t e => ⟨fun z => n (z.elim .inl fun z => .inr (eo a z)), e⟩⟩
    refine go hh.cut (fun i v hv => ?_) qa.len
    obtain ⟨d, e, q⟩ := qa.getV hv
    refine ⟨d, e, q.move fun a o n t e => ⟨fun z => n (z.elim .inl fun z => .inr ?_), e⟩⟩
    refine owns_sub (fun x hx => ?_) a z
    exact (List.mem_append.mp hx).elim (List.mem_append_left _) fun z => List.mem_append_right _ (List.mem_cons_of_mem _ z)
/-- the list that a slot is, put beside as data (the fresh one as it is) -/
theorem walk_seq {K : PySem.W.Frag} {J : It} {E : List Ent} {ds : List PyData} {p : Addr} {Sq : Hp → List V → Prop} (hE : ∀ (A B : List Ent) (st : c.m.St) (H : Hp), Here c.m K c.H0 (A ++ (E ++ B)) st H → ∃ xs, Sq H xs ∧ DaAll (fun a => c.m.N a ∨ a ∈ owns (A ++ (E ++ B))) K H xs ds)
    (hs : ∀ i H, (∃ xs, Sq H xs ∧ xs.length ≤ i) → J.stop i H) (hg : ∀ i H, (∃ xs x, Sq H xs ∧ xs[i]? = some x) → J.go i H) (hy : ∀ i H x H', J.yld i H x H' → H' = H ∧ ∀ xs, Sq H xs → xs[i]? = some x) : WalkD K c J E ds := by
  intro A B st H h i
  obtain ⟨xs, hq, da⟩ := hE A B st H h
  refine ⟨fun hi => hs i H ⟨xs, hq, by rw [da.len]; exact hi⟩, fun d hd => ?_⟩
  obtain ⟨v, hv, qv⟩ := da.get hd
  refine ⟨hg i H ⟨xs, v, hq, hv⟩, fun x H' y => ?_⟩
  obtain ⟨rfl, y⟩ := hy i H x H' y
  have := y xs hq
  rw [hv] at this
  cases this
  exact h.put rfl ⟨v, rfl, qv⟩
theorem di_list {tg : Expr} {ki : List PyData → Env → c.m.St → Prop} (h : DE X c e ρ st fun s ρ1 st1 => (∃ ds, s = .dat (.list ds) ∧ ki ds ρ1 st1) ∨ ∃ p ds, s = .own p ds ∧ ki ds ρ1 st1) : DI X c tg e ρ st ki := by
  intro τ σ H R hh hl hk hx
  refine wi_of (pi_list pe_w) (h τ σ H _ hh hl (fun s ρ1 st1 v H1 h1 hh1 hl1 => ?_) hx)
  rcases h1 with ⟨ds, rfl, q⟩ | ⟨p, ds, rfl, q⟩
  · obtain ⟨v', e, z⟩ := hh1.dat (List.mem_append_right _ List.mem_cons_self)
    cases e
    cases z with
    | lst r qa =>
      refine ⟨_, rfl, ⟨_, r.sq⟩, hk ds ρ1 st1 _ [(some _, .dat (.list ds))] _ q (walk_seq (p := 0) (Sq := fun H xs => SqL X.K H _ xs) (fun A B st H hh => ?_) (fun i H z => z) (fun i H z => z) fun i H x H' z => z) hh1 hl1⟩
      obtain ⟨v'', e, z⟩ := hh.dat (List.mem_append_right _ List.mem_cons_self)
      cases e
      cases z with
      | lst r qa => exact ⟨_, r.sq, qa⟩
  · obtain ⟨e, xs, e2, qa⟩ := hh1.all _ (List.mem_append_right _ List.mem_cons_self)
    cases e
    refine ⟨_, rfl, ⟨_, .inl (.inl e2)⟩, hk ds ρ1 st1 _ [(some _, .own p ds)] _ q (walk_seq (p := 0) (Sq := fun H xs => SqL X.K H _ xs) (fun A B st H hh => ?_) (fun i H z => z) (fun i H z => z) fun i H x H' z => z) hh1 hl1⟩
    obtain ⟨e, xs, e2, qa⟩ := hh.all _ (List.mem_append_right _ List.mem_cons_self)
    exact ⟨xs, .inl (.inl e2), qa⟩
theorem di_tup {tg : Expr} {ki : List PyData → Env → c.m.St → Prop} (h : DE X c e ρ st fun s ρ1 st1 => ∃ ds, s = .dat (.tuple ds) ∧ ki ds ρ1 st1) : DI X c tg e ρ st ki := by
  intro τ σ H R hh hl hk hx
  refine wi_of (pi_tup pe_w) (h τ σ H _ hh hl (fun s ρ1 st1 v H1 h1 hh1 hl1 => ?_) hx)
  obtain ⟨ds, rfl, q⟩ := h1
  obtain ⟨v', e, z⟩ := hh1.dat (List.mem_append_right _ List.mem_cons_self)
  cases e
  cases z with
  | tup r qa =>
    refine ⟨_, rfl, ⟨_, r.sq⟩, hk ds ρ1 st1 _ [(some _, .dat (.tuple ds))] _ q (walk_seq (p := 0) (Sq := fun H xs => SqT X.K H _ xs) (fun A B st H hh => ?_) (fun i H z => z) (fun i H z => z) fun i H x H' z => z) hh1 hl1⟩
    obtain ⟨v'', e, z⟩ := hh.dat (List.mem_append_right _ List.mem_cons_self)
    cases e
    cases z with
    | tup r qa => exact ⟨_, r.sq, qa⟩
/-- the intsD lo, lo + 1, .. -/
def intsD (lo : Int) (n : Nat) : List PyData := (List.range n).map fun i => .int (lo + (i : Nat))
theorem ints_get {lo : Int} {n i : Nat} {d : PyData} (h : (intsD lo n)[i]? = some d) : i < n ∧ d = .int (lo + (i : Nat)) := by
  unfold intsD at h
  rw [List.getElem?_map] at h
  by_cases hi : i < n
  · rw [List.getElem?_range hi] at h
    exact ⟨hi, (Option.some.inj h).symm⟩
  · rw [List.getElem?_eq_none (by rw [List.length_range]; omega)] at h
    cases h
theorem ints_len {lo : Int} {n : Nat} : (intsD lo n).length = n := by
  unfold intsD
  rw [List.length_map, List.length_range]
theorem walk_ints {K : PySem.W.Frag} {lo : Int} {n : Nat} : WalkD K c (Itr lo n) [] (intsD lo n) := by
  intro A B st H h i
  refine ⟨fun hi => by rw [ints_len] at hi; exact hi, fun d hd => ?_⟩
  obtain ⟨hi, rfl⟩ := ints_get hd
  refine ⟨hi, fun x H' y => ?_⟩
  obtain ⟨rfl, rfl⟩ := y
  exact h.put rfl ⟨_, rfl, .int _⟩
theorem di_range1 {tg : Expr} {p : Pos} {ki : List PyData → Env → c.m.St → Prop} (hm : X.mg "range" = none) (h : DE X c a ρ st fun s ρ1 st1 => ∃ j : Int, s = .dat (.int j) ∧ -(2 ^ 62) ≤ j ∧ j < 2 ^ 62 ∧ ki (intsD 0 j.toNat) ρ1 st1) (hg : Gl X "range" := by rfl) (hs : starEach [a] X.env = [(false, eval a X.env)] := by rfl) (hs0 : starEach [a] X.env = (false, eval a X.env) :: starEach [] X.env := by rfl) :
    DI X c tg (.Call (.Name "range" p) [a] [] pos) ρ st ki := by
  intro τ σ H R hh hl hk hx
  refine wi_of (pi_range1 hg hm (pa_cons pe_w pa_nil hs0) hs) (h τ σ H _ hh hl (fun s ρ1 st1 v H1 h1 hh1 hl1 => ?_) hx)
  obtain ⟨j, rfl, q1, q2, q⟩ := h1
  have e : v = .int j := Option.some.inj (hh1.int1 (w := .int j) rfl)
  exact ⟨j, by rw [e], q1, q2, hk _ _ _ _ [] _ q walk_ints hh1.cut hl1⟩
theorem di_range2 {tg : Expr} {p : Pos} {ki : List PyData → Env → c.m.St → Prop} (hm : X.mg "range" = none) (h : DE X c a ρ st fun s ρ1 st1 => ∃ i : Int, s = .dat (.int i) ∧ DE X c b ρ1 st1 fun s ρ2 st2 => ∃ j : Int, s = .dat (.int j) ∧ (-(2 ^ 62) ≤ i ∧ i < 2 ^ 62 ∧ -(2 ^ 62) ≤ j ∧ j < 2 ^ 62) ∧ ki (intsD i (j - i).toNat) ρ2 st2) (hg : Gl X "range" := by rfl)
    (hs : starEach [a, b] X.env = [(false, eval a X.env), (false, eval b X.env)] := by rfl) (hs2 : starEach [b] X.env = [(false, eval b X.env)] := by rfl) (hs3 : starEach [a, b] X.env = (false, eval a X.env) :: starEach [b] X.env := by rfl) (hs4 : starEach [b] X.env = (false, eval b X.env) :: starEach [] X.env := by rfl) : DI X c tg (.Call (.Name "range" p) [a, b] [] pos) ρ st ki := by
  intro τ σ H R hh hl hk hx
  refine wi_of (pi_range2 hg hm (pa_cons pe_w (pa_cons pe_w pa_nil hs4) hs3) hs hs2) (h τ σ H _ hh hl (fun s ρ1 st1 v H1 h1 hh1 hl1 => ?_) hx)
  obtain ⟨i, rfl, h1⟩ := h1
  refine h1 _ σ H1 _ hh1 hl1 (fun s ρ2 st2 w H2 h2 hh2 hl2 => ?_) hx
  obtain ⟨j, rfl, qb, q⟩ := h2
  have e1 : v = .int i := Option.some.inj (hh2.int2 (w := .int i) rfl)
  have e2 : w = .int j := Option.some.inj (hh2.int1 (w := .int j) rfl)
  exact ⟨i, j, by rw [e1, e2], qb, hk _ _ _ _ [] _ q walk_ints hh2.cut.cut hl2⟩

/-! ### statements -/
variable {D : Dn c.m} {s : Stmt} {ss : List Stmt}
theorem db_nil (h : D.nx ρ st) : DB X c [] ρ st D := fun τ σ H De hh hl hk hx => wb_of pss_nil (hk.nx _ _ _ _ h hh hl)
theorem ContS.seq {K : PySem.W.Frag} {τ : List Ent} {De : Ends} {R : L2.St → Hp → Prop} {Rd : Env → c.m.St → Prop} (h : ContS c K τ D De) (q : ∀ ρ' st' σ' H', Rd ρ' st' → Here c.m K c.H0 (σ'.zip ρ' ++ τ) st' H' → σ'.length = ρ'.length → R σ' H') : ContS c K τ { D with nx := Rd } { De with nx := R } := ⟨q, h.bk, h.ct, h.rt⟩
theorem db_cons (h : DS X c s ρ st { D with nx := fun ρ1 st1 => DB X c ss ρ1 st1 D }) : DB X c (s :: ss) ρ st D := by
  intro τ σ H De hh hl hk hx
  refine wb_of (pss_cons ps_w pss_w) (h τ σ H { De with nx := WB X ss De } hh hl (hk.seq fun ρ1 st1 σ1 H1 h1 hh1 hl1 => ?_) hx)
  exact h1 τ σ1 H1 De hh1 hl1 hk hx
theorem db_one (h : DS X c s ρ st D) : DB X c [s] ρ st D := fun τ σ H De hh hl hk hx => wb_of (pss_one ps_w) (h τ σ H De hh hl hk hx)
theorem ds_pass (h : D.nx ρ st) : DS X c (.Pass pos) ρ st D := fun τ σ H De hh hl hk hx => ws_of ps_pass (hk.nx _ _ _ _ h hh hl)
theorem ds_break (h : D.bk ρ st) : DS X c (.Break pos) ρ st D := fun τ σ H De hh hl hk hx => ws_of ps_break (hk.bk _ _ _ _ h hh hl)
theorem ds_continue (h : D.ct ρ st) : DS X c (.Continue pos) ρ st D := fun τ σ H De hh hl hk hx => ws_of ps_continue (hk.ct _ _ _ _ h hh hl)
theorem ds_expr (h : DE X c e ρ st fun _ ρ1 st1 => D.nx ρ1 st1) (hs : swapsWith e none pos.line X.env = pure false := by rfl) : DS X c (.Expr e pos) ρ st D := by
  intro τ σ H De hh hl hk hx
  exact ws_of (ps_expr pe_w hs) (h τ σ H _ hh hl (fun s ρ1 st1 v H1 h1 hh1 hl1 => hk.nx _ _ _ _ h1 hh1.cut hl1) hx)
theorem ds_asg {i : Nat} {x : Str} {pos' : Pos} (hN : X.N.Nodup) (hi : X.N[i]? = some x) (hx : Loc X.env.scope x) (h : DE X c e ρ st fun s ρ1 st1 => D.nx (ρ1.set i s) st1) (hs : swapsWith e (some (.Name x pos')) pos.line X.env = pure false := by rfl) (hf : X.fn x = true ∨ X.env.scope.names.lookup x = some .local := by first | exact .inl rfl | exact .inr rfl | assumption) : DS X c (.Assign [.Name x pos'] e pos) ρ st D := by
  intro τ σ H De hh hl hk hxx
  exact ws_of (ps_set hN hi hx pe_w hs hf) (h τ σ H _ hh hl (fun s ρ1 st1 v H1 h1 hh1 hl1 => hk.nx _ _ _ _ h1 (hh1.store i) (len_set hl1)) hxx)
theorem ds_par {i j : Nat} {x y : Str} {px py pt : Pos} {kt k2 pt2} (hc : X.calm = true) (hN : X.N.Nodup) (hi : X.N[i]? = some x) (hj : X.N[j]? = some y) (hij : i ≠ j) (hx : X.env.scope.names.lookup x = some .local) (hy : X.env.scope.names.lookup y = some .local)
    (hw : swappedStores [.Tuple [.Name x px, .Name y py] kt pt] (.Tuple [a, b] k2 pt2) X.env = pure (some [x, y])) (h : DE X c a ρ st fun s1 ρ1 st1 => DE X c b ρ1 st1 fun s2 ρ2 st2 => D.nx ((ρ2.set i s1).set j s2) st2)
    (hs : swapsWithSole [.Tuple [.Name x px, .Name y py] kt pt] (.Tuple [a, b] k2 pt2) pos.line X.env = pure false := by rfl) (h1s : starEach [a, b] X.env = (false, eval a X.env) :: starEach [b] X.env := by rfl) (h2s : starEach [b] X.env = (false, eval b X.env) :: starEach [] X.env := by rfl) :
    DS X c (.Assign [.Tuple [.Name x px, .Name y py] kt pt] (.Tuple [a, b] k2 pt2) pos) ρ st D := by
  intro τ σ H De hh hl hk hxx
  refine ws_of (ps_par hc hN hi hj hij hx hy (pa_cons pe_w (pa_cons pe_w pa_nil h2s) h1s) hw hs) (h τ σ H _ hh hl (fun s1 ρ1 st1 v1 H1 h1 hh1 hl1 => ?_) hxx)
  refine h1 _ σ H1 _ hh1 hl1 (fun s2 ρ2 st2 v2 H2 h2 hh2 hl2 => ?_) hxx
  refine ⟨v1, v2, rfl, hk.nx _ _ _ _ h2 ?_ (len_set (len_set hl2))⟩
  have p : Here c.m X.K c.H0 (σ.zip ρ2 ++ (some v1, s1) :: (some v2, s2) :: τ) st2 H2 := hh2.perm (List.Perm.append_left _ (List.Perm.swap _ _ _))
  exact (p.store i).store j
theorem ds_if {ta tb : List Stmt} (h : DT X c t ρ st fun x ρ1 st1 => (x = true → DB X c ta ρ1 st1 D) ∧ (x = false → DB X c tb ρ1 st1 D)) : DS X c (.If t ta tb pos) ρ st D := by
  intro τ σ H De hh hl hk hx
  refine ws_of (ps_if pt_w pss_w pss_w) (h τ σ H _ hh hl (fun x ρ1 st1 H1 h1 hh1 hl1 => ?_) hx)
  cases x with
  | true => exact iteT (h1.1 rfl τ σ H1 De hh1 hl1 hk hx)
  | false => exact iteF (h1.2 rfl τ σ H1 De hh1 hl1 hk hx)
/-- what a value may be handed back as -/
inductive Gives (ρ : Env) : Slot → Slot → Prop
  | any (s : Slot) : Gives ρ s .any
  | dat (d : PyData) : Gives ρ (.dat d) (.dat d)
  | raw (v : V) : Gives ρ (.raw v) (.raw v)
  | obj (φ : Addr → HO) : Gives ρ (.obj φ) (.obj φ)
  | lst (p : Addr) (ds : List PyData) : Gives ρ (.own p ds) (.dat (.list ds))
  | own (p : Addr) (ds : List PyData) : Gives ρ (.own p ds) (.own p ds)
  | vlst (p : Addr) (ds : List PyData) (i : Nat) (h : ρ[i]? = some (.own p ds)) : Gives ρ (.raw (.ref p)) (.dat (.list ds))
  | vown (p : Addr) (ds : List PyData) (i : Nat) (h : ρ[i]? = some (.own p ds)) : Gives ρ (.raw (.ref p)) (.own p ds)
theorem gives_back {m : Mem} {K : PySem.W.Frag} {H0 H : Hp} {σ : L2.St} {ρ : Env} {τ : List Ent} {st : m.St} {v : V} {s s' : Slot} (h : Here m K H0 (σ.zip ρ ++ (some v, s) :: τ) st H) (hl : σ.length = ρ.length) (g : Gives ρ s s') : Back m K H0 H v s' := by
  have hm : (some v, s) ∈ σ.zip ρ ++ (some v, s) :: τ := List.mem_append_right _ List.mem_cons_self
  have own : ∀ {o : Option V} {p : Addr} {ds : List PyData}, (o, Slot.own p ds) ∈ σ.zip ρ ++ (some v, s) :: τ → o = some (.ref p) ∧ Back m K H0 H (.ref p) (.own p ds) := fun {o p ds} he => by
    obtain ⟨e, xs, e2, q⟩ := h.all _ he
    have hp := mem_owns.mpr ⟨_, he, rfl⟩
    refine ⟨e, rfl, (h.fr p hp).2, (h.fr p hp).1, xs, e2, q.move fun a o n t e => ⟨fun z => n (z.elim .inl fun z => .inr (by rw [z]; exact hp)), e⟩⟩
  have lst : ∀ {p : Addr} {ds : List PyData}, Back m K H0 H (.ref p) (.own p ds) → Back m K H0 H (.ref p) (.dat (.list ds)) := fun {p ds} b => by
    obtain ⟨_, _, n, xs, e2, q⟩ := b
    exact .lst (.inl ⟨n, .inl e2⟩) (q.move fun a o n t e => ⟨fun z => n (.inl z), e⟩)
  cases g with
  | any => trivial
  | dat d =>
    obtain ⟨v', e, q⟩ := h.dat hm
    cases e
    exact q.move fun a o n t e => ⟨fun z => n (.inl z), e⟩
  | raw w => exact Option.some.inj (h.all _ hm)
  | obj φ =>
    obtain ⟨a, e, n, t, q⟩ := h.all _ hm
    exact ⟨a, Option.some.inj e, fun z => n (.inl z), t, q⟩
  | lst p ds =>
    obtain ⟨e, b⟩ := own hm
    cases e
    exact lst b
  | own p ds =>
    obtain ⟨e, b⟩ := own hm
    cases e
    exact b
  | vlst p ds i hi =>
    have e : some v = some (V.ref p) := h.all _ hm
    cases e
    obtain ⟨o, _, e2, _⟩ := zip_get hl hi
    exact lst (own (List.mem_append_left _ e2)).2
  | vown p ds i hi =>
    have e : some v = some (V.ref p) := h.all _ hm
    cases e
    obtain ⟨o, _, e2, _⟩ := zip_get hl hi
    exact (own (List.mem_append_left _ e2)).2
theorem ds_ret (h : DE X c e ρ st fun s ρ1 st1 => ∃ s', Gives ρ1 s s' ∧ D.rt s' st1) : DS X c (.Return (some e) pos) ρ st D := by
  intro τ σ H De hh hl hk hx
  refine ws_of (ps_ret pe_w) (h τ σ H _ hh hl (fun s ρ1 st1 v H1 h1 hh1 hl1 => ?_) hx)
  obtain ⟨s', g, q⟩ := h1
  exact hk.rt _ _ _ _ q hh1.ok hh1.kp (gives_back hh1 hl1 g)
theorem ds_retN (h : D.rt (.dat .none) st) : DS X c (.Return none pos) ρ st D := fun τ σ H De hh hl hk hx => ws_of ps_retN (hk.rt _ _ _ _ h hh.ok hh.kp (show Da c.m.N X.K H .non .none from .non))
theorem ds_raise {C : Addr} {bmB : List Value} {B newId initId : String} {x m : Str} {j : Nat} {p p2 pos2 : Pos} (F : ExcBaseFacts B newId initId bmB) (q : PySem.W.excIn X.K C bmB newId = true) (gC : X.mg x = some (.ref C)) (kC : PySem.W.keepIn X.K (.ref C) = true) (r : Raises X (.ref C)) (hc : X.calm = true) (tk : Takes X c.W)
    (h : c.xk ⟨.ref C, []⟩ st) (hg : Gl X x := by rfl) (hdb : (x == ("__debug__" : Str)) = false := by decide) : DS X c (.Raise (some (.Call (.Name x p) [.Constant (.str m) j p2] [] pos2)) none pos) ρ st D := by
  intro τ σ H De hh hl hk hx
  exact ws_of (ps_raise hc tk (pmk_own F q gC kC r hg hdb)) (hx _ _ _ _ _ h hh.ok hh.kp (.inl ⟨rfl, rfl⟩))

/-! ### loops -/
theorem ds_for {tg iter : Expr} {body : List Stmt} (hp : PassesOwn (model X.prog X.w) X.A X.env X.xe) (hc : X.calm = true)
    (h : DI X c tg iter ρ st fun ds ρ1 st1 => ∃ Iv : Nat → Env → c.m.St → Prop, Iv 0 ρ1 st1 ∧ (∀ i d ρ2 st2, ds[i]? = some d → Iv i ρ2 st2 → DG X c tg d ρ2 st2 fun ρ3 st3 => DB X c body ρ3 st3 { D with nx := Iv (i + 1), ct := Iv (i + 1), bk := D.nx }) ∧ ∀ ρ2 st2, Iv ds.length ρ2 st2 → D.nx ρ2 st2)
    (hs : ∀ x, foldedSetIterable iter X.env x = pure x := by intro _; rfl) : DS X c (.For tg iter body [] pos) ρ st D := by
  intro τ σ H De hh hl hk hx
  refine ws_of (ps_for hp hc pi_w pg_w pss_w hs) (h τ σ H _ hh hl (fun ds ρ1 st1 J E H1 h1 wd hh1 hl1 => ?_) hx)
  obtain ⟨Iv, i0, turn, fin⟩ := h1
  refine ⟨fun i m σ' H' => m = ds.length - i ∧ i ≤ ds.length ∧ ∃ ρ' st', Iv i ρ' st' ∧ Here c.m X.K c.H0 (σ'.zip ρ' ++ (E ++ τ)) st' H' ∧ σ'.length = ρ'.length, ⟨ds.length, by omega, Nat.zero_le _, ρ1, st1, i0, hh1, hl1⟩, ?_⟩
  rintro i m σ' H' ⟨rfl, hi, ρ', st', iv, hh', hl'⟩
  obtain ⟨w1, w2⟩ := wd _ _ _ _ hh' i
  by_cases hlt : i < ds.length
  · have hd : ds[i]? = some ds[i] := List.getElem?_eq_getElem hlt
    obtain ⟨g1, g2⟩ := w2 _ hd
    refine .inr ⟨g1, fun σ2 H2 => ∃ ρ2 st2, Iv (i + 1) ρ2 st2 ∧ Here c.m X.K c.H0 (σ2.zip ρ2 ++ (E ++ τ)) st2 H2 ∧ σ2.length = ρ2.length, fun σ2 H2 ⟨ρ2, st2, q1, q2, q3⟩ => ⟨ds.length - (i + 1), by omega, rfl, hlt, ρ2, st2, q1, q2, q3⟩, fun x H2 y => ?_⟩
    have hy := g2 x H2 y
    refine turn i _ ρ' st' hd iv (E ++ τ) σ' H2 _ x hy hl' (fun ρ3 st3 σ3 H3 h3 hh3 hl3 => ?_)
    refine h3 (E ++ τ) σ3 H3 _ hh3 hl3 ⟨fun ρ4 st4 σ4 H4 q1 q2 q3 => ⟨ρ4, st4, q1, q2, q3⟩, fun ρ4 st4 σ4 H4 q1 q2 q3 => hk.nx _ _ _ _ q1 q2.cutA q3, fun ρ4 st4 σ4 H4 q1 q2 q3 => ⟨ρ4, st4, q1, q2, q3⟩, hk.rt⟩ hx
  · have e : i = ds.length := by omega
    subst e
    exact .inl ⟨w1 (Nat.le_refl _), hk.nx _ _ _ _ (fin _ _ iv) hh'.cutA hl'⟩
theorem ds_while {body : List Stmt} (hp : PassesOwn (model X.prog X.w) X.A X.env X.xe) (Iv : Nat → Env → c.m.St → Prop) (n0 : Nat) (h0 : Iv n0 ρ st)
    (h : ∀ n ρ1 st1, Iv n ρ1 st1 → DT X c t ρ1 st1 fun x ρ2 st2 => (x = true → DB X c body ρ2 st2 { D with nx := fun ρ3 st3 => ∃ n', n' < n ∧ Iv n' ρ3 st3, ct := fun ρ3 st3 => ∃ n', n' < n ∧ Iv n' ρ3 st3, bk := D.nx }) ∧ (x = false → D.nx ρ2 st2)) : DS X c (.While t body [] pos) ρ st D := by
  intro τ σ H De hh hl hk hx
  refine ws_of (ps_while hp pt_w pss_w) ⟨fun n σ' H' => ∃ ρ' st', Iv n ρ' st' ∧ Here c.m X.K c.H0 (σ'.zip ρ' ++ τ) st' H' ∧ σ'.length = ρ'.length, ⟨n0, ρ, st, h0, hh, hl⟩, ?_⟩
  rintro n σ' H' ⟨ρ', st', iv, hh', hl'⟩
  refine h n ρ' st' iv τ σ' H' _ hh' hl' (fun x ρ2 st2 H2 h2 hh2 hl2 => ?_) hx
  cases x with
  | true =>
    refine iteT ⟨fun σ3 H3 => ∃ n', n' < n ∧ ∃ ρ3 st3, Iv n' ρ3 st3 ∧ Here c.m X.K c.H0 (σ3.zip ρ3 ++ τ) st3 H3 ∧ σ3.length = ρ3.length, fun σ3 H3 ⟨n', q1, q2⟩ => ⟨n', q1, q2⟩, ?_⟩
    refine h2.1 rfl τ σ' H2 _ hh2 hl2 ⟨fun ρ4 st4 σ4 H4 ⟨n', q0, q1⟩ q2 q3 => ⟨n', q0, ρ4, st4, q1, q2, q3⟩, fun ρ4 st4 σ4 H4 q1 q2 q3 => hk.nx _ _ _ _ q1 q2 q3, fun ρ4 st4 σ4 H4 ⟨n', q0, q1⟩ q2 q3 => ⟨n', q0, ρ4, st4, q1, q2, q3⟩, hk.rt⟩ hx
  | false => exact iteF (hk.nx _ _ _ _ (h2.2 rfl) hh2 hl2)
end

/-! ### a def keeps its promise -/
/-- the slots at the entry -/
def startD (N : List Str) (ss : List Slot) : Env := ss ++ List.replicate (N.length - ss.length) .any
theorem zip_start {N : List Str} : ∀ {vs : List V} {ss : List Slot} {n : Nat}, vs.length = ss.length → (vs.map some ++ List.replicate n none).zip (ss ++ List.replicate n Slot.any) = argEnts vs ss ++ List.replicate n (none, Slot.any)
  | [], [], n, _ => by
    show (List.replicate n none).zip (List.replicate n Slot.any) = List.replicate n (none, Slot.any)
    rw [List.zip_replicate']
  | v :: vs, s :: ss, n, h => by
    show (some v, s) :: ((vs.map some ++ List.replicate n none).zip (ss ++ List.replicate n Slot.any)) = (some v, s) :: (argEnts vs ss ++ List.replicate n (none, Slot.any))
    rw [zip_start (N := N) (by simpa using h)]
theorem fn_ok {P : Program} {w : World} {K : PySem.W.Frag} {mg : Str → Option Value} {base : Heap} {x qual : Str} {st : Stmt} {f : Addr} {fd : FuncData} {N ps : List Str} {kk : Nat} {F : Pd} (Fn : L2.Fun K x qual st f fd) (S : FnScope N ps (defScope st))
    (len : ∀ m ss s k xk, F m ss s k xk → ss.length = ps.length)
    (body : ∀ (X : Cx) (c : Cz), (∃ cdv A outer s H E, X = cxOf (L2.CX P w) P w K mg base N qual (defScope st) f cdv A outer s H E) → Room kk X.A → Takes X c.W → PassesOwn (model X.prog X.w) X.A X.env X.xe → ∀ ss s k, F c.m ss s k c.xk → DB X c (defBody st) (startD N ss) s ⟨fun _ s' => k (.dat .none) s', k, fun _ _ => False, fun _ _ => False⟩) :
    FnOk P w K mg base (L2.CX P w) (kk + 1) f fd ps (spD K F) := by
  refine Fn.okX S (fun vs H Q E h => ?_) fun cdv A outer s H vs Q E hr h => ?_
  · obtain ⟨m, ss, s, k, xk, _, hl, _, hF, _⟩ := h
    rw [hl]
    exact len _ _ _ _ _ hF
  · obtain ⟨m, ss, s0, k, xk, hok, hl, hargs, hF, hq, hE⟩ := h
    refine ⟨WB _ (defBody st), pss_w, ?_⟩
    have hlN : ss.length ≤ N.length := by
      rw [len _ _ _ _ _ hF]
      have := congrArg List.length S.pre
      rw [List.length_take] at this
      omega
    have e0 : (L2.start N vs).zip (startD N ss) = argEnts vs ss ++ List.replicate (N.length - ss.length) (none, Slot.any) := by
      unfold L2.start startD
      rw [hl]
      exact zip_start (N := N) hl
    have own0 : owns ((L2.start N vs).zip (startD N ss) ++ []) = [] := by
      rw [List.append_nil, e0]
      have : ∀ p, p ∉ owns (argEnts vs ss ++ List.replicate (N.length - ss.length) (none, Slot.any)) := fun p hp => by
        obtain ⟨y, hy, ey⟩ := mem_owns.mp hp
        rcases List.mem_append.mp hy with hy | hy
        · rw [(hargs y hy).2] at ey
          cases ey
        · rw [List.eq_of_mem_replicate hy] at ey
          cases ey
      cases e : owns (argEnts vs ss ++ List.replicate (N.length - ss.length) (none, Slot.any)) with
      | nil => rfl
      | cons p r => exact absurd (by rw [e]; exact List.mem_cons_self) (this p)
    refine body _ ⟨fun cls d _ H' => E cls d H', m, H, xk⟩ ⟨cdv, A, outer, s, H, E, rfl⟩ hr (takes_of rfl rfl rfl rfl) (passes_of rfl) ss s0 k hF [] (L2.start N vs) H _ ⟨hok, Kp.refl _ _, by rw [own0]; exact List.nodup_nil, by rw [own0]; exact fun p hp => (nomatch hp), ?_⟩ ?_ ⟨fun ρ' st' σ' H' h1 hh hl => ?_, fun _ _ _ _ h => h.elim, fun _ _ _ _ h => h.elim, fun s' st' v H' h1 ok kp b => hq _ _ _ _ h1 ok kp b⟩ ?_
    · rw [own0, List.append_nil, e0]
      intro y hy
      rcases List.mem_append.mp hy with hy | hy
      · exact (hargs y hy).1.move (fun a o n t e => ⟨fun z => z.elim n fun z => (nomatch z), e⟩) fun _ _ _ _ q => q
      · rw [List.eq_of_mem_replicate hy]
        trivial
    · unfold L2.start startD
      rw [List.length_append, List.length_append, List.length_map, List.length_replicate, List.length_replicate, hl]
    · exact hq _ _ _ _ h1 hh.ok hh.kp (show Da m.N K H' .non .none from .non)
    · exact fun ex st' d σ' H' h1 ok kp xa => hE _ _ _ _ h1 ok kp xa
end DL

namespace DL
open PySem PySem.Spec PyProof.Rows L2

/-! ### list comprehensions with one name -/
abbrev Bk (X : Cx) (scope : Scope) (s : Shared) (H : Hp) (C : Addr) (cl : List (Str × Addr)) (fp : List Addr) : Cx := X.blk s H scope (compEnvC scope cl C X.env) fp
def UE (X : Cx) (scope : Scope) (e : Expr) : TE := fun σ H Q => ∀ s H0 C cl fp, WE (Bk X scope s H0 C cl fp) e σ H Q
def UT (X : Cx) (scope : Scope) (e : Expr) : TT := fun σ H Q => ∀ s H0 C cl fp, WT (Bk X scope s H0 C cl fp) e σ H Q
def Cz.blk (c : Cz) : Cz := ⟨fun _ _ _ _ => False, c.m, c.H0, fun _ _ => False⟩
theorem contX_blk {c : Cz} {K : PySem.W.Frag} : ContX c.blk K := fun _ _ _ _ _ h => h.elim
def DEb (X : Cx) (scope : Scope) (c : Cz) (e : Expr) (ρ : Env) (st : c.m.St) (k : Slot → Env → c.m.St → Prop) : Prop := ∀ s H0 C cl fp, DE (Bk X scope s H0 C cl fp) c.blk e ρ st k
def DTb (X : Cx) (scope : Scope) (c : Cz) (ifs : List Expr) (ρ : Env) (st : c.m.St) (k : Bool → Env → c.m.St → Prop) : Prop := match ifs with
  | [] => k true ρ st
  | [t] => ∀ s H0 C cl fp, DT (Bk X scope s H0 C cl fp) c.blk t ρ st k
  | _ => False
def ttOf (X : Cx) (scope : Scope) (ifs : List Expr) : TT := match ifs with
  | [] => tYes
  | [t] => UT X scope t
  | _ => fun _ _ _ => False
theorem pts_of {X : Cx} {scope : Scope} : ∀ (ifs : List Expr), (∀ (s : Shared) (H : Hp) (C : Addr) (cl : List (Str × Addr)) (fp : List Addr), PTs (Bk X scope s H C cl fp) ifs (ttOf X scope ifs))
  | [], _, _, _, _, _ => pts_nil
  | [t], s, H, C, cl, fp => pts_one ⟨fun pins s' σ H' Q I h => h s H C cl fp pins s' I⟩
  | _ :: _ :: _, _, _, _, _, _ => ⟨fun _ _ _ _ _ _ h => h.elim⟩
section
variable {m : Mem} {K : PySem.W.Frag} {H0 H : Hp} {st : m.St} {τ : List Ent}
theorem Here.forget' {P : List Ent} : ∀ {L : List Ent} {i : Nat} {o : Option V}, Here m K H0 (P ++ (L ++ τ)) st H → Here m K H0 (P ++ (L.set i (o, .any) ++ τ)) st H
  | [], _, _, h => h
  | e :: L, 0, o, h => by
    have h' : Here m K H0 (P ++ e :: (L ++ τ)) st H := h
    exact (h'.cut).put (e := (o, .any)) rfl trivial
  | e :: L, i + 1, o, h => by
    have h' : Here m K H0 ((P ++ [e]) ++ (L ++ τ)) st H := by rw [List.append_assoc]; exact h
    have q := Here.forget' (i := i) (o := o) h'
    rw [List.append_assoc] at q
    exact q
theorem set_self : ∀ (σ : L2.St) (i : Nat), σ.set i ((σ[i]?).getD none) = σ
  | [], _ => rfl
  | _ :: _, 0 => rfl
  | x :: σ, i + 1 => by
    show x :: σ.set i ((σ[i]?).getD none) = x :: σ
    rw [set_self σ i]
theorem Here.forget {σ : L2.St} {ρ : Env} (h : Here m K H0 (σ.zip ρ ++ τ) st H) (i : Nat) : Here m K H0 (σ.zip (ρ.set i .any) ++ τ) st H := by
  have e : σ.zip (ρ.set i .any) = (σ.zip ρ).set i ((σ[i]?).getD none, .any) := by
    rw [← zip_set, set_self]
  rw [e]
  exact Here.forget' (P := []) h
theorem owns_zip : ∀ {σ σ' : L2.St} {ρ : Env}, σ.length = σ'.length → owns (σ.zip ρ) = owns (σ'.zip ρ)
  | [], [], _, _ => rfl
  | _ :: _, _ :: _, [], _ => rfl
  | a :: σ, b :: σ', s :: ρ, h => by
    show owns ((a, s) :: σ.zip ρ) = owns ((b, s) :: σ'.zip ρ)
    rw [owns_cons, owns_cons, owns_zip (by simpa using h)]
    rfl
theorem zip_any : ∀ {σ σ' : L2.St} {ρ : Env} {e : Ent}, σ.length = σ'.length → (∀ (i : Nat) (s : Slot), ρ[i]? = some s → s ≠ .any → σ[i]? = σ'[i]?) → e ∈ σ'.zip ρ → e ∈ σ.zip ρ ∨ e.2 = .any
  | [], [], _, _, _, _, h => .inl h
  | _ :: _, _ :: _, [], _, _, _, h => by cases h
  | a :: σ, b :: σ', s :: ρ, e, hl, hq, h => by
    rcases List.mem_cons.mp (show e ∈ (b, s) :: σ'.zip ρ from h) with rfl | h
    · by_cases hs : s = .any
      · exact .inr hs
      · have := hq 0 s rfl hs
        have : a = b := Option.some.inj this
        subst this
        exact .inl List.mem_cons_self
    · rcases zip_any (σ := σ) (σ' := σ') (ρ := ρ) (by simpa using hl) (fun i s' e1 e2 => hq (i + 1) s' e1 e2) h with z | z
      · exact .inl (List.mem_cons_of_mem _ z)
      · exact .inr z
/-- the slots that nothing is known of may hold what they will -/
theorem Here.swap {σ σ' : L2.St} {ρ : Env} (h : Here m K H0 (σ.zip ρ ++ τ) st H) (hl : σ.length = σ'.length) (hq : ∀ (i : Nat) (s : Slot), ρ[i]? = some s → s ≠ .any → σ[i]? = σ'[i]?) : Here m K H0 (σ'.zip ρ ++ τ) st H := by
  have eo : owns (σ'.zip ρ ++ τ) = owns (σ.zip ρ ++ τ) := by rw [owns_app, owns_app, owns_zip hl]
  refine ⟨h.ok, h.kp, by rw [eo]; exact h.nd, by rw [eo]; exact h.fr, ?_⟩
  rw [eo]
  intro e he
  rcases List.mem_append.mp he with he | he
  · rcases zip_any hl hq he with z | z
    · exact h.all e (List.mem_append_left _ z)
    · obtain ⟨o, s⟩ := e
      have : s = .any := z
      subst this
      trivial
  · exact h.all e (List.mem_append_right _ he)
theorem swap_set {σ : L2.St} {ρ : Env} {j : Nat} {o : Option V} (h : Here m K H0 (σ.zip (ρ.set j .any) ++ τ) st H) : Here m K H0 ((σ.set j o).zip (ρ.set j .any) ++ τ) st H := by
  refine h.swap (by rw [List.length_set]) fun i s e ne => ?_
  by_cases hij : j = i
  · subst hij
    rw [List.getElem?_set] at e
    split at e
    · split at e
      · exact absurd (Option.some.inj e).symm ne
      · cases e
    · exact absurd rfl (by assumption)
  · rw [List.getElem?_set_ne hij]
theorem swap_unset {σ : L2.St} {ρ : Env} {j : Nat} {o : Option V} (h : Here m K H0 ((σ.set j o).zip (ρ.set j .any) ++ τ) st H) : Here m K H0 (σ.zip (ρ.set j .any) ++ τ) st H := by
  refine h.swap (by rw [List.length_set]) fun i s e ne => ?_
  by_cases hij : j = i
  · subst hij
    rw [List.getElem?_set] at e
    split at e
    · split at e
      · exact absurd (Option.some.inj e).symm ne
      · cases e
    · exact absurd rfl (by assumption)
  · rw [List.getElem?_set_ne hij]
end
section
variable {X : Cx} {c : Cz} {ρ : Env} {st : c.m.St} {k : Slot → Env → c.m.St → Prop} {elt iter : Expr} {ifs : List Expr} {scope : Scope} {j : Nat} {x : Str} {xp : Pos}
/-- what a turn of a comprehension asks -/
def LcT (X : Cx) (c : Cz) (scope : Scope) (j : Nat) (elt : Expr) (ifs : List Expr) (ρ1 : Env) (st1 : c.m.St) (ds : List PyData) (k : Slot → Env → c.m.St → Prop) : Prop :=
  ∃ Iv : Nat → List PyData → c.m.St → Prop, Iv 0 [] st1 ∧ (∀ i d acc st2, ds[i]? = some d → Iv i acc st2 → acc.length < 100000 ∧ DTb X scope c ifs (ρ1.set j (.dat d)) st2 fun b ρ3 st3 => (b = true → DEb X scope c elt ρ3 st3 fun s ρ4 st4 => ∃ d', AllD [s] [d'] ∧ ρ4.set j .any = ρ1.set j .any ∧ Iv (i + 1) (acc ++ [d']) st4) ∧ (b = false → ρ3.set j .any = ρ1.set j .any ∧ Iv (i + 1) acc st3)) ∧
    ∀ acc st2, Iv ds.length acc st2 → ∀ p, k (.own p acc) (ρ1.set j .any) st2
/-- the list that grows, while the walked one is known -/
theorem lc_core {τ E : List Ent} {σ : L2.St} {H H1 : Hp} {J : It} {Q : VK} {ρ1 : Env} {st1 : c.m.St} {ds : List PyData} (hh1 : Here c.m X.K c.H0 (σ.zip ρ1 ++ (E ++ τ)) st1 H1) (hl1 : σ.length = ρ1.length) (hk : Cont c X.K σ τ k Q) (h1 : LcT X c scope j elt ifs ρ1 st1 ds k)
    (wd : ∀ (D : Addr) (acc : List PyData) (st : c.m.St) (H : Hp), Here c.m X.K c.H0 ((σ.zip (ρ1.set j .any) ++ [(some (.ref D), .own D acc)]) ++ (E ++ τ)) st H → ∀ i : Nat, (ds.length ≤ i → J.stop i H) ∧ ∀ d, ds[i]? = some d → J.go i H ∧ ∀ x H', J.yld i H x H' → Here c.m X.K c.H0 ((σ.zip (ρ1.set j .any) ++ [(some (.ref D), .own D acc)]) ++ (some x, .dat d) :: (E ++ τ)) st H') (fin' : ∀ (D : Addr) (acc : List PyData) (st' : c.m.St) (H' : Hp), Here c.m X.K c.H0 ((σ.zip (ρ1.set j .any) ++ [(some (.ref D), .own D acc)]) ++ (E ++ τ)) st' H' → Here c.m X.K c.H0 (σ.zip (ρ1.set j .any) ++ (some (.ref D), .own D acc) :: τ) st' H') :
    tLc (fun _ _ R => R J H1) (gName j) (ttOf X scope ifs) (UE X scope elt) [j] σ H Q := by
  obtain ⟨Iv, i0, turn, fin⟩ := h1
  intro D hD
  have hw := hh1.forget j
  have ll : σ.length = (ρ1.set j .any).length := by rw [List.length_set]; exact hl1
  refine ⟨fun i n H' => n = ds.length - i ∧ i ≤ ds.length ∧ ∃ acc st', Iv i acc st' ∧ Here c.m X.K c.H0 (σ.zip (ρ1.set j .any) ++ (some (.ref D), .own D acc) :: (E ++ τ)) st' H', ⟨ds.length, by omega, Nat.zero_le _, [], st1, i0, hw.allocOwn hD .nil⟩, ?_⟩
  rintro i n H' ⟨rfl, hi, acc, st', iv, hh'⟩
  have hE : Here c.m X.K c.H0 ((σ.zip (ρ1.set j .any) ++ [(some (.ref D), .own D acc)]) ++ (E ++ τ)) st' H' := by rw [List.append_assoc]; exact hh'
  obtain ⟨w1, w2⟩ := wd D acc st' H' hE i
  by_cases hlt : i < ds.length
  · have hd : ds[i]? = some ds[i] := List.getElem?_eq_getElem hlt
    obtain ⟨g1, g2⟩ := w2 _ hd
    obtain ⟨hz, tq⟩ := turn i _ acc st' hd iv
    refine .inr ⟨g1, fun H2 => ∃ acc2 st2, Iv (i + 1) acc2 st2 ∧ Here c.m X.K c.H0 (σ.zip (ρ1.set j .any) ++ (some (.ref D), .own D acc2) :: (E ++ τ)) st2 H2, fun H2 ⟨acc2, st2, q1, q2⟩ => ⟨ds.length - (i + 1), by omega, rfl, hlt, acc2, st2, q1, q2⟩, fun v H2 y => ?_⟩
    have hy := g2 v H2 y
    rw [List.append_assoc] at hy
    have hy1 : Here c.m X.K c.H0 (σ.zip (ρ1.set j .any) ++ (some v, .dat ds[i]) :: (some (.ref D), .own D acc) :: (E ++ τ)) st' H2 := hy.perm (List.Perm.append_left _ (List.Perm.swap _ _ _))
    have hy2 := hy1.store j
    show wipe ((wipe σ [j]).set j (some v)) [j] = wipe σ [j] ∧ _
    refine ⟨by show ((σ.set j none).set j (some v)).set j none = σ.set j none; rw [List.set_set, List.set_set], ?_⟩
    have e1 : (wipe σ [j]).set j (some v) = σ.set j (some v) := by show (σ.set j none).set j (some v) = _; rw [List.set_set]
    rw [e1]
    have e2 : (ρ1.set j .any).set j (.dat ds[i]) = ρ1.set j (.dat ds[i]) := by rw [List.set_set]
    rw [e2] at hy2
    have l2 : (σ.set j (some v)).length = (ρ1.set j (.dat ds[i])).length := by rw [List.length_set, List.length_set]; exact hl1
    -- behind the test
    have after : ∀ {b : Bool} {ρ3 : Env} {st3 : c.m.St} {H3 : Hp}, ((b = true → DEb X scope c elt ρ3 st3 fun s ρ4 st4 => ∃ d', AllD [s] [d'] ∧ ρ4.set j .any = ρ1.set j .any ∧ Iv (i + 1) (acc ++ [d']) st4) ∧ (b = false → ρ3.set j .any = ρ1.set j .any ∧ Iv (i + 1) acc st3)) →
        Here c.m X.K c.H0 ((σ.set j (some v)).zip ρ3 ++ (some (.ref D), .own D acc) :: (E ++ τ)) st3 H3 → (σ.set j (some v)).length = ρ3.length →
        (if b = true then UE X scope elt (σ.set j (some v)) H3 fun y H4 => ∃ acc, H4 D = some (.lst acc) ∧ acc.length < sizeLine ∧ (fun H2 => ∃ acc2 st2, Iv (i + 1) acc2 st2 ∧ Here c.m X.K c.H0 (σ.zip (ρ1.set j .any) ++ (some (.ref D), .own D acc2) :: (E ++ τ)) st2 H2) (upd H4 D (.lst (acc ++ [y])))
          else (fun H2 => ∃ acc2 st2, Iv (i + 1) acc2 st2 ∧ Here c.m X.K c.H0 (σ.zip (ρ1.set j .any) ++ (some (.ref D), .own D acc2) :: (E ++ τ)) st2 H2) H3) := by
      intro b ρ3 st3 H3 hq hh3 hl3
      cases b with
      | true =>
        refine iteT fun s0 H00 C cl fp => hq.1 rfl s0 H00 C cl fp _ _ H3 _ hh3 hl3 (fun s ρ4 st4 y H4 h4 hh4 hl4 => ?_) contX_blk
        obtain ⟨d', ad, e4, iv4⟩ := h4
        have da := allD_da (vs := [y]) (A := (σ.set j (some v)).zip ρ4) ad rfl hh4
        have h5 : Here c.m X.K c.H0 ((σ.set j (some v)).zip ρ4 ++ (some (.ref D), .own D acc) :: (E ++ τ)) st4 H4 := Here.cut hh4
        obtain ⟨_, xs, eD, qD⟩ := h5.all _ (List.mem_append_right _ List.mem_cons_self)
        refine ⟨xs, eD, Nat.lt_of_lt_of_le (by rw [qD.len]; exact hz) (show 100000 ≤ sizeLine by decide), acc ++ [d'], st4, iv4, ?_⟩
        have h6 := h5.write (ys := xs ++ [y]) (qD.app da)
        have h7 := h6.forget j
        rw [e4] at h7
        exact swap_unset h7
      | false =>
        obtain ⟨e3, iv3⟩ := hq.2 rfl
        refine iteF ⟨acc, st3, iv3, ?_⟩
        have h7 := hh3.forget j
        rw [e3] at h7
        exact swap_unset h7
    match ifs, tq with
    | [], tq => exact after tq hy2 l2
    | [t], tq => exact fun s0 H00 C cl fp => tq s0 H00 C cl fp _ _ H2 _ hy2 l2 (fun b ρ3 st3 H3 h3 hh3 hl3 => after h3 hh3 hl3) contX_blk
    | _ :: _ :: _, tq => exact tq.elim
  · have e : i = ds.length := by omega
    subst e
    exact .inl ⟨w1 (Nat.le_refl _), hk _ _ _ _ _ (fin _ _ iv D) (fin' D acc st' H' hE) ll⟩
theorem lc_read {τ : List Ent} {σ : L2.St} {H : Hp} {Q : VK} (hh : Here c.m X.K c.H0 (σ.zip ρ ++ τ) st H) (hl : σ.length = ρ.length) (hk : Cont c X.K σ τ k Q) (hx : ContX c X.K)
    (h : DI X c (.Name x xp) iter ρ st fun ds ρ1 st1 => LcT X c scope j elt ifs ρ1 st1 ds k) : tLc (WI X (.Name x xp) iter) (gName j) (ttOf X scope ifs) (UE X scope elt) [j] σ H Q := by
  refine h τ σ H _ hh hl (fun ds ρ1 st1 J E H1 h1 wd hh1 hl1 => ?_) hx
  exact lc_core (H := H) hh1 hl1 hk h1 (fun D acc st H h i => wd _ _ st H h i) fun D acc st' H' hE => by
    have h10 := hE.cutA
    rw [List.append_assoc] at h10
    exact h10
theorem de_lc {pos : Pos} (hc : X.calm = true) (hN : X.N.Nodup) (ok : BlkOk X.N X.env.scope scope [(x, j)]) (hg : ∀ (s : Shared) (H : Hp) (C : Addr) (cl : List (Str × Addr)) (fp : List Addr), PG (Bk X scope s H C cl fp) (.Name x xp) (gName j))
    (h : DI X c (.Name x xp) iter ρ st fun ds ρ1 st1 => LcT X c scope j elt ifs ρ1 st1 ds k) (hs : ∀ x, foldedSetIterable iter X.env x = pure x := by intro _; rfl) : DE X c (.ListComp elt [⟨.Name x xp, iter, ifs, 0⟩] scope pos) ρ st k := by
  intro τ σ H Q hh hl hk hx
  exact we_of (pe_lc (own := [(x, j)]) hc hN pi_w ok hg (pts_of ifs) (fun s H C cl fp => ⟨fun pins s' σ H' Q I h => h s H C cl fp pins s' I⟩) hs) (lc_read hh hl hk hx h)
theorem ds_asgLc {i : Nat} {y : Str} {py pos spos : Pos} {D : Dn c.m} (hc : X.calm = true) (hN : X.N.Nodup) (hy : X.N[i]? = some y) (hyl : X.env.scope.names.lookup y = some .local)
    (hsw : swapsWith (.ListComp elt [⟨.Name x xp, iter, ifs, 0⟩] scope pos) (some (.Name y py)) spos.line X.env = pure true) (ok : BlkOk X.N X.env.scope scope [(x, j)]) (hg : ∀ (s : Shared) (H : Hp) (C : Addr) (cl : List (Str × Addr)) (fp : List Addr), PG (Bk X scope s H C cl fp) (.Name x xp) (gName j))
    (h : DI X c (.Name x xp) iter ρ st fun ds ρ1 st1 => LcT X c scope j elt ifs ρ1 st1 ds fun s ρ2 st2 => D.nx (ρ2.set i s) st2) (hs : ∀ x, foldedSetIterable iter X.env x = pure x := by intro _; rfl) : DS X c (.Assign [.Name y py] (.ListComp elt [⟨.Name x xp, iter, ifs, 0⟩] scope pos) spos) ρ st D := by
  intro τ σ H De hh hl hk hx
  refine ws_of (ps_setLc (own := [(x, j)]) (te := UE X scope elt) hc hN hy hyl hsw pi_w ok hg (pts_of ifs) (fun s H C cl fp => ⟨fun pins s' σ H' Q I h => h s H C cl fp pins s' I⟩) hs) ?_
  exact lc_read hh hl (fun s ρ' st' v H' h1 hh1 hl1 => hk.nx _ _ _ _ h1 (hh1.store i) (len_set hl1)) hx h
end
end DL

namespace DL
open PySem PySem.Spec PyProof.Rows L2

/-! ### built-ins over data -/
def tyName : PyData → String
  | .none => "NoneType"
  | .bool _ => "bool"
  | .int _ => "int"
  | .str _ => "str"
  | .list _ => "list"
  | .tuple _ => "tuple"
  | .dict _ => "dict"
section
variable {N : Addr → Prop} {K : PySem.W.Frag} {H : Hp}
theorem da_ty {v : V} {d : PyData} (h : Da N K H v d) : TyX K H v (.type (tyName d)) := by
  cases h with
  | non => exact .base .non
  | bl b => exact .base (.bl b)
  | int i => exact .base (.int i)
  | str x => exact .base (.str x)
  | lst r q =>
    rcases r with ⟨_, r | ⟨o, r⟩⟩ | ⟨o, its, n, h1, h2, _⟩
    · exact .base (.lst r)
    · exact .base (.frz r)
    · exact .kList h1 h2
  | tup r q =>
    rcases r with ⟨_, r | ⟨o, r⟩⟩ | ⟨o, its, n, h1, h2, _⟩
    · exact .base (.tup r)
    · exact .fTuple r
    · exact .kTuple h1 h2
  | dct n r q =>
    rcases r with r | ⟨o, r⟩
    · exact .base (.dK r)
    · exact .fDict r
end
section
variable {X : Cx} {c : Cz} {e a b t : Expr} {es : List Expr} {ρ : Env} {st : c.m.St} {pos : Pos} {k : Slot → Env → c.m.St → Prop} {kb : Bool → Env → c.m.St → Prop} {K : PySem.W.Frag} {s1 s2 : Slot}
/-- a built-in's name, a class, a def, a constant, as a value -/
theorem de_bltn {x : Str} {v : V} {u : Value} (hm : X.mg x = none) (hv : bootBuiltins x = some u) (r : RelV v u) (h : k (.raw v) ρ st) (hg : Gl X x := by rfl) (hn : x ≠ "__name__" := by decide) (hd : (x == ("__debug__" : Str)) = false := by decide) : DE X c (.Name x pos) ρ st k := by
  intro τ σ H Q hh hl hk hx
  exact we_of (pe_bltn hg hm hv r hn hd) (hk _ _ _ _ _ h (hh.put rfl rfl) hl)
theorem de_glob {x : Str} {v : V} {u : Value} (hm : X.mg x = some u) (r : RelV v u) (h : k (.raw v) ρ st) (hg : Gl X x := by rfl) (hd : (x == ("__debug__" : Str)) = false := by decide) : DE X c (.Name x pos) ρ st k := by
  intro τ σ H Q hh hl hk hx
  exact we_of (pe_glob hg hm r hd) (hk _ _ _ _ _ h (hh.put rfl rfl) hl)
/-- a constant of the module -/
theorem de_con {x : Str} {v : V} {u : Value} {d : PyData} (hm : X.mg x = some u) (r : RelV v u) (hd : ∀ N H, Da N X.K H v d) (h : k (.dat d) ρ st) (hg : Gl X x := by rfl) (hdb : (x == ("__debug__" : Str)) = false := by decide) : DE X c (.Name x pos) ρ st k := by
  intro τ σ H Q hh hl hk hx
  exact we_of (pe_glob hg hm r hdb) (hk _ _ _ _ _ h (hh.put rfl ⟨v, rfl, hd _ _⟩) hl)
theorem one_of {vs : List V} {s : Slot} (h : vs.length = [s].length) : ∃ x, vs = [x] := by
  match vs, h with
  | [x], _ => exact ⟨x, rfl⟩
theorem two_of {vs : List V} {s t : Slot} (h : vs.length = [s, t].length) : ∃ x y, vs = [x, y] := by
  match vs, h with
  | [x, y], _ => exact ⟨x, y, rfl⟩
/-- a flat argument's value -/
theorem arg_flat {m : Mem} {H0 H : Hp} {A B : List Ent} {st : m.St} {v w : V} {d : PyData} (h : Here m K H0 (A ++ (some v, .dat d) :: B) st H) (hw : flatD w = some d) : v = w := Option.some.inj (h.int1 hw)
theorem dcall_isi {d : PyData} {n : String} {x : Bool} (hb : kitB (tyName d) n = some x) (h : k (.dat (.bool x)) ρ st) : DCall K c (rIsi K) [.dat d, .raw (.ty n)] ρ st k := by
  intro τ σ H Q vs hlen hh hl hk
  obtain ⟨v, w, rfl⟩ := two_of hlen
  have h' : Here c.m K c.H0 (σ.zip ρ ++ (some v, .dat d) :: (some w, .raw (.ty n)) :: τ) st H := hh
  obtain ⟨v', e, q⟩ := h'.dat (List.mem_append_right _ List.mem_cons_self)
  cases e
  have e : some w = some (V.ty n) := h'.all _ (List.mem_append_right _ (List.mem_cons_of_mem _ List.mem_cons_self))
  cases e
  exact ⟨v, .ty n, _, .type n, x, rfl, .ty n, da_ty q, kit_ty hb, hk _ _ _ _ _ h (h'.two (v := .bl _) rfl) hl⟩
theorem dcall_abs {i : Int} (h : k (.dat (.int i.natAbs)) ρ st) : DCall K c (fun xs H Q => ∃ i, xs = [.int i] ∧ Q (.int (if i < 0 then -i else i)) H) [.dat (.int i)] ρ st k := by
  intro τ σ H Q vs hlen hh hl hk
  obtain ⟨v, rfl⟩ := one_of hlen
  have h' : Here c.m K c.H0 (σ.zip ρ ++ (some v, .dat (.int i)) :: τ) st H := hh
  have e := arg_flat h' (w := .int i) rfl
  subst e
  refine ⟨i, rfl, ?_⟩
  have e2 : (if i < 0 then -i else i) = (i.natAbs : Int) := by split <;> omega
  rw [e2]
  exact hk _ _ _ _ _ h (h'.one (v := .int _) rfl) hl
theorem dcall_int {i : Int} (h : k (.dat (.int i)) ρ st) : DCall K c (fun xs H Q => (∃ i, xs = [.int i] ∧ Q (.int i) H) ∨ ∃ k, xs = [.bl k] ∧ Q (.int (if k then 1 else 0)) H) [.dat (.int i)] ρ st k := by
  intro τ σ H Q vs hlen hh hl hk
  obtain ⟨v, rfl⟩ := one_of hlen
  have h' : Here c.m K c.H0 (σ.zip ρ ++ (some v, .dat (.int i)) :: τ) st H := hh
  have e := arg_flat h' (w := .int i) rfl
  subst e
  exact .inl ⟨i, rfl, hk _ _ _ _ _ h h' hl⟩
theorem dcall_min2 {i j : Int} (h : k (.dat (.int (min i j))) ρ st) : DCall K c (fun xs H Q => ∃ i j, xs = [.int i, .int j] ∧ Q (.int (if j < i then j else i)) H) [.dat (.int i), .dat (.int j)] ρ st k := by
  intro τ σ H Q vs hlen hh hl hk
  obtain ⟨v, w, rfl⟩ := two_of hlen
  have h' : Here c.m K c.H0 (σ.zip ρ ++ (some v, .dat (.int i)) :: (some w, .dat (.int j)) :: τ) st H := hh
  have e := arg_flat h' (w := .int i) rfl
  have e' : w = .int j := Option.some.inj (h'.int2 (w := .int j) rfl)
  subst e e'
  refine ⟨i, j, rfl, ?_⟩
  have e2 : (if j < i then j else i) = min i j := by split <;> omega
  rw [e2]
  exact hk _ _ _ _ _ h (h'.two (v := .int _) rfl) hl
theorem dcall_max2 {i j : Int} (h : k (.dat (.int (max i j))) ρ st) : DCall K c (fun xs H Q => ∃ i j, xs = [.int i, .int j] ∧ Q (.int (if j > i then j else i)) H) [.dat (.int i), .dat (.int j)] ρ st k := by
  intro τ σ H Q vs hlen hh hl hk
  obtain ⟨v, w, rfl⟩ := two_of hlen
  have h' : Here c.m K c.H0 (σ.zip ρ ++ (some v, .dat (.int i)) :: (some w, .dat (.int j)) :: τ) st H := hh
  have e := arg_flat h' (w := .int i) rfl
  have e' : w = .int j := Option.some.inj (h'.int2 (w := .int j) rfl)
  subst e e'
  refine ⟨i, j, rfl, ?_⟩
  have e2 : (if j > i then j else i) = max i j := by split <;> omega
  rw [e2]
  exact hk _ _ _ _ _ h (h'.two (v := .int _) rfl) hl
/-- a list, a tuple at an argument's place: its items, told by all that is kept -/
theorem asD_seq {m : Mem} {H0 H : Hp} {σ : L2.St} {L : List Ent} {st : m.St} {v : V} {s : Slot} {d : PyData} (h : Here m K H0 L st H) (hz : ∀ e ∈ σ.zip ρ, e ∈ L) (hl : σ.length = ρ.length) (hm : (some v, s) ∈ L) (a : AsD ρ s d) :
    (∀ ds, d = .list ds → ∃ p xs, v = .ref p ∧ SqL K H p xs ∧ DaAll (fun a => m.N a ∨ a ∈ owns L) K H xs ds) ∧ ∀ ds, d = .tuple ds → ∃ p xs, v = .ref p ∧ SqT K H p xs ∧ DaAll (fun a => m.N a ∨ a ∈ owns L) K H xs ds := by
  have own : ∀ {p : Addr} {ds : List PyData} {o : Option V}, (o, Slot.own p ds) ∈ L → o = some (.ref p) ∧ ∃ xs, SqL K H p xs ∧ DaAll (fun a => m.N a ∨ a ∈ owns L) K H xs ds := fun {p ds o} he => by
    obtain ⟨e, xs, e2, q⟩ := h.all _ he
    exact ⟨e, xs, .inl (.inl e2), q⟩
  cases a with
  | dat d =>
    obtain ⟨v', e, q⟩ := h.dat hm
    cases e
    refine ⟨fun ds e => ?_, fun ds e => ?_⟩
    · subst e
      cases q with
      | lst r qa => exact ⟨_, _, rfl, r.sq, qa⟩
    · subst e
      cases q with
      | tup r qa => exact ⟨_, _, rfl, r.sq, qa⟩
  | own p ds =>
    obtain ⟨e, xs, q1, q2⟩ := own hm
    cases e
    exact ⟨fun ds' e => by cases e; exact ⟨p, xs, rfl, q1, q2⟩, fun ds' e => by cases e⟩
  | ref p ds i hi =>
    have e : some v = some (V.ref p) := h.all _ hm
    cases e
    obtain ⟨o, _, e2, _⟩ := zip_get hl hi
    obtain ⟨_, xs, q1, q2⟩ := own (hz _ e2)
    exact ⟨fun ds' e => by cases e; exact ⟨p, xs, rfl, q1, q2⟩, fun ds' e => by cases e⟩
/-- its list or tuple -/
inductive SeqD : PyData → List PyData → Prop
  | lst (ds : List PyData) : SeqD (.list ds) ds
  | tup (ds : List PyData) : SeqD (.tuple ds) ds
theorem dcall_len {d : PyData} {ds : List PyData} (a : AsD ρ s1 d) (q : SeqD d ds) (h : k (.dat (.int ds.length)) ρ st) : DCall K c (fun xs H Q => ∃ p ys, xs = [.ref p] ∧ (SqL K H p ys ∨ SqT K H p ys) ∧ Q (.int ys.length) H) [s1] ρ st k := by
  intro τ σ H Q vs hlen hh hl hk
  obtain ⟨v, rfl⟩ := one_of hlen
  have h' : Here c.m K c.H0 (σ.zip ρ ++ (some v, s1) :: τ) st H := hh
  obtain ⟨q1, q2⟩ := asD_seq h' (fun e he => List.mem_append_left _ he) hl (List.mem_append_right _ List.mem_cons_self) a
  cases q with
  | lst =>
    obtain ⟨p, xs, rfl, q3, q4⟩ := q1 ds rfl
    exact ⟨p, xs, rfl, .inl q3, by rw [q4.len]; exact hk _ _ _ _ _ h (h'.one (v := .int _) rfl) hl⟩
  | tup =>
    obtain ⟨p, xs, rfl, q3, q4⟩ := q2 ds rfl
    exact ⟨p, xs, rfl, .inr q3, by rw [q4.len]; exact hk _ _ _ _ _ h (h'.one (v := .int _) rfl) hl⟩
theorem own_ne {m : Mem} {H0 H : Hp} {L : List Ent} {st : m.St} {p : Addr} (h : Here m K H0 L st H) (hp : H p = none) : ¬ (m.N p ∨ p ∈ owns L) := fun z => by
  rcases z with z | z
  · exact h.freshN hp z
  · obtain ⟨x, hx, e⟩ := mem_owns.mp z
    have k := h.all x hx
    obtain ⟨o, s⟩ := x
    cases s with
    | own p' ds' =>
      obtain ⟨_, xs', e2, _⟩ := k
      have : p' = p := Option.some.inj e
      rw [this, hp] at e2
      cases e2
    | _ => cases e
/-- a new tuple of what is known -/
theorem Here.newTup {m : Mem} {H0 H : Hp} {A B : List Ent} {st : m.St} {p : Addr} {xs : List V} {ds : List PyData} (h : Here m K H0 (A ++ B) st H) (hp : H p = none) (q : DaAll (fun a => m.N a ∨ a ∈ owns (A ++ B)) K H xs ds) : Here m K H0 (A ++ (some (.ref p), .dat (.tuple ds)) :: B) st (upd H p (.tup xs)) := by
  have np := own_ne h hp
  refine (h.alloc (o := .tup xs) hp).put rfl ⟨_, rfl, .tup (.inl ⟨np, .inl upd_same⟩) (q.move fun a o n t e => ⟨n, ?_⟩)⟩
  rw [upd_ne (ne_of_none e hp)]
  exact e
theorem wk_owns {A B : List Ent} {x : Ent} {m : Mem} : ∀ (H : Hp) (a : Addr) (o : HO), ¬ (m.N a ∨ a ∈ owns (A ++ x :: B)) → NT o → H a = some o → ¬ (m.N a ∨ a ∈ owns (A ++ B)) ∧ H a = some o := fun H a o n t e => ⟨fun z => n (z.elim .inl fun z => .inr (owns_sub (fun y hy => (List.mem_append.mp hy).elim (List.mem_append_left _) fun z => List.mem_append_right _ (List.mem_cons_of_mem _ z)) a z)), e⟩
theorem dcall_tuple {d : PyData} {ds : List PyData} (a : AsD ρ s1 d) (q : SeqD d ds) (h : k (.dat (.tuple ds)) ρ st) : DCall K c (fun xs H Q => ∃ p ys, xs = [.ref p] ∧ ((SqL K H p ys ∧ ∀ l, H l = none → Q (.ref l) (upd H l (.tup ys))) ∨ (SqT K H p ys ∧ Q (.ref p) H))) [s1] ρ st k := by
  intro τ σ H Q vs hlen hh hl hk
  obtain ⟨v, rfl⟩ := one_of hlen
  have h' : Here c.m K c.H0 (σ.zip ρ ++ (some v, s1) :: τ) st H := hh
  obtain ⟨q1, q2⟩ := asD_seq h' (fun e he => List.mem_append_left _ he) hl (List.mem_append_right _ List.mem_cons_self) a
  cases q with
  | lst =>
    obtain ⟨p, xs, rfl, q3, q4⟩ := q1 ds rfl
    exact ⟨p, xs, rfl, .inl ⟨q3, fun l hl' => hk _ _ _ _ _ h (h'.cut.newTup hl' (q4.move (wk_owns _))) hl⟩⟩
  | tup =>
    cases a with
    | dat =>
      obtain ⟨p, xs, rfl, q3, q4⟩ := q2 ds rfl
      exact ⟨p, xs, rfl, .inr ⟨q3, hk _ _ _ _ _ h h' hl⟩⟩
theorem dcall_list {d : PyData} {ds : List PyData} (a : AsD ρ s1 d) (q : SeqD d ds) (h : ∀ p, k (.own p ds) ρ st) : DCall K c (fun xs H Q => ∃ p ys, xs = [.ref p] ∧ (SqL K H p ys ∨ SqT K H p ys) ∧ ∀ l, H l = none → Q (.ref l) (upd H l (.lst ys))) [s1] ρ st k := by
  intro τ σ H Q vs hlen hh hl hk
  obtain ⟨v, rfl⟩ := one_of hlen
  have h' : Here c.m K c.H0 (σ.zip ρ ++ (some v, s1) :: τ) st H := hh
  obtain ⟨q1, q2⟩ := asD_seq h' (fun e he => List.mem_append_left _ he) hl (List.mem_append_right _ List.mem_cons_self) a
  cases q with
  | lst =>
    obtain ⟨p, xs, rfl, q3, q4⟩ := q1 ds rfl
    exact ⟨p, xs, rfl, .inl q3, fun l hl' => hk _ _ _ _ _ (h l) (h'.cut.allocOwn hl' (q4.move (wk_owns _))) hl⟩
  | tup =>
    obtain ⟨p, xs, rfl, q3, q4⟩ := q2 ds rfl
    exact ⟨p, xs, rfl, .inr q3, fun l hl' => hk _ _ _ _ _ (h l) (h'.cut.allocOwn hl' (q4.move (wk_owns _))) hl⟩

/-! ### items -/
theorem DaAll.atI {N : Addr → Prop} {H : Hp} {xs : List V} {ds : List PyData} {i : Int} {d : PyData} (q : DaAll N K H xs ds) (h : L2.atI ds i = some d) : ∃ v, L2.atI xs i = some v ∧ Da N K H v d := by
  unfold L2.atI at h ⊢
  rw [q.len]
  cases e : ixN ds.length i with
  | none => rw [e] at h; cases h
  | some j =>
    rw [e] at h
    obtain ⟨v, h1, h2⟩ := q.get (i := j) h
    exact ⟨v, h1, h2⟩
theorem dop_ixL {i : Int} {ds : List PyData} {d : PyData} (a : AsD ρ s1 (.list ds)) (hi : L2.atI ds i = some d) (h : k (.dat d) ρ st) : DOp K c (rIxL K) s1 (.dat (.int i)) ρ st k := by
  intro τ σ H Q v1 v2 hh hl hk
  have e2 : v2 = .int i := Option.some.inj (hh.int1 (w := .int i) rfl)
  obtain ⟨q1, _⟩ := asD_seq hh (fun e he => List.mem_append_left _ he) hl (List.mem_append_right _ (List.mem_cons_of_mem _ List.mem_cons_self)) a
  obtain ⟨p, xs, rfl, q3, q4⟩ := q1 ds rfl
  obtain ⟨v, hv, qv⟩ := q4.atI hi
  refine ⟨p, xs, i, v, rfl, e2, q3, hv, hk _ _ _ _ _ h (hh.cut.cut.put rfl ⟨v, rfl, ?_⟩) hl⟩
  exact (qv.move (wk_owns _)).move (wk_owns _)
theorem dop_ixT {i : Int} {ds : List PyData} {d : PyData} (hi : L2.atI ds i = some d) (h : k (.dat d) ρ st) : DOp K c (rIxT K) (.dat (.tuple ds)) (.dat (.int i)) ρ st k := by
  intro τ σ H Q v1 v2 hh hl hk
  have e2 : v2 = .int i := Option.some.inj (hh.int1 (w := .int i) rfl)
  obtain ⟨_, q2⟩ := asD_seq hh (fun e he => List.mem_append_left _ he) hl (List.mem_append_right _ (List.mem_cons_of_mem _ List.mem_cons_self)) (.dat (.tuple ds))
  obtain ⟨p, xs, rfl, q3, q4⟩ := q2 ds rfl
  obtain ⟨v, hv, qv⟩ := q4.atI hi
  refine ⟨p, xs, i, v, rfl, e2, q3, hv, hk _ _ _ _ _ h (hh.cut.cut.put rfl ⟨v, rfl, ?_⟩) hl⟩
  exact (qv.move (wk_owns _)).move (wk_owns _)
/-! ### in, of flat values -/
def flat1 : PyData → Bool
  | .none => true
  | .bool _ => true
  | .int _ => true
  | .str _ => true
  | _ => false
theorem da_flat1 {N : Addr → Prop} {H : Hp} {v : V} {d : PyData} (q : Da N K H v d) (h : flat1 d = true) : flatD v = some d ∧ flatV v = true := by
  cases q with
  | non => exact ⟨rfl, rfl⟩
  | bl b => exact ⟨rfl, rfl⟩
  | int i => exact ⟨rfl, rfl⟩
  | str x => exact ⟨rfl, rfl⟩
  | lst _ _ => cases h
  | tup _ _ => cases h
  | dct _ _ _ => cases h
theorem eqV_eqv {x y : V} {d e : PyData} (h1 : flatD x = some d) (h2 : flatD y = some e) : eqV x y = PyData.eqv d e := by
  cases x <;> cases h1 <;> cases y <;> cases h2 <;> simp [eqV, PyData.eqv]
def inD (d : PyData) (ds : List PyData) : Bool := ds.any fun e => PyData.eqv e d
theorem inV_inD {N : Addr → Prop} {H : Hp} {x : V} {d : PyData} (hx : flatD x = some d) : ∀ {xs : List V} {ds : List PyData}, DaAll N K H xs ds → ds.all flat1 = true → xs.all flatV = true ∧ inV x xs = inD d ds
  | _, _, .nil, _ => ⟨rfl, rfl⟩
  | _, _, .cons (v := v) (vs := vs) (d := e) (ds := ds) q qs, h => by
    rw [List.all_cons, Bool.and_eq_true] at h
    obtain ⟨h1, h2⟩ := inV_inD hx qs h.2
    obtain ⟨h3, h4⟩ := da_flat1 q h.1
    refine ⟨by rw [List.all_cons, h4, h1]; rfl, ?_⟩
    have h2' : (vs.any fun y => eqV y x) = (ds.any fun e => PyData.eqv e d) := h2
    show ((v :: vs).any fun y => eqV y x) = ((e :: ds).any fun e => PyData.eqv e d)
    rw [List.any_cons, List.any_cons, h2', eqV_eqv h3 hx]
theorem dop_in {neg : Bool} {d d2 : PyData} {ds : List PyData} (a : AsD ρ s2 d2) (q : SeqD d2 ds) (h1 : flat1 d = true) (h2 : ds.all flat1 = true) (h : k (.dat (.bool (if neg then !inD d ds else inD d ds))) ρ st) : DOp K c (rIn K neg) (.dat d) s2 ρ st k := by
  intro τ σ H Q v1 v2 hh hl hk
  obtain ⟨v', e, qd⟩ := hh.dat (List.mem_append_right _ (List.mem_cons_of_mem _ List.mem_cons_self))
  cases e
  obtain ⟨f1, f2⟩ := da_flat1 qd h1
  obtain ⟨q1, q2⟩ := asD_seq hh (fun e he => List.mem_append_left _ he) hl (List.mem_append_right _ List.mem_cons_self) a
  cases q with
  | lst =>
    obtain ⟨p, xs, rfl, q3, q4⟩ := q1 ds rfl
    obtain ⟨g1, g2⟩ := inV_inD f1 q4 h2
    refine ⟨p, xs, rfl, .inl q3, f2, g1, ?_⟩
    rw [g2]
    exact hk _ _ _ _ _ h (hh.two (v := .bl _) rfl) hl
  | tup =>
    obtain ⟨p, xs, rfl, q3, q4⟩ := q2 ds rfl
    obtain ⟨g1, g2⟩ := inV_inD f1 q4 h2
    refine ⟨p, xs, rfl, .inr q3, f2, g1, ?_⟩
    rw [g2]
    exact hk _ _ _ _ _ h (hh.two (v := .bl _) rfl) hl
/-! ### lists put together, so many times -/
inductive OwnD (ρ : Env) : Slot → List PyData → Prop
  | own (p : Addr) (ds : List PyData) : OwnD ρ (.own p ds) ds
  | ref (p : Addr) (ds : List PyData) (i : Nat) (h : ρ[i]? = some (.own p ds)) : OwnD ρ (.raw (.ref p)) ds
theorem ownD_ok {m : Mem} {H0 H : Hp} {σ : L2.St} {L : List Ent} {st : m.St} {v : V} {s : Slot} {ds : List PyData} (h : Here m K H0 L st H) (hz : ∀ e ∈ σ.zip ρ, e ∈ L) (hl : σ.length = ρ.length) (hm : (some v, s) ∈ L) (a : OwnD ρ s ds) :
    ∃ p xs, v = .ref p ∧ H p = some (.lst xs) ∧ DaAll (fun a => m.N a ∨ a ∈ owns L) K H xs ds := by
  cases a with
  | own p ds =>
    obtain ⟨e, xs, e2, q⟩ := h.all _ hm
    cases e
    exact ⟨p, xs, rfl, e2, q⟩
  | ref p ds i hi =>
    have e : some v = some (V.ref p) := h.all _ hm
    cases e
    obtain ⟨o, _, e2, _⟩ := zip_get hl hi
    obtain ⟨_, xs, e3, q⟩ := h.all _ (hz _ e2)
    exact ⟨p, xs, rfl, e3, q⟩
theorem dop_cat {ds es : List PyData} (a1 : OwnD ρ s1 ds) (a2 : OwnD ρ s2 es) (hz : ds.length + es.length ≤ 100000) (h : ∀ p, k (.own p (ds ++ es)) ρ st) : DOp K c rCat s1 s2 ρ st k := by
  intro τ σ H Q v1 v2 hh hl hk
  obtain ⟨p, xs, rfl, e1, q1⟩ := ownD_ok hh (fun e he => List.mem_append_left _ he) hl (List.mem_append_right _ (List.mem_cons_of_mem _ List.mem_cons_self)) a1
  obtain ⟨p', ys, rfl, e2, q2⟩ := ownD_ok hh (fun e he => List.mem_append_left _ he) hl (List.mem_append_right _ List.mem_cons_self) a2
  refine ⟨p, p', xs, ys, rfl, rfl, e1, e2, by rw [q1.len, q2.len]; exact Nat.le_trans hz (by decide), fun l hl' => hk _ _ _ _ _ (h l) (hh.cut.cut.allocOwn hl' ?_) hl⟩
  exact ((q1.app q2).move (wk_owns _)).move (wk_owns _)
theorem da_rep {N : Addr → Prop} {H : Hp} {xs : List V} {ds : List PyData} (q : DaAll N K H xs ds) : ∀ n : Nat, DaAll N K H (List.replicate n xs).flatten (List.replicate n ds).flatten
  | 0 => .nil
  | n + 1 => by
    rw [List.replicate_succ, List.replicate_succ, List.flatten_cons, List.flatten_cons]
    exact q.app (da_rep q n)
theorem dop_rep {ds : List PyData} {n : Nat} (a1 : OwnD ρ s1 ds) (hn : n < 100000) (hz : ds.length * n ≤ 100000) (h : ∀ p, k (.own p (List.replicate n ds).flatten) ρ st) : DOp K c rRep s1 (.dat (.int n)) ρ st k := by
  intro τ σ H Q v1 v2 hh hl hk
  have e2 : v2 = .int n := Option.some.inj (hh.int1 (w := .int n) rfl)
  obtain ⟨p, xs, rfl, e1, q1⟩ := ownD_ok hh (fun e he => List.mem_append_left _ he) hl (List.mem_append_right _ (List.mem_cons_of_mem _ List.mem_cons_self)) a1
  refine ⟨p, n, xs, rfl, e2, e1, by omega, by omega, by rw [q1.len]; exact Nat.le_trans (by simpa using hz) (show 100000 ≤ sizeLine by decide), fun l hl' => hk _ _ _ _ _ (h l) (hh.cut.cut.allocOwn hl' ?_) hl⟩
  have e3 : ((n : Int)).toNat = n := by omega
  rw [e3]
  exact ((da_rep q1 n).move (wk_owns _)).move (wk_owns _)
/-! ### methods of an owned list, by its name -/
theorem set_mid : ∀ {σ : L2.St} {ρ : Env} {i : Nat} {s : Slot}, σ.length = ρ.length → ρ[i]? = some s → ∃ A o B, σ.zip ρ = A ++ (o, s) :: B ∧ σ[i]? = some o ∧ ∀ s', σ.zip (ρ.set i s') = A ++ (o, s') :: B
  | _, [], _, _, _, h => by simp at h
  | [], _ :: _, _, _, hl, _ => by simp at hl
  | o :: σ, s0 :: ρ, 0, s, hl, h => by
    cases h
    exact ⟨[], o, σ.zip ρ, rfl, rfl, fun s' => rfl⟩
  | o :: σ, s0 :: ρ, i + 1, s, hl, h => by
    obtain ⟨A, o', B, h1, h2, h3⟩ := set_mid (σ := σ) (ρ := ρ) (i := i) (s := s) (by simpa using hl) (by simpa using h)
    refine ⟨(o, s0) :: A, o', B, ?_, by simpa using h2, fun s' => ?_⟩
    · show (o, s0) :: σ.zip ρ = _
      rw [h1]
      rfl
    · show (o, s0) :: σ.zip (ρ.set i s') = _
      rw [h3 s']
      rfl
theorem de_pop {i : Nat} {x : Str} {p : Addr} {ds : List PyData} {d : PyData} {np apos : Pos} (hρ : ρ[i]? = some (.own p (ds ++ [d]))) (hN : X.N[i]? = some x) (hv : Vis X.env.scope x) (h : k (.dat d) (ρ.set i (.own p ds)) st) (hd : (x == ("__debug__" : Str)) = false := by decide) (hcd : (x == ("__classdict__" : Str)) = false := by decide)
    (hbase : attributeBase (.Name x np) "pop" X.env (eval (.Name x np) X.env) = eval (.Name x np) X.env := by rfl) (hline : (apos.endLine == pos.line) = true := by rfl) : DE X c (.Call (.Attribute (.Name x np) "pop" apos) [] [] pos) ρ st k := by
  intro τ σ H Q hh hl hk hx
  obtain ⟨A, o, B, e1, e2, e3⟩ := set_mid hl hρ
  have hh' : Here c.m X.K c.H0 (A ++ (o, .own p (ds ++ [d])) :: (B ++ τ)) st H := by
    rw [e1, List.append_assoc] at hh
    exact hh
  obtain ⟨eo, xs, eH, q⟩ := hh'.all _ (List.mem_append_right _ List.mem_cons_self)
  have lx : xs.length = ds.length + 1 := by rw [q.len, List.length_append]; rfl
  obtain ⟨v, hv', qv⟩ := q.get (i := ds.length) (d := d) (by rw [List.getElem?_append_right (Nat.le_refl _), Nat.sub_self]; rfl)
  have eo' : o = some (V.ref p) := eo
  refine we_of (pe_bm0 PySem.F.plainAttrs_list PySem.F.slot_list_pop PySem.F.type_list_pop (fun pins s σ H x vs v us Q => mt_pop pins s σ H x vs v us Q) (pe_var hN hv hd hcd) hbase hline) ⟨.ref p, by rw [e2, eo'], .inl ⟨rfl, xs, .inl (.inl eH)⟩, p, xs, v, rfl, rfl, eH, ?_, ?_⟩
  · rw [lx, Nat.add_sub_cancel]
    exact hv'
  · have hdl : DaAll (fun a => c.m.N a ∨ a ∈ owns (A ++ (o, Slot.own p (ds ++ [d])) :: (B ++ τ))) X.K H xs.dropLast ds := by
      have t := q.take ds.length
      rw [List.take_left] at t
      rw [List.dropLast_eq_take, lx, Nat.add_sub_cancel]
      exact t
    have w := hh'.write (ys := xs.dropLast) hdl
    refine hk (.dat d) (ρ.set i (.own p ds)) st v _ h ?_ (by rw [List.length_set]; exact hl)
    rw [e3, List.append_assoc]
    have hp : p ∈ owns (A ++ (o, Slot.own p (ds ++ [d])) :: (B ++ τ)) := mem_owns.mpr ⟨_, List.mem_append_right _ List.mem_cons_self, rfl⟩
    have eow : owns (A ++ (o, Slot.own p ds) :: (B ++ τ)) = owns (A ++ (o, Slot.own p (ds ++ [d])) :: (B ++ τ)) := by rw [owns_app, owns_app, owns_cons, owns_cons]; rfl
    have w' : Here c.m X.K c.H0 ((A ++ (o, .own p ds) :: B) ++ τ) st (upd H p (.lst xs.dropLast)) := by rw [List.append_assoc]; exact w
    have r := w'.put (e := (some v, .dat d)) rfl ⟨v, rfl, qv.move fun a u n t e => ⟨?_, ?_⟩⟩
    · rw [List.append_assoc] at r
      exact r
    · rw [List.append_assoc]
      show ¬ (c.m.N a ∨ a ∈ owns (A ++ (o, Slot.own p ds) :: (B ++ τ)))
      rw [eow]
      exact n
    · rw [upd_ne fun z => n (.inr (by rw [z]; exact hp))]
      exact e
theorem ds_append {i : Nat} {x : Str} {p : Addr} {ds : List PyData} {np apos cpos : Pos} {D : Dn c.m} (hN : X.N[i]? = some x) (hv : Vis X.env.scope x) (hρ : ρ[i]? = some (.own p ds)) (h : DE X c e ρ st fun s ρ1 st1 => ∃ d ds', AllD [s] [d] ∧ ρ1[i]? = some (.own p ds') ∧ ds'.length < 100000 ∧ D.nx (ρ1.set i (.own p (ds' ++ [d]))) st1)
    (hd : (x == ("__debug__" : Str)) = false := by decide) (hcd : (x == ("__classdict__" : Str)) = false := by decide)
    (hbase : attributeBase (.Name x np) "append" X.env (eval (.Name x np) X.env) = eval (.Name x np) X.env := by rfl)
    (hfew : ((backTo cpos (starEach (e :: []) X.env)).all (fun x => !x.1) && (backToKw cpos (keywordEach [] X.env)).all (fun x => x.1.isSome)
      && decide ((e :: ([] : List Expr)).length + ([] : List Keyword).length + (if ([] : List Keyword).isEmpty then 0 else 1) < 30)) = true := by rfl)
    (hline : (apos.endLine == cpos.line) = true := by rfl) (hs : starEach (e :: []) X.env = (false, eval e X.env) :: starEach [] X.env := by rfl) (hplain : (backTo cpos (starEach [] X.env)).any (·.1) = false := by rfl)
    (hsw : swapsWith (.Call (.Attribute (.Name x np) "append" apos) [e] [] cpos) none pos.line X.env = pure false := by rfl) : DS X c (.Expr (.Call (.Attribute (.Name x np) "append" apos) [e] [] cpos) pos) ρ st D := by
  intro τ σ H De hh hl hk hx
  have key : ∀ {H : Hp} {st : c.m.St} {ρ : Env} {ds : List PyData} {τ : List Ent}, Here c.m X.K c.H0 (σ.zip ρ ++ τ) st H → σ.length = ρ.length → ρ[i]? = some (.own p ds) → σ[i]? = some (some (.ref p)) := fun {H st ρ ds τ} hh hl hρ => by
    obtain ⟨o, e1, e2, _⟩ := zip_get hl hρ
    obtain ⟨eo, _⟩ := hh.all _ (List.mem_append_left _ e2)
    rw [e1]
    exact congrArg some eo
  refine ws_of (ps_expr (pe_bm PySem.F.plainAttrs_list PySem.F.slot_list_append PySem.F.type_list_append (fun pins s σ H x vs v us Q => mt_append pins s σ H x vs v us Q) (pe_var hN hv hd hcd) (pa_cons pe_w pa_nil hs) hbase hfew hline hs hplain) hsw) ?_
  have hlst : ∃ xs, SqL X.K H p xs := by
    obtain ⟨o, e1, e2, _⟩ := zip_get hl hρ
    obtain ⟨eo, xs, e3, _⟩ := hh.all _ (List.mem_append_left _ e2)
    exact ⟨xs, .inl (.inl e3)⟩
  refine ⟨.ref p, key hh hl hρ, .inl ⟨rfl, hlst⟩, ?_⟩
  refine h τ σ H _ hh hl (fun s ρ1 st1 v H1 h1 hh1 hl1 => ?_) hx
  obtain ⟨d, ds', ad, hρ1, hz, q⟩ := h1
  have da := allD_da (vs := [v]) (A := σ.zip ρ1) ad rfl hh1
  obtain ⟨A, o, B, e1, e2, e3⟩ := set_mid hl1 hρ1
  have hh2 := hh1.cut
  have hh' : Here c.m X.K c.H0 (A ++ (o, .own p ds') :: (B ++ τ)) st1 H1 := by
    rw [e1, List.append_assoc] at hh2
    exact hh2
  obtain ⟨eo, xs, eH, qx⟩ := hh'.all _ (List.mem_append_right _ List.mem_cons_self)
  rw [e1, List.append_assoc] at da
  have w := hh'.write (ys := xs ++ [v]) (qx.app da)
  refine ⟨p, xs, v, rfl, rfl, eH, Nat.lt_of_lt_of_le (by rw [qx.len]; exact hz) (show 100000 ≤ sizeLine by decide), hk.nx _ _ _ _ q ?_ (by rw [List.length_set]; exact hl1)⟩
  rw [e3, List.append_assoc]
  exact w
/-- an owned list is only looked at from here on -/
theorem freeze_ok {m : Mem} {H0 H : Hp} {σ : L2.St} {τ : List Ent} {st : m.St} {i : Nat} {p : Addr} {ds : List PyData} (h : Here m K H0 (σ.zip ρ ++ τ) st H) (hl : σ.length = ρ.length) (hρ : ρ[i]? = some (.own p ds)) : Here m K H0 (σ.zip (ρ.set i (.dat (.list ds))) ++ τ) st H := by
  obtain ⟨A, o, B, e1, e2, e3⟩ := set_mid hl hρ
  have hh' : Here m K H0 (A ++ (o, .own p ds) :: (B ++ τ)) st H := by
    rw [e1, List.append_assoc] at h
    exact h
  have hm : (o, Slot.own p ds) ∈ A ++ (o, .own p ds) :: (B ++ τ) := List.mem_append_right _ List.mem_cons_self
  obtain ⟨eo, xs, eH, q⟩ := hh'.all _ hm
  have eo' : o = some (V.ref p) := eo
  subst eo'
  have da := allD_da (vs := [.ref p]) (ss := [.own p ds]) (A := A) (B := B ++ τ) (.own .nil) rfl hh'
  rw [e3, List.append_assoc]
  cases da with
  | cons q' _ => exact hh'.cut.put rfl ⟨.ref p, rfl, q'⟩
theorem db_freeze {ss : List Stmt} {D : Dn c.m} (i : Nat) {p : Addr} {ds : List PyData} (hρ : ρ[i]? = some (.own p ds)) (h : DB X c ss (ρ.set i (.dat (.list ds))) st D) : DB X c ss ρ st D := fun τ σ H De hh hl hk hx =>
  h τ σ H De (freeze_ok hh hl hρ) (by rw [List.length_set]; exact hl) hk hx
theorem de_freeze (i : Nat) {p : Addr} {ds : List PyData} (hρ : ρ[i]? = some (.own p ds)) (h : DE X c e (ρ.set i (.dat (.list ds))) st k) : DE X c e ρ st k := fun τ σ H Q hh hl hk hx =>
  h τ σ H Q (freeze_ok hh hl hρ) (by rw [List.length_set]; exact hl) hk hx
end
end DL

namespace DL
open PySem PySem.Spec PyProof.Rows L2

/-! ### defs by their names -/
/-- a def of the text, as it stands behind the top -/
structure Df (K : PySem.W.Frag) (mg : Str → Option Value) (x : Str) (s : Stmt) (ps : List Str) : Prop where
  ex : ∃ f fd, L2.Fun K x x s f fd ∧ mg x = some (.ref f) ∧ Binds K fd ps []
/-- a def that keeps its promise -/
structure Cal (P : Program) (w : World) (K : PySem.W.Frag) (mg : Str → Option Value) (base : Heap) (x : Str) (s : Stmt) (ps : List Str) (n : Nat) (F : Pd) : Prop where
  ex : ∃ f fd, L2.Fun K x x s f fd ∧ mg x = some (.ref f) ∧ PySem.W.keepIn K (.ref f) = true ∧ Binds K fd ps [] ∧ FnOk P w K mg base (L2.CX P w) n f fd ps (spD K F)
section
variable {P : Program} {w : World} {K : PySem.W.Frag} {mg : Str → Option Value} {base : Heap}
theorem cal_of {x : Str} {s : Stmt} {N ps : List Str} {n : Nat} {F : Pd} (D : Df K mg x s ps) (S : FnScope N ps (defScope s)) (len : ∀ m ss s k xk, F m ss s k xk → ss.length = ps.length)
    (body : ∀ (f : Addr) (cdv : Value) (A : Around) (outer : List PySem.Env) (s1 : Shared) (H : Hp) (E : XK) (c : Cz), Room n (cxOf (L2.CX P w) P w K mg base N x (defScope s) f cdv A outer s1 H E).A → Takes (cxOf (L2.CX P w) P w K mg base N x (defScope s) f cdv A outer s1 H E) c.W →
      PassesOwn (model P w) (cxOf (L2.CX P w) P w K mg base N x (defScope s) f cdv A outer s1 H E).A (cxOf (L2.CX P w) P w K mg base N x (defScope s) f cdv A outer s1 H E).env (cxOf (L2.CX P w) P w K mg base N x (defScope s) f cdv A outer s1 H E).xe →
      ∀ ss st k, F c.m ss st k c.xk → DB (cxOf (L2.CX P w) P w K mg base N x (defScope s) f cdv A outer s1 H E) c (defBody s) (startD N ss) st ⟨fun _ s' => k (.dat .none) s', k, fun _ _ => False, fun _ _ => False⟩) : Cal P w K mg base x s ps (n + 1) F := by
  obtain ⟨f, fd, Fn, hm, hb⟩ := D.ex
  refine ⟨f, fd, Fn, hm, Fn.kp, hb, fn_ok Fn S len fun X c hX hr tk hp ss st k h => ?_⟩
  obtain ⟨cdv, A, outer, s1, H, E, rfl⟩ := hX
  exact body f cdv A outer s1 H E c hr tk hp ss st k h
end
section
variable {X : Cx} {c : Cz} {e a b t : Expr} {es : List Expr} {ρ : Env} {st : c.m.St} {pos : Pos} {k : Slot → Env → c.m.St → Prop}
theorem dc_call {F : Pd} {n : Nat} {ps : List Str} {x : Str} {s : Stmt} {p : Pos} (C : Cal X.prog X.w X.K X.mg X.base x s ps n F) (hr : Room n X.A) (tk : Takes X c.W)
    (h : DA X c (e :: es) ρ st fun ss ρ1 st1 => ∀ A, F (c.m.avoid A) (ss.map normS) st1 (fun s st' => k s ρ1 st') c.xk) (hg : Gl X x := by rfl) (hdb : (x == ("__debug__" : Str)) = false := by decide)
    (he : starEach (e :: es) X.env = (false, eval e X.env) :: starEach es X.env := by rfl) (hpl : (backTo pos (starEach es X.env)).any (·.1) = false := by rfl) : DE X c (.Call (.Name x p) (e :: es) [] pos) ρ st k := by
  obtain ⟨f, fd, _, hm, hkp, hb, Fk⟩ := C.ex
  exact de_call Fk hr hm hkp hb tk h hg hdb he hpl
theorem dc_call0 {F : Pd} {n : Nat} {ps : List Str} {x : Str} {s : Stmt} {p : Pos} (C : Cal X.prog X.w X.K X.mg X.base x s ps n F) (hr : Room n X.A) (tk : Takes X c.W)
    (h : ∀ A, F (c.m.avoid A) [] st (fun s st' => k s ρ st') c.xk) (hg : Gl X x := by rfl) (hdb : (x == ("__debug__" : Str)) = false := by decide) : DE X c (.Call (.Name x p) [] [] pos) ρ st k := by
  obtain ⟨f, fd, _, hm, hkp, hb, Fk⟩ := C.ex
  exact de_call0 Fk hr hm hkp hb tk h hg hdb
/-- the name that stands in the i-th slot -/
theorem dv (i : Nat) {x : Str} {s s' : Slot} (h : k s' ρ st) (hρ : ρ[i]? = some s := by rfl) (hs : look s = some s' := by rfl) (hN : X.N[i]? = some x := by rfl) (hv : Vis X.env.scope x := by first | exact Or.inl rfl | exact Or.inr (Or.inl rfl) | exact Or.inr (Or.inr rfl))
    (hd : (x == ("__debug__" : Str)) = false := by decide) (hcd : (x == ("__classdict__" : Str)) = false := by decide) : DE X c (.Name x pos) ρ st k := de_var hρ hs hN hv h hd hcd
theorem dset (i : Nat) {x : Str} {pos' : Pos} {D : Dn c.m} (hN : X.N.Nodup) (h : DE X c e ρ st fun s ρ1 st1 => D.nx (ρ1.set i s) st1) (hi : X.N[i]? = some x := by rfl) (hx : Loc X.env.scope x := by first | exact Or.inl rfl | exact Or.inr rfl) (hs : swapsWith e (some (.Name x pos')) pos.line X.env = pure false := by rfl)
    (hf : X.fn x = true ∨ X.env.scope.names.lookup x = some .local := by first | exact .inl rfl | exact .inr rfl) : DS X c (.Assign [.Name x pos'] e pos) ρ st D := ds_asg hN hi hx h hs hf
theorem dpar (i j : Nat) {x y : Str} {px py pt : Pos} {kt k2 pt2} {D : Dn c.m} (hN : X.N.Nodup) (hw : swappedStores [.Tuple [.Name x px, .Name y py] kt pt] (.Tuple [a, b] k2 pt2) X.env = pure (some [x, y])) (h : DE X c a ρ st fun s1 ρ1 st1 => DE X c b ρ1 st1 fun s2 ρ2 st2 => D.nx ((ρ2.set i s1).set j s2) st2)
    (hc : X.calm = true := by rfl) (hi : X.N[i]? = some x := by rfl) (hj : X.N[j]? = some y := by rfl) (hij : i ≠ j := by decide) (hx : X.env.scope.names.lookup x = some .local := by rfl) (hy : X.env.scope.names.lookup y = some .local := by rfl)
    (hs : swapsWithSole [.Tuple [.Name x px, .Name y py] kt pt] (.Tuple [a, b] k2 pt2) pos.line X.env = pure false := by rfl) (h1s : starEach [a, b] X.env = (false, eval a X.env) :: starEach [b] X.env := by rfl) (h2s : starEach [b] X.env = (false, eval b X.env) :: starEach [] X.env := by rfl) :
    DS X c (.Assign [.Tuple [.Name x px, .Name y py] kt pt] (.Tuple [a, b] k2 pt2) pos) ρ st D := ds_par hc hN hi hj hij hx hy hw h hs h1s h2s
theorem dgn (i : Nat) {x : Str} {d : PyData} {kk : Env → c.m.St → Prop} (hN : X.N.Nodup) (h : kk (ρ.set i (.dat d)) st) (hi : X.N[i]? = some x := by rfl) (hx : Loc X.env.scope x := by first | exact Or.inl rfl | exact Or.inr rfl) (hf : X.fn x = true ∨ X.env.scope.names.lookup x = some .local := by first | exact .inl rfl | exact .inr rfl) : DG X c (.Name x pos) d ρ st kk := dg_name hN hi hx h hf
end
def ofInt : PyData → Bool
  | .bool _ => true
  | .int _ => true
  | _ => false
theorem kit_int : ∀ d : PyData, kitB (tyName d) "int" = some (ofInt d)
  | .none => (by decide +kernel : kitB "NoneType" "int" = some false)
  | .bool _ => (by decide +kernel : kitB "bool" "int" = some true)
  | .int _ => (by decide +kernel : kitB "int" "int" = some true)
  | .str _ => (by decide +kernel : kitB "str" "int" = some false)
  | .list _ => (by decide +kernel : kitB "list" "int" = some false)
  | .tuple _ => (by decide +kernel : kitB "tuple" "int" = some false)
  | .dict _ => (by decide +kernel : kitB "dict" "int" = some false)
def ofBool : PyData → Bool
  | .bool _ => true
  | _ => false
theorem kit_bool : ∀ d : PyData, kitB (tyName d) "bool" = some (ofBool d)
  | .none => (by decide +kernel : kitB "NoneType" "bool" = some false)
  | .bool _ => (by decide +kernel : kitB "bool" "bool" = some true)
  | .int _ => (by decide +kernel : kitB "int" "bool" = some false)
  | .str _ => (by decide +kernel : kitB "str" "bool" = some false)
  | .list _ => (by decide +kernel : kitB "list" "bool" = some false)
  | .tuple _ => (by decide +kernel : kitB "tuple" "bool" = some false)
  | .dict _ => (by decide +kernel : kitB "dict" "bool" = some false)
def ofTuple : PyData → Bool
  | .tuple _ => true
  | _ => false
theorem kit_tuple : ∀ d : PyData, kitB (tyName d) "tuple" = some (ofTuple d)
  | .none => (by decide +kernel : kitB "NoneType" "tuple" = some false)
  | .bool _ => (by decide +kernel : kitB "bool" "tuple" = some false)
  | .int _ => (by decide +kernel : kitB "int" "tuple" = some false)
  | .str _ => (by decide +kernel : kitB "str" "tuple" = some false)
  | .list _ => (by decide +kernel : kitB "list" "tuple" = some false)
  | .tuple _ => (by decide +kernel : kitB "tuple" "tuple" = some true)
  | .dict _ => (by decide +kernel : kitB "dict" "tuple" = some false)
def ofList : PyData → Bool
  | .list _ => true
  | _ => false
theorem kit_list : ∀ d : PyData, kitB (tyName d) "list" = some (ofList d)
  | .none => (by decide +kernel : kitB "NoneType" "list" = some false)
  | .bool _ => (by decide +kernel : kitB "bool" "list" = some false)
  | .int _ => (by decide +kernel : kitB "int" "list" = some false)
  | .str _ => (by decide +kernel : kitB "str" "list" = some false)
  | .list _ => (by decide +kernel : kitB "list" "list" = some true)
  | .tuple _ => (by decide +kernel : kitB "tuple" "list" = some false)
  | .dict _ => (by decide +kernel : kitB "dict" "list" = some false)
def ofDict : PyData → Bool
  | .dict _ => true
  | _ => false
theorem kit_dict : ∀ d : PyData, kitB (tyName d) "dict" = some (ofDict d)
  | .none => (by decide +kernel : kitB "NoneType" "dict" = some false)
  | .bool _ => (by decide +kernel : kitB "bool" "dict" = some false)
  | .int _ => (by decide +kernel : kitB "int" "dict" = some false)
  | .str _ => (by decide +kernel : kitB "str" "dict" = some false)
  | .list _ => (by decide +kernel : kitB "list" "dict" = some false)
  | .tuple _ => (by decide +kernel : kitB "tuple" "dict" = some false)
  | .dict _ => (by decide +kernel : kitB "dict" "dict" = some true)
def ofStr : PyData → Bool
  | .str _ => true
  | _ => false
theorem kit_str : ∀ d : PyData, kitB (tyName d) "str" = some (ofStr d)
  | .none => (by decide +kernel : kitB "NoneType" "str" = some false)
  | .bool _ => (by decide +kernel : kitB "bool" "str" = some false)
  | .int _ => (by decide +kernel : kitB "int" "str" = some false)
  | .str _ => (by decide +kernel : kitB "str" "str" = some true)
  | .list _ => (by decide +kernel : kitB "list" "str" = some false)
  | .tuple _ => (by decide +kernel : kitB "tuple" "str" = some false)
  | .dict _ => (by decide +kernel : kitB "dict" "str" = some false)
end DL

namespace DL
open PySem PySem.Spec PyProof.Rows L2

/-! ### calls by keywords alone -/
def WK (X : Cx) (kws : List Keyword) : TA := fun σ H Q => ∀ (pos : Pos) (pins : List (Addr × Obj)) (s : Shared), Inv X pins σ H s → wpAny (model X.prog X.w) X.A (evalAll ((backToKw pos (keywordEach kws X.env)).map (·.2))) (AP X pins σ Q) X.xe s
theorem pk_w {X : Cx} {kws : List Keyword} : PK X kws (WK X kws) := ⟨fun pos pins s σ H Q I h => h pos pins s I⟩
theorem wk_of {X : Cx} {kws : List Keyword} {σ : L2.St} {H : Hp} {t : TA} {Q : List V → Hp → Prop} (h : PK X kws t) (q : t σ H Q) : WK X kws σ H Q := fun pos pins s I => h.run pos pins s σ H Q I q
def DK (X : Cx) (c : Cz) (kws : List Keyword) (ρ : Env) (st : c.m.St) (k : List Slot → Env → c.m.St → Prop) : Prop :=
  ∀ (τ : List Ent) (σ : L2.St) (H : Hp) (Q : List V → Hp → Prop), Here c.m X.K c.H0 (σ.zip ρ ++ τ) st H → σ.length = ρ.length → ContA c X.K σ τ k Q → ContX c X.K → WK X kws σ H Q
section
variable {X : Cx} {c : Cz} {e a b t : Expr} {es : List Expr} {ρ : Env} {st : c.m.St} {pos kpos : Pos} {k : Slot → Env → c.m.St → Prop} {kb : Bool → Env → c.m.St → Prop} {ka : List Slot → Env → c.m.St → Prop} {kws : List Keyword} {nm : Option Str} {K : PySem.W.Frag} {D : Dn c.m}
theorem dk_nil (h : ka [] ρ st) : DK X c [] ρ st ka := fun τ σ H Q hh hl hk hx => wk_of pk_nil (hk _ _ _ [] _ h rfl hh hl)
theorem dk_cons (h : DE X c e ρ st fun s ρ1 st1 => DK X c kws ρ1 st1 fun ss ρ2 st2 => ka (s :: ss) ρ2 st2) : DK X c (⟨nm, e, kpos⟩ :: kws) ρ st ka := by
  intro τ σ H Q hh hl hk hx
  refine wk_of (pk_cons pe_w pk_w) (h τ σ H _ hh hl (fun s ρ1 st1 v H1 h1 hh1 hl1 => ?_) hx)
  refine h1 _ σ H1 _ hh1 hl1 (fun ss ρ2 st2 vs H2 h2 hlen hh2 hl2 => ?_) hx
  refine hk _ _ _ (v :: vs) _ h2 (by rw [List.length_cons, List.length_cons, hlen]) (hh2.perm ?_) hl2
  refine List.Perm.append_left _ ?_
  show (argEnts vs ss ++ (some v, s) :: τ).Perm ((some v, s) :: (argEnts vs ss ++ τ))
  exact List.perm_middle
/-- the keywords' values in the parameters' order: as they come, or the other way round -/
def ord {α : Type} (r : Bool) (l : List α) : List α := if r then l.reverse else l
theorem ord_mem {α : Type} {r : Bool} {l : List α} {x : α} : x ∈ ord r l ↔ x ∈ l := by
  cases r
  · exact Iff.rfl
  · exact List.mem_reverse
theorem argEnts_app : ∀ {vs ws : List V} {ss ts : List Slot}, vs.length = ss.length → argEnts (vs ++ ws) (ss ++ ts) = argEnts vs ss ++ argEnts ws ts
  | [], _, [], _, _ => rfl
  | v :: vs, ws, s :: ss, ts, h => by
    show (some v, s) :: argEnts (vs ++ ws) (ss ++ ts) = (some v, s) :: (argEnts vs ss ++ argEnts ws ts)
    rw [argEnts_app (by simpa using h)]
theorem argEnts_rev : ∀ {vs : List V} {ss : List Slot}, vs.length = ss.length → argEnts vs.reverse ss.reverse = (argEnts vs ss).reverse
  | [], [], _ => rfl
  | v :: vs, s :: ss, h => by
    rw [List.reverse_cons, List.reverse_cons, argEnts_app (by simpa using h), argEnts_rev (by simpa using h)]
    show _ = ((some v, s) :: argEnts vs ss).reverse
    rw [List.reverse_cons]
    rfl
theorem argEnts_ord {r : Bool} {vs : List V} {ss : List Slot} (h : vs.length = ss.length) : argEnts (ord r vs) (ord r ss) = ord r (argEnts vs ss) := by
  cases r
  · rfl
  · exact argEnts_rev h
theorem ord_len {α : Type} {r : Bool} {l : List α} : (ord r l).length = l.length := by
  cases r
  · rfl
  · exact List.length_reverse
theorem vals_ord {r : Bool} {vs : List V} {us : List Value} (h : Vals vs us) : Vals (ord r vs) (ord r us) := by
  cases r
  · exact h
  · exact h.reverse
theorem ord_perm {α : Type} {r : Bool} {l : List α} : (ord r l).Perm l := by
  cases r
  · exact List.Perm.refl _
  · exact List.reverse_perm _
theorem dc_callK (r : Bool) {F : Pd} {n : Nat} {ps ks : List Str} {x : Str} {s : Stmt} {p : Pos} (C : Cal X.prog X.w X.K X.mg X.base x s ps n F) (hr : Room n X.A) (tk : Takes X c.W)
    (hb : ∀ (kV doc pm : Value) (an : Option Addr) (cdv ct : Value) (ws : List Value), ws.length = ps.length → bindArgs (PySem.W.fnOf x x (defArgs s) (defBody s) (defScope s) .none kV doc pm an cdv ct) ⟨[], ks.zip ws⟩ = pure (ps.zip (ord r ws)))
    (h : DK X c kws ρ st fun ss ρ1 st1 => ∀ A, F (c.m.avoid A) ((ord r ss).map normS) st1 (fun s st' => k s ρ1 st') c.xk) (hg : Gl X x := by rfl) (hks : (backToKw pos (keywordEach kws X.env)).filterMap (·.1) = ks := by rfl) (hall : (backToKw pos (keywordEach kws X.env)).all (·.1.isSome) = true := by rfl)
    (hpl : ((backTo pos (starEach [] X.env)).any (·.1) || (backToKw pos (keywordEach kws X.env)).any (·.1.isNone)) = false := by rfl) (hdb : (x == ("__debug__" : Str)) = false := by decide) : DE X c (.Call (.Name x p) [] kws pos) ρ st k := by
  obtain ⟨f, fd, Fn, hm, hkp, _, Fk⟩ := C.ex
  obtain ⟨oc, od, kV, doc, pm, an, cdv, ct, osl, rfl, lk, hcd⟩ := Fn.ex
  intro τ σ H Q hh hl hk hx pins s1 I
  refine wpAny_Call_Name_kw (ld_glob I hg hm ?_ hdb)
  refine PySem.W.callWith_KW0 (h₀ := X.base) I.ok.mod.kin hkp hall (thn (h τ σ H (fun zs H2 => spD X.K F (ord r zs) H2 Q (fun cls d H' => c.W cls d σ H')) hh hl (fun ss ρ1 st1 vs H1 h1 hlen hh1 hl1 => ?_) hx pos pins s1 I) fun ws s2 hq => ?_) hpl
  · refine spD_use (ss := ord r ss) (vs := ord r vs) (ρ := ρ1) (st := st1) (τ := τ) (by rw [ord_len, ord_len]; exact hlen) ?_ hl1 hk hx h1
    rw [argEnts_ord hlen]
    exact hh1.perm (List.Perm.append_left _ (List.Perm.append_right _ ord_perm.symm))
  · obtain ⟨zs, H2, I2, rz, q2⟩ := hq
    refine ⟨I2.kIn, ?_⟩
    rw [hks]
    have r2 := vals_ord (r := r) rz
    have hlen2 : (ord r ws).length = ps.length := by rw [← r2.length]; exact Fk.len _ _ _ _ q2
    have hlen3 : ws.length = ps.length := by rw [← hlen2, ord_len]
    refine wpAny_call (codeAny_mono (Fk.run X.A X.stack s2 H2 ⟨[] ++ [], ks.zip ws⟩ (ord r ws) (ord r zs) Q (fun cls d H' => c.W cls d σ H') hr I2.env0 (.of_eq (hb _ _ _ _ _ _ ws hlen3)) r2 q2) fun r' s' hq' => ?_)
    cases r' with
    | error e => exact passAt tk σ pins H2 s2 e s' I2 hq'
    | ok fl =>
      cases fl with
      | ret u => exact I2.after hq'
      | next => exact False.elim hq'
      | brk => exact False.elim hq'
      | cont => exact False.elim hq'

/-! ### the draws: a dict of ints, of a list that is emptied, of one that stays -/
structure Dr where
  large : List Int
  rest : Int
  turn : Int
def drK (la ca : Addr) (d : Dr) : List (Key × V) := [(.inr "large", .ref la), (.inr "rest", .int d.rest), (.inr "cells", .ref ca), (.inr "turn", .int d.turn)]
structure DrawAt (H : Hp) (dr la ca : Addr) (cs : List Int) (d : Dr) : Prop where
  h1 : H dr = some (.dK (drK la ca d))
  h2 : H la = some (.lst (d.large.map V.int))
  h3 : H ca = some (.lst (cs.map V.int))
  h4 : ca ≠ la
theorem DrawAt.n1 {H : Hp} {dr la ca : Addr} {cs : List Int} {d : Dr} (y : DrawAt H dr la ca cs d) : la ≠ dr := ne_of y.h2 y.h1 (by intro z; cases z)
theorem DrawAt.n2 {H : Hp} {dr la ca : Addr} {cs : List Int} {d : Dr} (y : DrawAt H dr la ca cs d) : ca ≠ dr := ne_of y.h3 y.h1 (by intro z; cases z)
structure HasDraw (m : Mem) (dr la ca : Addr) (cs : List Int) where
  get : m.St → Dr
  put : m.St → Dr → m.St
  gp : ∀ st d, get (put st d) = d
  rd : ∀ {K st H}, m.ok K st H → DrawAt H dr la ca cs (get st)
  wr : ∀ {K st H H' d}, m.ok K st H → (∀ b, b ≠ dr → b ≠ la → H' b = H b) → DrawAt H' dr la ca cs d → m.ok K (put st d) H'
  mdr : m.M dr
  mla : m.M la
def HasDraw.avoid {m : Mem} {dr la ca : Addr} {cs : List Int} (h : HasDraw m dr la ca cs) (A : List Addr) : HasDraw (m.avoid A) dr la ca cs where
  get := h.get
  put := h.put
  gp := h.gp
  rd := fun x => h.rd x.1
  wr := fun {K st H H' d} x k y => ⟨h.wr x.1 k y, fun a ha => by
    by_cases e1 : a = dr
    · rw [e1]; exact ⟨_, nt_dK, y.h1⟩
    · by_cases e2 : a = la
      · rw [e2]; exact ⟨_, nt_lst, y.h2⟩
      · rw [k a e1 e2]
        exact x.2 a ha⟩
  mdr := h.mdr
  mla := h.mla
variable {dr la ca : Addr} {cs : List Int}
/-- the draws change -/
theorem Here.draw {m : Mem} {H0 H H' : Hp} {L : List Ent} {st : m.St} {d : Dr} (hd : HasDraw m dr la ca cs) (h : Here m K H0 L st H) (k : ∀ b, b ≠ dr → b ≠ la → H' b = H b) (y : DrawAt H' dr la ca cs d) : Here m K H0 L (hd.put st d) H' := by
  refine h.step (fun b o n t e => ?_) (hd.wr h.ok k y)
  rw [k b (fun z => n (by rw [z]; exact hd.mdr)) fun z => n (by rw [z]; exact hd.mla)]
  exact e
theorem raw_of {m : Mem} {H0 H : Hp} {σ : L2.St} {ρ : Env} {τ : List Ent} {st : m.St} {i : Nat} {v : V} (h : Here m K H0 (σ.zip ρ ++ τ) st H) (hl : σ.length = ρ.length) (hρ : ρ[i]? = some (.raw v)) : σ[i]? = some (some v) := by
  obtain ⟨o, e1, e2, _⟩ := zip_get hl hρ
  have := h.all _ (List.mem_append_left _ e2)
  rw [e1]
  exact congrArg some this
theorem nk {a b : Str} (h : a ≠ b) : ¬ (Sum.inr a : Key) = Sum.inr b := fun z => h (Sum.inr.inj z)
theorem val_large {d : Dr} : valV (drK la ca d) (.inr "large") = some (.ref la) := valV_pos rfl
theorem val_rest {d : Dr} : valV (drK la ca d) (.inr "rest") = some (.int d.rest) := (valV_neg (nk (by decide))).trans (valV_pos rfl)
theorem val_cells {d : Dr} : valV (drK la ca d) (.inr "cells") = some (.ref ca) := (valV_neg (nk (by decide))).trans ((valV_neg (nk (by decide))).trans (valV_pos rfl))
theorem val_turn {d : Dr} : valV (drK la ca d) (.inr "turn") = some (.int d.turn) := (valV_neg (nk (by decide))).trans ((valV_neg (nk (by decide))).trans ((valV_neg (nk (by decide))).trans (valV_pos rfl)))
theorem put_any {d : Dr} {x : Str} {v : V} (h : valV (drK la ca d) (.inr x) = some v) (w : V) : putK (drK la ca d) (.inr x) w = (drK la ca d).map fun kv => if kv.1 = .inr x then (kv.1, w) else kv := by
  unfold putK
  rw [if_pos (by rw [valV_any, h]; rfl)]
theorem put_rest {d : Dr} {i : Int} : putK (drK la ca d) (.inr "rest") (.int i) = drK la ca { d with rest := i } := by
  rw [put_any val_rest]
  simp only [drK, List.map_cons, List.map_nil]
  rw [if_neg (nk (show ("large" : Str) ≠ "rest" by decide)), if_neg (nk (show ("cells" : Str) ≠ "rest" by decide)), if_neg (nk (show ("turn" : Str) ≠ "rest" by decide))]
  rfl
theorem put_turn {d : Dr} {i : Int} : putK (drK la ca d) (.inr "turn") (.int i) = drK la ca { d with turn := i } := by
  rw [put_any val_turn]
  simp only [drK, List.map_cons, List.map_nil]
  rw [if_neg (nk (show ("large" : Str) ≠ "turn" by decide)), if_neg (nk (show ("rest" : Str) ≠ "turn" by decide)), if_neg (nk (show ("cells" : Str) ≠ "turn" by decide))]
  rfl
/-- draw['key'] as a value -/
theorem dr_get {i : Nat} {x key : Str} {v : V} {s : Slot} {np kp : Pos} {j : Nat} (hd : HasDraw c.m dr la ca cs) (hu : X.A.units + 1 < cLine) (hρ : ρ[i]? = some (.raw (.ref dr))) (hv : valV (drK la ca (hd.get st)) (.inr key) = some v) (hs : (∃ d, s = .dat d ∧ flatD v = some d) ∨ s = .raw v) (h : k s ρ st)
    (hN : X.N[i]? = some x := by rfl) (hvis : Vis X.env.scope x := by first | exact Or.inl rfl | exact Or.inr (Or.inl rfl) | exact Or.inr (Or.inr rfl)) (hdb : (x == ("__debug__" : Str)) = false := by decide) (hcd : (x == ("__classdict__" : Str)) = false := by decide) (hns : NoSl (.Constant (.str key) j kp) := by exact fun _ _ => rfl) :
    DE X c (.Subscript (.Name x np) (.Constant (.str key) j kp) pos) ρ st k := by
  intro τ σ H Q hh hl hk hx
  have y := hd.rd hh.ok
  refine we_of (pe_dget hu (pe_var hN hvis hdb hcd) pe_str hns) ⟨.ref dr, raw_of hh hl hρ, dr, v, rfl, by rw [← hv]; exact DGet.k (k := Sum.inr key) y.h1, hk s ρ st v H h ?_ hl⟩
  rcases hs with ⟨d, rfl, hf⟩ | rfl
  · exact hh.flat hf
  · exact hh.put rfl rfl
/-- draw['key'] = e -/
theorem dr_put {i : Nat} {x key : Str} {np kp sp : Pos} {j : Nat} {upd' : Dr → Int → Dr} (hd : HasDraw c.m dr la ca cs) (hu : X.A.units + 1 < cLine) (hp : ∀ d z, putK (drK la ca d) (.inr key) (.int z) = drK la ca (upd' d z) ∧ (upd' d z).large = d.large)
    (h : DE X c e ρ st fun s ρ1 st1 => ∃ z, s = .dat (.int z) ∧ ρ1[i]? = some (.raw (.ref dr)) ∧ D.nx ρ1 (hd.put st1 (upd' (hd.get st1) z)))
    (hN : X.N[i]? = some x := by rfl) (hvis : Vis X.env.scope x := by first | exact Or.inl rfl | exact Or.inr (Or.inl rfl) | exact Or.inr (Or.inr rfl)) (hdb : (x == ("__debug__" : Str)) = false := by decide) (hcd : (x == ("__classdict__" : Str)) = false := by decide)
    (hsw : swapsWith e (some (.Subscript (.Name x np) (.Constant (.str key) j kp) sp)) pos.line X.env = pure false := by rfl) : DS X c (.Assign [.Subscript (.Name x np) (.Constant (.str key) j kp) sp] e pos) ρ st D := by
  intro τ σ H De hh hl hk hx
  refine ws_of (ps_dput hu (pe_var hN hvis hdb hcd) pe_str pe_w hsw) (h τ σ H _ hh hl (fun s ρ1 st1 v H1 h1 hh1 hl1 => ?_) hx)
  obtain ⟨z, rfl, hρ1, q⟩ := h1
  have ev : v = .int z := arg_flat hh1 (w := .int z) rfl
  subst ev
  have hh2 := hh1.cut
  have y := hd.rd hh2.ok
  refine ⟨.ref dr, raw_of hh2 hl1 hρ1, dr, upd H1 dr (.dK (drK la ca (upd' (hd.get st1) z))), rfl, ?_, hk.nx _ _ _ _ q (hh2.draw hd (fun b b1 b2 => upd_ne b1) ⟨upd_same, ?_, ?_, y.h4⟩) hl1⟩
  · rw [← (hp (hd.get st1) z).1]
    exact DPut.k (k := Sum.inr key) y.h1 (by show 4 < sizeLine; decide)
  · rw [upd_ne y.n1, (hp _ z).2]
    exact y.h2
  · rw [upd_ne y.n2]
    exact y.h3
/-- draw['large'] against [] -/
theorem dop_large {p : Addr} (hd : HasDraw c.m dr la ca cs) (h : k (.dat (.bool (!(hd.get st).large.isEmpty))) ρ st) : DOp K c (rNeD K) (.raw (.ref la)) (.own p []) ρ st k := by
  intro τ σ H Q v1 v2 hh hl hk
  have e1 : some v1 = some (V.ref la) := hh.all _ (List.mem_append_right _ (List.mem_cons_of_mem _ List.mem_cons_self))
  cases e1
  have y := hd.rd hh.ok
  have m2 := asD_ok hh (fun e he => List.mem_append_left _ he) hl (List.mem_append_right _ List.mem_cons_self) (AsD.own (ρ := ρ) p [])
  have di : ∀ l : List Int, DpAll K H (l.map V.int) (l.map PyData.int) := by
    intro l
    induction l with
    | nil => exact .nil
    | cons i l ih => exact .cons (.int i) ih
  have cl : ∀ l : List Int, PyData.canLayAll0 (l.map PyData.int) = true := by
    intro l
    induction l with
    | nil => rfl
    | cons i l ih => rw [List.map_cons, PyData.canLayAll0, ih]; rfl
  have dp : ∀ l : List Int, PyData.depthAll (l.map PyData.int) ≤ 1 := by
    intro l
    induction l with
    | nil => simp [PyData.depthAll]
    | cons i l ih => rw [List.map_cons, PyData.depthAll]; have : PyData.depth (.int i) ≤ 1 := by simp [PyData.depth]
                     omega
  have e2 : (!PyData.eqv (.list ((hd.get st).large.map PyData.int)) (.list [])) = !(hd.get st).large.isEmpty := by
    cases (hd.get st).large with
    | nil => rfl
    | cons i l => rfl
  refine ⟨.list ((hd.get st).large.map .int), .list [], .lst (.inl (.inl y.h2)) (di _), m2.dp rfl, ?_, rfl, ?_⟩
  · unfold SeqAt.shaped
    rw [Bool.and_eq_true]
    refine ⟨by rw [PyData.canLay0]; exact cl _, decide_eq_true ?_⟩
    have := dp (hd.get st).large
    rw [PyData.depth]
    omega
  · rw [e2]
    exact hk _ _ _ _ _ h (hh.two (v := .bl _) rfl) hl
/-- draw['large'].pop(0) -/
theorem dr_pop {i : Nat} {x : Str} {np kp sp apos zp : Pos} {j zj : Nat} {n : Int} {r : List Int} (hd : HasDraw c.m dr la ca cs) (hu : X.A.units + 1 < cLine) (hρ : ρ[i]? = some (.raw (.ref dr))) (hL : (hd.get st).large = n :: r) (h : k (.dat (.int n)) ρ (hd.put st { hd.get st with large := r }))
    (hN : X.N[i]? = some x := by rfl) (hvis : Vis X.env.scope x := by first | exact Or.inl rfl | exact Or.inr (Or.inl rfl) | exact Or.inr (Or.inr rfl)) (hdb : (x == ("__debug__" : Str)) = false := by decide) (hcd : (x == ("__classdict__" : Str)) = false := by decide) (hns : NoSl (.Constant (.str "large") j kp) := by exact fun _ _ => rfl)
    (hbase : attributeBase (.Subscript (.Name x np) (.Constant (.str "large") j kp) sp) "pop" X.env (eval (.Subscript (.Name x np) (.Constant (.str "large") j kp) sp) X.env) = eval (.Subscript (.Name x np) (.Constant (.str "large") j kp) sp) X.env := by rfl)
    (hfew : ((backTo pos (starEach ((.Constant (.int 0) zj zp : Expr) :: []) X.env)).all (fun x => !x.1) && (backToKw pos (keywordEach [] X.env)).all (fun x => x.1.isSome)
      && decide (((.Constant (.int 0) zj zp : Expr) :: ([] : List Expr)).length + ([] : List Keyword).length + (if ([] : List Keyword).isEmpty then 0 else 1) < 30)) = true := by rfl)
    (hline : (apos.endLine == pos.line) = true := by rfl) (hs : starEach ((.Constant (.int 0) zj zp : Expr) :: []) X.env = (false, eval (.Constant (.int 0) zj zp) X.env) :: starEach [] X.env := by rfl) (hplain : (backTo pos (starEach [] X.env)).any (·.1) = false := by rfl) :
    DE X c (.Call (.Attribute (.Subscript (.Name x np) (.Constant (.str "large") j kp) sp) "pop" apos) [.Constant (.int 0) zj zp] [] pos) ρ st k := by
  intro τ σ H Q hh hl hk hx
  have y := hd.rd hh.ok
  have eL := y.h2
  rw [hL] at eL
  refine we_of (pe_bm PySem.F.plainAttrs_list PySem.F.slot_list_pop PySem.F.type_list_pop (fun pins s σ H x vs v us Q => mt_popAt pins s σ H x vs v us Q) (pe_dget hu (pe_var hN hvis hdb hcd) pe_str hns) (pa_cons pe_int pa_nil hs) hbase hfew hline hs hplain) ?_
  refine ⟨.ref dr, raw_of hh hl hρ, dr, .ref la, rfl, by rw [← val_large (la := la) (ca := ca) (d := hd.get st)]; exact DGet.k (k := Sum.inr "large") y.h1, .inl ⟨rfl, _, .inl (.inl y.h2)⟩, la, _, 0, 0, .int n, rfl, rfl, eL, by decide, by decide, ?_, rfl, ?_⟩
  · show seqIndex? 0 ((n :: r).map V.int).length = some 0
    rw [List.length_map, List.length_cons]
    exact (ixN_seq (n := r.length + 1) (i := 0) (j := 0) (by unfold ixN; rw [if_pos (by omega), if_pos (by omega)]; rfl)).1
  · refine hk _ _ _ _ _ h ((hh.draw hd (d := { hd.get st with large := r }) (fun b b1 b2 => upd_ne b2) ⟨?_, upd_same, ?_, y.h4⟩).flat (v := .int n) rfl) hl
    · rw [upd_ne (Ne.symm y.n1)]
      exact y.h1
    · rw [upd_ne y.h4]
      exact y.h3
end
end DL

namespace DL
open PySem PySem.Spec PyProof.Rows L2 LamX

/-! ### an exception held as a value -/
def ExV (cls : Value) (d : Option Addr) (a : Addr) : HO := .ext fun h => ∃ (oe : Obj) (vs : Array Value), h.get? a = some oe ∧ Zc cls d oe ∧ oe.data = .fields vs
theorem nt_exV {cls : Value} {d : Option Addr} {a : Addr} : NT (ExV cls d a) := fun _ z => nomatch z
section
variable {X : Cx} {pins : List (Addr × Obj)} {σ : L2.St} {H : Hp} {s : Shared}
theorem track {a : Addr} {oe : Obj} {vs : Array Value} {cls : Value} {d : Option Addr} (I : Inv X ((a, oe) :: pins) σ H s) (hz : Zc cls d oe) (hd : oe.data = .fields vs) (h0 : X.s_0.heap.get? a = none) (hp : ∀ p ∈ X.pn ++ pins, p.1 ≠ a) : Inv X pins σ (upd H a (ExV cls d a)) s := by
  obtain ⟨e1, n1, ne1, nf1, dc⟩ := I.pin (a, oe) (List.mem_append_right _ List.mem_cons_self)
  have e1 : s.heap.get? a = some oe := e1
  have n1 : H a = none := n1
  have ne0 : ∀ b o, X.s_0.heap.get? b = some o → b ≠ a := fun b o e z => by
    rw [z, h0] at e
    cases e
  refine ⟨I.ok, I.os, I.bare, ⟨I.base.keep, I.base.slot, fun b o e n hx => ?_, I.base.there, fun b xs e => ?_, fun b o u e => ?_, fun b ps e => ?_⟩, I.loc, I.cell, ?_, fun x c e => ?_, fun p hp' => ?_, ?_, I.len⟩
  · rw [upd_ne (ne0 b o e)]
    exact I.base.free b o e n hx
  · have q := I.base.tups b xs e
    rw [upd_ne (ne_of_none q n1)]
    exact q
  · have q := I.base.frzs b o u e
    rw [upd_ne (ne_of_none q n1)]
    exact q
  · obtain ⟨m, q⟩ := I.base.tbls b ps e
    exact ⟨m, by rw [upd_ne (ne_of_none q n1)]; exact q⟩
  · rw [upd_ne (Ne.symm ne1)]
    exact I.free
  · have hc : c ≠ a := fun z => by
      obtain ⟨v, o, ho, hv⟩ := I.cell x c e
      rw [z, e1] at ho
      cases ho
      exact dc v hv
    rw [upd_ne hc]
    exact I.freeC x c e
  · obtain ⟨q1, q2, q3, q4, q5⟩ := I.pin p (by
      rcases List.mem_append.mp hp' with z | z
      · exact List.mem_append_left _ z
      · exact List.mem_append_right _ (List.mem_cons_of_mem _ z))
    exact ⟨q1, by rw [upd_ne (hp p hp')]; exact q2, q3, q4, q5⟩
  · exact I.hok.laidN (fun _ _ q => q) n1 ⟨⟨oe, vs, e1, hz, hd⟩, ⟨oe, e1⟩, fun _ _ ⟨o, v, q, r⟩ k => ⟨o, v, k o q, r⟩⟩
end
/-- no frame is a record of fields -/
theorem off_frames {l : List PySem.Env} {G h : Heap} {q : Addr} {oq : Obj} {fs : Array Value} (F : h.FunFrames G l) (there : h.get? q = some oq) (rec : oq.data = .fields fs) : q ∉ frs l := by
  intro inl
  obtain ⟨_, o2, there2, no⟩ := F.mem inl
  rw [there] at there2
  cases there2
  exact no fs rec
/-- an error out of the air was not at the entry, and is pinned by none -/
theorem out_of_air {X : Cx} {pins : List (Addr × Obj)} {σ : L2.St} {H : Hp} {s : Shared} {G : Heap} {q : Addr} (I : Inv X pins σ H s) (hex : X.ex = []) (ground : ∀ b o, s.heap.get? b = some o → b ∉ frs X.stack → G.get? b = some o) (noG : G.get? q = none) (off : q ∉ frs X.stack) :
    X.s_0.heap.get? q = none ∧ ∀ p ∈ X.pn ++ pins, p.1 ≠ q := by
  refine ⟨?_, ?_⟩
  · cases e0 : X.s_0.heap.get? q with
    | none => rfl
    | some o =>
      obtain ⟨o1, e1⟩ := I.base.there q o e0 fun z => by rw [hex] at z; cases z
      have e2 := ground q o1 e1 off
      rw [noG] at e2
      cases e2
  · intro p hp e
    have e1 := (I.pin p hp).1
    have e2 := ground p.1 p.2 e1 (by rw [e]; exact off)
    rw [e, noG] at e2
    cases e2
/-- what the clause 'except x as n' wishes of an error that it takes; the error is kept -/
def wKeep (K : PySem.W.Frag) (c : Value) (i n : Nat) (ts : Addr → Value → Option Addr → TS) (D : Ends) : WX := fun cls d σ H =>
  PySem.W.exmOne K cls c = some true ∧ (σ.length = n → ∀ a, H a = none → ts a cls d ⟨fun σ' H' => D.nx (σ'.set i none) (upd H' a (ExV cls d a)), fun _ _ => False, fun _ _ => False, fun _ _ => False⟩ (σ.set i (some (.ref a))) H)
section
variable {X : Cx} {x n : Str} {c : Value} {i : Nat} {body suite : List Stmt} {b₀ : Stmt} {np pos pos' : Pos} {tb : WX → TS} {ts : Addr → Value → Option Addr → TS}
/-- the suite's end: the name goes, the error is tracked -/
theorem keep_end {pins : List (Addr × Obj)} {D : Ends} {q : Addr} {oq : Obj} {fs : Array Value} {cls : Value} {d : Option Addr} (ok : X.Ok) (hN : X.N.Nodup) (hi : X.N[i]? = some n) (hln : X.env.kindOf n = some .local) (z : Zc cls d oq) (rec : oq.data = .fields fs) (q0 : X.s_0.heap.get? q = none) (qp : ∀ p ∈ X.pn ++ pins, p.1 ≠ q) {fl : Flow} {s : Shared}
    (h : SP (X.suite q ((q, oq) :: (X.pn ++ pins))) [] ⟨fun σ' H' => D.nx (σ'.set i none) (upd H' q (ExV cls d q)), fun _ _ => False, fun _ _ => False, fun _ _ => False⟩ fl s) :
    wpAny (model X.prog X.w) X.A (do bindName X.env n .none; unbindBehindTheSuite X.env n pos') (fun _ s7 => SP X pins D fl s7) X.xe s := by
  cases fl with
  | next =>
    obtain ⟨σ6, H6, S, want⟩ := h
    have back : Inv X ((q, oq) :: pins) σ6 H6 s := by
      refine ⟨ok, S.os, S.bare, S.base, S.loc, S.cell, S.free, S.freeC, fun p hp => S.pin p (List.mem_append_left _ ?_), S.hok, S.len⟩
      rcases List.mem_append.mp hp with hp | hp
      · exact List.mem_cons_of_mem _ (List.mem_append_left _ hp)
      · rcases List.mem_cons.mp hp with rfl | hp
        · exact List.mem_cons_self
        · exact List.mem_cons_of_mem _ (List.mem_append_right _ hp)
    exact gone_ok back hN hi hln fun s7 J => ⟨_, _, track J z rec q0 qp, want⟩
  | brk => obtain ⟨_, _, _, want⟩ := h; exact want.elim
  | cont => obtain ⟨_, _, _, want⟩ := h; exact want.elim
  | ret u => obtain ⟨_, _, _, _, _, want⟩ := h; exact want.elim
theorem ps_try_keep (hs : X.stack = X.env :: X.outer) (hf : X.env.frame = some X.env.locals) (hex : X.ex = []) (hN : X.N.Nodup) (hi : X.N[i]? = some n) (hln : X.env.kindOf n = some .local) (hc : Names X x c)
    (hb : ∀ (V : WX) (pl : List (Addr × Obj)) (ye : Value → Shared → Prop), Takes (X.tr pl ye) V → PassesOwn (model X.prog X.w) X.A X.env ye → PSs (X.tr pl ye) body (tb V))
    (hsu : ∀ (q : Addr) (oq : Obj) (kl : Value) (dq : Option Addr) (pl : List (Addr × Obj)), Zc kl dq oq → (∃ fs, oq.data = .fields fs) → PSs (X.suite q ((q, oq) :: pl)) (b₀ :: suite) (ts q kl dq)) :
    PS X (.Try body [.ExceptHandler (some (.Name x np)) (some n) (b₀ :: suite) pos'] [] [] pos) (fun D σ H => tb (wKeep X.K c i X.N.length ts D) D σ H) := by
  constructor
  intro pins s σ H D I h
  have ok := I.ok
  have stk : X.A.frames = some (X.env :: X.outer) := ok.frames.trans (congrArg some hs)
  apply wpAny_Try_except
  have tried := (hb (wKeep X.K c i X.N.length ts D) (X.pn ++ pins)
    (fun u s1 => wpAny (model X.prog X.w) X.A (noteFrame u X.env) (fun _ s2 => wpAny (model X.prog X.w) X.A (setFlight u none) (fun _ s3 => wpAny (model X.prog X.w) X.A (handleBy u X.env [.ExceptHandler (some (.Name x np)) (some n) (b₀ :: suite) pos']) (SP X pins D) X.xe s3) X.xe s2) X.xe s1)
    (fun u s1 air => ?_) PassesOwn.looking).run [] s σ H D (I.toTry _) h
  · refine wpAny_mono tried (fun fl s1 sp => ?_) fun _ _ z => z
    cases fl with
    | next => obtain ⟨σ1, H1, J, w⟩ := sp; exact wpAny_execs_nil ⟨σ1, H1, J.ofTry ok, w⟩
    | brk => obtain ⟨σ1, H1, J, w⟩ := sp; exact ⟨σ1, H1, J.ofTry ok, w⟩
    | cont => obtain ⟨σ1, H1, J, w⟩ := sp; exact ⟨σ1, H1, J.ofTry ok, w⟩
    | ret u => obtain ⟨v, σ1, H1, J, r, w⟩ := sp; exact ⟨v, σ1, H1, J.ofTry ok, r, w⟩
  · obtain ⟨q, G, sI, pins1, σ1, H1, cls, d, rfl, J1, ground, up, sky, nq, os, bare, taken, yes⟩ := air
    have J : Inv X pins σ1 H1 sI := J1.ofTry ok
    have noG : G.get? q = none := by rcases sky with ⟨_, z, _⟩ | ⟨_, z, _⟩ | ⟨_, z, _⟩ <;> exact z
    have sky2 : Sky G (X.env :: X.outer) q (Zc cls d) X.env.locals s1.heap := hs ▸ sky
    refine Sky.land Zc.steady stk hf sky2 fun hA flA upA => ?_
    obtain ⟨oA, vA, atA, zA, recA⟩ := flA.there
    have off : q ∉ frs (X.env :: X.outer) := off_frames flA.2.2.1 atA recA
    have offS : q ∉ frs X.stack := by rw [hs]; exact off
    have ne1 : q ≠ X.env.locals := fun z => off (List.mem_filterMap.mpr ⟨X.env, List.mem_cons_self, by rw [hf, z]⟩)
    have ne2 : q ∉ X.fs := fun m => by
      obtain ⟨e, m1, m2⟩ := List.mem_filterMap.mp m
      exact off (List.mem_filterMap.mpr ⟨e, List.mem_cons_of_mem _ m1, m2⟩)
    obtain ⟨q0, qp⟩ := out_of_air J hex ground noG offS
    have SA := (J.landed ground flA.1 (up.trans upA) os bare : Inv X pins σ1 H1 { s1 with heap := hA }).suite atA recA nq ne1 ne2
    have kind : PySem.W.Looks (model X.prog X.w) hA (typeOf (.ref q)) cls := fun A Q E t keep w => wpAny_typeOf_ref (keep _ _ atA) (by rw [zA.1]; exact w)
    refine wpAny_handleBy_cons (codeAny_handlers_test ?_) (fun z => by cases z)
    have named : ∀ {Q E : Value → Shared → Prop}, Q c { s1 with heap := hA } → wpAny (model X.prog X.w) (X.A.mark (some (.ref q))) (eval (.Name x np) X.env) Q E { s1 with heap := hA } := by
      intro Q E w
      rcases hc with ⟨gx, dx, mx | ⟨mx, vx, nx⟩⟩
      · exact ld_glob (X := X.suite q ((q, oA) :: (X.pn ++ pins))) SA gx mx w dx
      · exact ld_blt (X := X.suite q ((q, oA) :: (X.pn ++ pins))) SA gx mx vx w nx dx
    refine named ((PySem.W.exm_one (M := model X.prog X.w) SA.kIn kind taken).here (codeAny_handlers_suite_as ?_))
    refine HandSPX.lands_againZ flA fun hB flB upB => ?_
    obtain ⟨oB, vB, atB, zB, recB⟩ := flB.there
    have SB := (J.landed ground flB.1 ((up.trans upA).trans upB) os bare : Inv X pins σ1 H1 { s1 with heap := hB }).suite atB recB nq ne1 ne2
    refine store_ok (X := X.suite q ((q, oB) :: (X.pn ++ pins))) (v := .ref q) SB hN hi (.inl hln) rfl (fun sC SC => ?_) (.inr hln)
    exact wpAny_mono ((hsu q oB cls d (X.pn ++ pins) zB ⟨_, recB⟩).run [] sC _ H1 _ SC (yes J.len q nq)) (fun fl sD sp => keep_end ok hN hi hln zB recB q0 qp sp) fun _ _ z => z.elim
end
/-! ### caught: None or the error -/
def TCau (K : PySem.W.Frag) (CS : Addr) : (XK → Hp → VK → Prop) → Hp → VK → Prop := fun tl H Q =>
  tl (fun cls d H' => ∃ b, PySem.W.exmOne K cls (.ref CS) = some b ∧ b = true ∧ ∀ a, H' a = none → Q (.ref a) (upd H' a (ExV cls d a))) H fun _ H' => ∃ v, (some (some V.non) : Option (Option V)) = some (some v) ∧ Q v H'
theorem caught_gives {X : Cx} {x a y e n q : Str} {sg : Scope} {g CS : Addr} {cdg : Value} {jn : Nat} {p0 p0' p0'' p1 p2 p3 p4 p5 p6 p7 p8 p9 p10 p11 : Pos} (hNd : [a, y, n].Nodup) (hx : Loc sg y) (hsy : sg.names.lookup y = some .local) (hln : sg.names.lookup n = some .local)
    (hge : sg.names.lookup e = some .globalImplicit) (hme : X.mg e = some (.ref CS)) (hde : (e == ("__debug__" : Str)) = false) (hyd : (y == ("__debug__" : Str)) = false) (hyc : (y == ("__classdict__" : Str)) = false) (hnd : (n == ("__debug__" : Str)) = false) (hnc : (n == ("__classdict__" : Str)) = false) :
    GivesTo X [a, y, n] x sg g cdg [.Assign [.Name y p0] (.Constant .none jn p0') p0'', .Try [.Expr (.Call (.Name a p1) [] [] p2) p3] [.ExceptHandler (some (.Name e p4)) (some n) [.Assign [.Name y p5] (.Name n p6) p7] p8] [] [] p9, .Return (some (.Name y p10)) p11] a q (TCau X.K CS) := by
  intro f c' s H Q tl act hc h
  have hgl : Gl (cxOf C8.CX0 X.prog X.w X.K X.mg X.base [a, y, n] x sg g cdg X.A X.stack s H C8.E0).nox e := hge
  refine ⟨_, pss_cons (ps_set (i := 1) hNd rfl hx pe_non) (pss_cons (ps_try_keep (i := 2) (X := (cxOf C8.CX0 X.prog X.w X.K X.mg X.base [a, y, n] x sg g cdg X.A X.stack s H C8.E0).nox) (c := .ref CS)
      (tb := fun W D σ H => ∃ Ech : XK, (∀ cls d σ' H', Ech cls d H' → W cls d σ' H') ∧ σ[0]? = some (some (.ref f)) ∧ H c' = some (CodeO c' q) ∧ tl Ech H fun _ H' => D.nx σ H')
      rfl rfl rfl hNd rfl hln ⟨hgl, hde, .inl hme⟩ (fun W pn xe tk _ => ?_) (fun a oe cls d pn _ _ => pss_one (ps_set (i := 1) hNd rfl hx (pe_var (i := 2) rfl (.inl hln) hnd hnc)))) (pss_one (ps_ret (pe_var (i := 1) rfl (.inl hsy) hyd hyc)))), ?_⟩
  · exact ⟨fun pl s1 σ1 H2 D I ⟨Ech, wish, w0, w1, w2⟩ => (pss_one (ps_expr (pos := p3) (act W pn xe Ech p1 p2 tk wish))).run pl s1 σ1 H2 D I ⟨w0, w1, w2⟩⟩
  · refine ⟨fun cls d H' => ∃ b, PySem.W.exmOne X.K cls (.ref CS) = some b ∧ b = true ∧ ∀ a, H' a = none → Q (.ref a) (upd H' a (ExV cls d a)), fun cls d σ' H' ⟨b, e1, e2, e3⟩ => ⟨by rw [← e2]; exact e1, fun hlen ad na => ?_⟩, rfl, hc, h⟩
    match σ', hlen with
    | [s0, s1, s2], _ => exact ⟨.ref ad, rfl, .ref ad, rfl, e3 ad na⟩

/-! ### x(lambda: body), x the def that catches -/
def lamS : Slot → Slot
  | .own _ _ => .any
  | s => s
theorem ownP_lam (o : Option V) (s : Slot) : ownP (o, lamS s) = none := by cases s <;> rfl
theorem owns_lam : ∀ (σ : L2.St) (ρ : Env), owns (σ.zip (ρ.map lamS)) = []
  | [], _ => rfl
  | _ :: _, [] => rfl
  | o :: σ, s :: ρ => by
    show owns ((o, lamS s) :: σ.zip (ρ.map lamS)) = []
    rw [owns_cons, ownP_lam, owns_lam σ ρ]
    rfl
theorem lam_ok {N : Addr → Prop} {K : PySem.W.Frag} {H : Hp} : ∀ {σ : L2.St} {ρ : Env}, (∀ e ∈ σ.zip ρ, EntOk N K H e) → ∀ e ∈ σ.zip (ρ.map lamS), EntOk N K H e
  | [], _, _, e, he => by cases he
  | _ :: _, [], _, e, he => by cases he
  | o :: σ, s :: ρ, h, e, he => by
    rcases List.mem_cons.mp (show e ∈ (o, lamS s) :: σ.zip (ρ.map lamS) from he) with rfl | he
    · have q := h (o, s) List.mem_cons_self
      cases s with
      | own p ds => trivial
      | _ => exact q
    · exact lam_ok (fun e he => h e (List.mem_cons_of_mem _ he)) e he
theorem Here.owned {m : Mem} {K : PySem.W.Frag} {H0 H : Hp} {L : List Ent} {st : m.St} (h : Here m K H0 L st H) : ∀ a ∈ owns L, ∃ o, NT o ∧ H a = some o := fun a ha => by
  obtain ⟨x, hx, e⟩ := mem_owns.mp ha
  have k := h.all x hx
  obtain ⟨o, s⟩ := x
  cases s with
  | own p' ds' =>
    obtain ⟨_, xs', e2, _⟩ := k
    have : p' = a := Option.some.inj e
    rw [← this]
    exact ⟨_, nt_lst, e2⟩
  | _ => cases e
/-- a memory that knows the tables -/
structure HasTabs (m : Mem) (T : List (Addr × Str)) : Prop where
  rd : ∀ {K st H}, m.ok K st H → Tabs T H
  wr : ∀ {K st H H'}, m.ok K st H → ExtN H H' → Tabs T H' → m.ok K st H'
theorem HasTabs.avoid {m : Mem} {T : List (Addr × Str)} (h : HasTabs m T) (A : List Addr) : HasTabs (m.avoid A) T where
  rd := fun x => h.rd x.1
  wr := fun x e t => ⟨h.wr x.1 e t, fun a ha => by
    obtain ⟨o, n, q⟩ := x.2 a ha
    exact ⟨o, n, e a o q n⟩⟩
/-- a def that catches what its lambda raises -/
structure Cau (K : PySem.W.Frag) (mg : Str → Option Value) (x : Str) (CS : Addr) (f : Addr) (bg : List Stmt) (sg : Scope) (a y n : Str) : Prop where
  nd : [a, y, n].Nodup
section
variable {X : Cx} {c : Cz} {ρ : Env} {st : c.m.St} {k : Slot → Env → c.m.St → Prop}
theorem de_caughtG {T : List (Addr × Str)} {CS : Addr} {x a : Str} {g c0 P : Addr} {kk : Nat} {pg : Arguments} {bg : List Stmt} {sg : Scope} {dV kV doc pm cdv ct oc : Value} {an od : Option Addr} {osl : Array (Option Value)} {Ng : List Str}
    {params : Arguments} {body : Expr} {scope : Scope} {p lpos pos : Pos} (hg : Gl X x) (hm : X.mg x = some (.ref g)) (hk : PySem.W.keepIn X.K (.ref g) = true)
    (there : X.K.lookup g = some ⟨oc, od, .func (PySem.W.fnOf x x pg bg sg dV kV doc pm an cdv ct), osl⟩) (coded : PySem.W.codeIn X.K cdv x = true) (hb : L2.Binds X.K (PySem.W.fnOf x x pg bg sg dV kV doc pm an cdv ct) [a] []) (Sg : FnScope Ng [a] sg) (hNg : Ng[0]? = some a) (hva : Vis sg a)
    (hG : GivesTo X Ng x sg g cdv bg a (X.env.qual ++ "<lambda>") (TCau X.K CS))
    (TB : TabB X.base X.mg c0 P) (hcode : X.env.code = .ref c0) (hmT : (P, X.env.qual ++ "<lambda>") ∈ T) (hu : ∀ p ∈ T, p.1 = P → p.2 = X.env.qual ++ "<lambda>") (hr : Room (kk + 2) X.A) (L : LamS X.env.scope scope) (hdef : defaultsOf params X.env = ([], []))
    (noArg : ∀ (qn : Str) (cs : List (Str × Addr)) (v1 v2 v3 : Value), bindArgs (PySem.W.kla_fn "<lambda>" qn params body scope cs v1 v2 v3) ⟨[], []⟩ = pure [])
    (ht : HasTabs c.m T)
    (h : ∀ (A' : Around) (outer : List PySem.Env) (s : Shared) (H H0 : Hp) (E : XK) (f c' : Addr) (A : List Addr), Room kk (A'.deeper (lamEnv X scope s.heap.objs.size f c')) →
      DE (lamCx X A' outer s H E scope f c') ⟨fun cls d _ H' => E cls d H', c.m.avoid A, H0, fun ex st' => PySem.W.exmOne X.K ex.cls (.ref CS) = some true ∧ ex.fs = [] ∧ k (.obj (ExV ex.cls none)) ρ st'⟩ body (ρ.map lamS) st fun _ _ st' => k (.dat .none) ρ st')
    (nx : (x == ("__debug__" : Str)) = false := by decide) (na : (a == ("__debug__" : Str)) = false := by decide) (nc : (a == ("__classdict__" : Str)) = false := by decide) :
    DE X c (.Call (.Name x p) [.Lambda params body scope lpos] [] pos) ρ st k := by
  intro τ σ H Q hh hl hkk hx
  refine we_of (pe_lamcall (t := fun E σ H' Q' => ∀ (A' : Around) (outer : List PySem.Env) (s : Shared) (H : Hp) (f c' : Addr), Room kk (A'.deeper (lamEnv X scope s.heap.objs.size f c')) → WE (lamCx X A' outer s H E scope f c') body σ H' Q') hg hm hk there coded hb Sg hNg hva hG TB hcode hmT hu hr L hdef noArg
    (fun A' outer s H E f c' hr' => ⟨fun pins s' σ H' Q I q => q A' outer s H f c' hr' pins s' I⟩) nx na nc) ⟨ht.rd hh.ok, fun H1 eN T1 => ?_⟩
  have hh1 : Here c.m X.K c.H0 (σ.zip ρ ++ τ) st H1 := hh.step (fun b o _ t e => eN b o e t) (ht.wr hh.ok eN T1)
  intro A' outer s H2 f c' hr'
  refine h A' outer s H2 H1 _ f c' (owns (σ.zip ρ ++ τ)) hr' [] σ H1 _ ⟨⟨hh1.ok, hh1.owned⟩, Kp.refl _ _, ?_, ?_, ?_⟩ (by rw [List.length_map]; exact hl) (fun s' ρ' st' v H3 q1 q2 _ => ?_) fun ex st' d σ' H3 q1 ok kp xa => ?_
  · rw [List.append_nil, owns_lam]
    exact List.nodup_nil
  · rw [List.append_nil, owns_lam]
    exact fun p hp => (nomatch hp)
  · rw [List.append_nil, owns_lam]
    have q := lam_ok (σ := σ) (ρ := ρ) fun e he => hh1.all e (List.mem_append_left _ he)
    intro e he
    have z := q e he
    have no : ownP e = none := by
      have : ∀ (σ : L2.St) (ρ : Env), ∀ e ∈ σ.zip (ρ.map lamS), ownP e = none := by
        intro σ
        induction σ with
        | nil => intro ρ e he; cases he
        | cons o σ ih =>
          intro ρ e he
          cases ρ with
          | nil => cases he
          | cons s ρ =>
            rcases List.mem_cons.mp (show e ∈ (o, lamS s) :: σ.zip (ρ.map lamS) from he) with rfl | he
            · exact ownP_lam o s
            · exact ih ρ e he
      exact this σ ρ e he
    exact z.move (fun a o n t e => ⟨fun y => y.elim n fun y => (nomatch y), e⟩) fun p ds e2 => by
      unfold ownP at no
      rw [e2] at no
      cases no
  · refine ⟨.non, rfl, hkk _ _ _ _ _ q1 ?_ hl⟩
    exact (hh1.step q2.kp q2.ok.1).flat (v := .non) rfl
  · obtain ⟨e1, e2, e3⟩ := q1
    refine ⟨true, e1, rfl, fun ad na => ?_⟩
    have hd0 : d = none := by
      rcases xa with ⟨_, z⟩ | ⟨_, _, z, _⟩
      · exact z
      · exact absurd e2 z
    subst hd0
    have h3 := hh1.step kp ok.1
    refine hkk _ _ _ _ _ e3 ((h3.alloc (o := ExV ex.cls none ad) na).put rfl ⟨ad, rfl, own_ne h3 na, nt_exV, upd_same⟩) hl
end
end DL

namespace DL
open PySem PySem.Spec PyProof.Rows L2 LamX

/-! ### isinstance of a kept error -/
def rIsX (K : PySem.W.Frag) : List V → Hp → VK → Prop := fun xs H Q => ∃ (a D : Addr) (c : V) (cv : Value) (b : Bool), xs = [.ref a, c] ∧ H a = some (ExV (.ref D) none a) ∧ ExcC K D ∧ (∀ u, RelV c u → u = cv) ∧ PySem.W.kitOne K (.ref D) cv = some b ∧ Q (.bl b) H
theorem call_isX {X : Cx} : CallR X (.builtin "isinstance") (rIsX X.K) := by
  intro pins s σ H xs us Q I r h
  obtain ⟨a, D, c, cv, b, rfl, hH, C, hcv, e, q⟩ := h
  cases r with
  | cons rx rr =>
    cases rr with
    | cons rt rr =>
      cases rr
      cases rx
      have ec := hcv _ rt
      subst ec
      obtain ⟨⟨oe, vs, hget, hz, hv⟩, _, _⟩ := I.hok a _ hH
      have inst : PySem.W.InstAt s.heap a oe D none := ⟨hget, hz.1, by unfold PySem.W.notCls; rw [hv] <;> rfl, by rw [hz.2]; trivial⟩
      refine PySem.W.kia_one (PySem.W.handS_kitx_exc C.hg C.hk C.hs C.hd C.ha C.hn C.ht C.hm) I.kIn inst e ?_ fun tk => ⟨.bl b, H, I.kept (t' := tk) fun _ _ w => w, rfl, q⟩
      exact fun w => nomatch w
section
variable {X : Cx} {c : Cz} {e a b t : Expr} {es : List Expr} {ρ : Env} {st : c.m.St} {pos : Pos} {k : Slot → Env → c.m.St → Prop} {K : PySem.W.Frag}
theorem dcall_isX {D C : Addr} {x : Bool} (hC : ExcC K D) (hk1 : PySem.W.kitOne K (.ref D) (.ref C) = some x) (h : k (.dat (.bool x)) ρ st) : DCall K c (rIsX K) [.obj (ExV (.ref D) none), .raw (.ref C)] ρ st k := by
  intro τ σ H Q vs hlen hh hl hk
  obtain ⟨v, w, rfl⟩ := two_of hlen
  have h' : Here c.m K c.H0 (σ.zip ρ ++ (some v, .obj (ExV (.ref D) none)) :: (some w, .raw (.ref C)) :: τ) st H := hh
  obtain ⟨a, e, n, tt, q⟩ := h'.all _ (List.mem_append_right _ List.mem_cons_self)
  cases e
  have e : some w = some (V.ref C) := h'.all _ (List.mem_append_right _ (List.mem_cons_of_mem _ List.mem_cons_self))
  cases e
  exact ⟨a, D, .ref C, .ref C, x, rfl, q, hC, fun u r => r, hk1, hk _ _ _ _ _ h (h'.two (v := .bl _) rfl) hl⟩
/-! ### displays of dicts -/
theorem de_dict0 (h : k (.dat (.dict [])) ρ st) : DE X c (.Dict [] [] pos) ρ st k := by
  intro τ σ H Q hh hl hk hx
  refine we_of pe_dnewK fun p hp => hk _ _ _ _ _ h ((hh.alloc (o := .dK []) hp).put rfl ⟨.ref p, rfl, ?_⟩) hl
  exact .dct (kvs := []) (ds := []) (own_ne hh hp) (.inl upd_same) .nil
theorem de_dict1 {ke ve : Expr} {x : Str} {v : V} {d : PyData} (hk1 : PE X ke (tC (.str x))) (hv1 : PE X ve (tC v)) (hv : flatD v = some d) (h : k (.dat (.dict [(.str x, d)])) ρ st) : DE X c (.Dict [some ke] [ve] pos) ρ st k := by
  intro τ σ H Q hh hl hk hx
  refine we_of (pe_disp (pps_cons hk1 hv1 pps_nil) rfl rfl (by simp) (by simp)) fun p hp => ?_
  refine ⟨upd_same, [(.inr x, v)], rfl, by simp, ?_⟩
  have e : upd (upd H p (.dK [])) p (.dK (mergeK [] [((Sum.inr x : Key), v)])) = upd H p (.dK [((Sum.inr x : Key), v)]) := by
    funext b
    unfold upd
    split <;> rfl
  rw [e]
  refine hk _ _ _ _ _ h ((hh.alloc (o := .dK [((Sum.inr x : Key), v)]) hp).put rfl ⟨.ref p, rfl, ?_⟩) hl
  exact .dct (kvs := [(.inr x, v)]) (ds := [d]) (own_ne hh hp) (.inl upd_same) (.cons (flat_da hv) .nil)
/-! ### for cell in draw['cells'] -/
theorem ints_da {N : Addr → Prop} {H : Hp} (l : List Int) : DaAll N K H (l.map V.int) (l.map PyData.int) := by
  induction l with
  | nil => exact .nil
  | cons i l ih => exact .cons (.int i) ih
theorem di_cells {tg : Expr} {dr la ca : Addr} {cs : List Int} {ki : List PyData → Env → c.m.St → Prop} (hd : HasDraw c.m dr la ca cs) (h : DE X c e ρ st fun s ρ1 st1 => s = .raw (.ref ca) ∧ ki (cs.map PyData.int) ρ1 st1) : DI X c tg e ρ st ki := by
  intro τ σ H R hh hl hk hx
  refine wi_of (pi_list pe_w) (h τ σ H _ hh hl (fun s ρ1 st1 v H1 h1 hh1 hl1 => ?_) hx)
  obtain ⟨rfl, q⟩ := h1
  have ev : v = .ref ca := Option.some.inj (hh1.all _ (List.mem_append_right _ List.mem_cons_self))
  subst ev
  have rd : ∀ (A B : List Ent) (st : c.m.St) (H : Hp), Here c.m X.K c.H0 (A ++ ([] ++ B)) st H → ∃ xs, SqL X.K H ca xs ∧ DaAll (fun a => c.m.N a ∨ a ∈ owns (A ++ ([] ++ B))) X.K H xs (cs.map PyData.int) := fun A B st H h => ⟨_, .inl (.inl (hd.rd h.ok).h3), ints_da cs⟩
  obtain ⟨xs, q1, _⟩ := rd (σ.zip ρ1) τ _ H1 hh1.cut
  exact ⟨ca, rfl, ⟨xs, q1⟩, hk _ ρ1 st1 _ [] _ q (walk_seq (p := 0) (Sq := fun H xs => SqL X.K H ca xs) rd (fun i H z => z) (fun i H z => z) fun i H x H' z => z) hh1.cut hl1⟩
end
/-! ### a def whose code object is known -/
structure DfC (K : PySem.W.Frag) (mg : Str → Option Value) (x : Str) (s : Stmt) (ps : List Str) (c0 : Addr) : Prop where
  ex : ∃ (f : Addr) (oc : Value) (od : Option Addr) (kV doc pm : Value) (an : Option Addr) (ct : Value) (osl : Array (Option Value)),
    K.lookup f = some ⟨oc, od, .func (PySem.W.fnOf x x (defArgs s) (defBody s) (defScope s) .none kV doc pm an (.ref c0) ct), osl⟩ ∧ PySem.W.codeIn K (.ref c0) x = true ∧ PySem.W.keepIn K (.ref f) = true ∧ mg x = some (.ref f) ∧ Binds K (PySem.W.fnOf x x (defArgs s) (defBody s) (defScope s) .none kV doc pm an (.ref c0) ct) ps []
section
variable {P : Program} {w : World} {K : PySem.W.Frag} {mg : Str → Option Value} {base : Heap}
/-- fn_ok where the code object is known -/
theorem fn_okC {x qual : Str} {st : Stmt} {f : Addr} {N ps : List Str} {kk : Nat} {F : Pd} {oc : Value} {od : Option Addr} {kV doc pm cdv : Value} {an : Option Addr} {ct : Value} {osl : Array (Option Value)}
    (lk : K.lookup f = some ⟨oc, od, .func (PySem.W.fnOf x qual (defArgs st) (defBody st) (defScope st) .none kV doc pm an cdv ct), osl⟩) (hcd : PySem.W.codeIn K cdv qual = true) (S : FnScope N ps (defScope st))
    (len : ∀ m ss s k xk, F m ss s k xk → ss.length = ps.length)
    (body : ∀ (X : Cx) (c : Cz), (∃ A outer s H E, X = cxOf (L2.CX P w) P w K mg base N qual (defScope st) f cdv A outer s H E) → Room kk X.A → Takes X c.W → PassesOwn (model X.prog X.w) X.A X.env X.xe → ∀ ss s k, F c.m ss s k c.xk → DB X c (defBody st) (startD N ss) s ⟨fun _ s' => k (.dat .none) s', k, fun _ _ => False, fun _ _ => False⟩) :
    FnOk P w K mg base (L2.CX P w) (kk + 1) f (PySem.W.fnOf x qual (defArgs st) (defBody st) (defScope st) .none kV doc pm an cdv ct) ps (spD K F) := by
  refine fn_of lk hcd S (fun vs H Q E h => ?_) fun A outer s H vs Q E hr h => ?_
  · obtain ⟨m, ss, s, k, xk, _, hl, _, hF, _⟩ := h
    rw [hl]
    exact len _ _ _ _ _ hF
  · obtain ⟨m, ss, s0, k, xk, hok, hl, hargs, hF, hq, hE⟩ := h
    refine ⟨WB _ (defBody st), pss_w, ?_⟩
    have e0 : (L2.start N vs).zip (startD N ss) = argEnts vs ss ++ List.replicate (N.length - ss.length) (none, Slot.any) := by
      unfold L2.start startD
      rw [hl]
      exact zip_start (N := N) hl
    have no : ∀ y ∈ (L2.start N vs).zip (startD N ss), ownP y = none := fun y hy => by
      rw [e0] at hy
      rcases List.mem_append.mp hy with hy | hy
      · exact (hargs y hy).2
      · rw [List.eq_of_mem_replicate hy]
        rfl
    have own0 : owns ((L2.start N vs).zip (startD N ss) ++ []) = [] := by
      rw [List.append_nil]
      cases e : owns ((L2.start N vs).zip (startD N ss)) with
      | nil => rfl
      | cons p r =>
        obtain ⟨y, hy, ey⟩ := mem_owns.mp (show p ∈ owns ((L2.start N vs).zip (startD N ss)) by rw [e]; exact List.mem_cons_self)
        rw [no y hy] at ey
        cases ey
    refine body _ ⟨fun cls d _ H' => E cls d H', m, H, xk⟩ ⟨A, outer, s, H, E, rfl⟩ hr (takes_of rfl rfl rfl rfl) (passes_of rfl) ss s0 k hF [] (L2.start N vs) H _ ⟨hok, Kp.refl _ _, by rw [own0]; exact List.nodup_nil, by rw [own0]; exact fun p hp => (nomatch hp), ?_⟩ ?_ ⟨fun ρ' st' σ' H' h1 hh hl => ?_, fun _ _ _ _ h => h.elim, fun _ _ _ _ h => h.elim, fun s' st' v H' h1 ok kp b => hq _ _ _ _ h1 ok kp b⟩ ?_
    · rw [own0, List.append_nil, e0]
      intro y hy
      rcases List.mem_append.mp hy with hy | hy
      · exact (hargs y hy).1.move (fun a o n t e => ⟨fun z => z.elim n fun z => (nomatch z), e⟩) fun _ _ _ _ q => q
      · rw [List.eq_of_mem_replicate hy]
        trivial
    · unfold L2.start startD
      rw [List.length_append, List.length_append, List.length_map, List.length_replicate, List.length_replicate, hl]
    · exact hq _ _ _ _ h1 hh.ok hh.kp (show Da m.N K H' .non .none from .non)
    · exact fun ex st' d σ' H' h1 ok kp xa => hE _ _ _ _ h1 ok kp xa
theorem calC_of {x : Str} {s : Stmt} {N ps : List Str} {n : Nat} {F : Pd} {c0 : Addr} (D : DfC K mg x s ps c0) (S : FnScope N ps (defScope s)) (len : ∀ m ss s k xk, F m ss s k xk → ss.length = ps.length)
    (body : ∀ (f : Addr) (A : Around) (outer : List PySem.Env) (s1 : Shared) (H : Hp) (E : XK) (c : Cz), Room n (cxOf (L2.CX P w) P w K mg base N x (defScope s) f (.ref c0) A outer s1 H E).A → Takes (cxOf (L2.CX P w) P w K mg base N x (defScope s) f (.ref c0) A outer s1 H E) c.W →
      PassesOwn (model P w) (cxOf (L2.CX P w) P w K mg base N x (defScope s) f (.ref c0) A outer s1 H E).A (cxOf (L2.CX P w) P w K mg base N x (defScope s) f (.ref c0) A outer s1 H E).env (cxOf (L2.CX P w) P w K mg base N x (defScope s) f (.ref c0) A outer s1 H E).xe →
      ∀ ss st k, F c.m ss st k c.xk → DB (cxOf (L2.CX P w) P w K mg base N x (defScope s) f (.ref c0) A outer s1 H E) c (defBody s) (startD N ss) st ⟨fun _ s' => k (.dat .none) s', k, fun _ _ => False, fun _ _ => False⟩) : Cal P w K mg base x s ps (n + 1) F := by
  obtain ⟨f, oc, od, kV, doc, pm, an, ct, osl, lk, hcd, hkp, hm, hb⟩ := D.ex
  refine ⟨f, _, ⟨⟨oc, od, kV, doc, pm, an, .ref c0, ct, osl, rfl, lk, hcd⟩, hkp⟩, hm, hkp, hb, fn_okC lk hcd S len fun X c hX hr tk hp ss st k h => ?_⟩
  obtain ⟨A, outer, s1, H, E, rfl⟩ := hX
  exact body f A outer s1 H E c hr tk hp ss st k h
end
/-! ### the def that catches, by its facts -/
structure CauF (K : PySem.W.Frag) (mg : Str → Option Value) (sc : Stmt) (CS : Addr) : Prop where
  ex : ∃ (g : Addr) (oc : Value) (od : Option Addr) (kV doc pm cdv : Value) (an : Option Addr) (ct : Value) (osl : Array (Option Value)),
    K.lookup g = some ⟨oc, od, .func (PySem.W.fnOf "_law_caught" "_law_caught" (defArgs sc) (defBody sc) (defScope sc) .none kV doc pm an cdv ct), osl⟩ ∧ PySem.W.codeIn K cdv "_law_caught" = true ∧ PySem.W.keepIn K (.ref g) = true ∧ mg "_law_caught" = some (.ref g) ∧ Binds K (PySem.W.fnOf "_law_caught" "_law_caught" (defArgs sc) (defBody sc) (defScope sc) .none kV doc pm an cdv ct) ["work"] []
  me : mg "ShapeError" = some (.ref CS)
section
variable {X : Cx} {c : Cz} {ρ : Env} {st : c.m.St} {k : Slot → Env → c.m.St → Prop}
theorem de_caught {T : List (Addr × Str)} {sc : Stmt} {CS c0 P : Addr} {kk : Nat} {params : Arguments} {body : Expr} {scope : Scope} {p lpos pos : Pos} (F : CauF X.K X.mg sc CS)
    (Sg : FnScope ["work", "caught", "error"] ["work"] (defScope sc)) (hB : ∃ (jn : Nat) (p0 p0' p0'' p1 p2 p3 p4 p5 p6 p7 p8 p9 p10 p11 : Pos), defBody sc = [.Assign [.Name "caught" p0] (.Constant .none jn p0') p0'', .Try [.Expr (.Call (.Name "work" p1) [] [] p2) p3] [.ExceptHandler (some (.Name "ShapeError" p4)) (some "error") [.Assign [.Name "caught" p5] (.Name "error" p6) p7] p8] [] [] p9, .Return (some (.Name "caught" p10)) p11])
    (hSy : (defScope sc).names.lookup ("caught" : Str) = some .local) (hSn : (defScope sc).names.lookup ("error" : Str) = some .local) (hSw : (defScope sc).names.lookup ("work" : Str) = some .local) (hSe : (defScope sc).names.lookup ("ShapeError" : Str) = some .globalImplicit)
    (TB : TabB X.base X.mg c0 P) (hcode : X.env.code = .ref c0) (hmT : (P, X.env.qual ++ "<lambda>") ∈ T) (hu : ∀ p ∈ T, p.1 = P → p.2 = X.env.qual ++ "<lambda>") (hr : Room (kk + 2) X.A) (ht : HasTabs c.m T)
    (h : ∀ (A' : Around) (outer : List PySem.Env) (s : Shared) (H H0 : Hp) (E : XK) (f c' : Addr) (A : List Addr), Room kk (lamCx X A' outer s H E scope f c').A → Takes (lamCx X A' outer s H E scope f c') (fun cls d _ H' => E cls d H') →
      DE (lamCx X A' outer s H E scope f c') ⟨fun cls d _ H' => E cls d H', c.m.avoid A, H0, fun ex st' => PySem.W.exmOne X.K ex.cls (.ref CS) = some true ∧ ex.fs = [] ∧ k (.obj (ExV ex.cls none)) ρ st'⟩ body (ρ.map lamS) st fun _ _ st' => k (.dat .none) ρ st')
    (L : lamSB X.env.scope scope = true := by rfl) (hdef : defaultsOf params X.env = ([], []) := by rfl)
    (hbind : ∀ (q : Str) (cl : List (Str × Addr)) (pm cv ctv : Value), bindArgs (PySem.W.kla_fn "<lambda>" q params body scope cl pm cv ctv) ⟨[], []⟩ = pure [] := by intro _ _ _ _ _; rfl) (hg : Gl X "_law_caught" := by rfl) :
    DE X c (.Call (.Name "_law_caught" p) [.Lambda params body scope lpos] [] pos) ρ st k := by
  obtain ⟨g, oc, od, kV, doc, pm, cdv, an, ct, osl, lk, hcd, hkp, hm, hb⟩ := F.ex
  obtain ⟨jn, p0, p0', p0'', p1, p2, p3, p4, p5, p6, p7, p8, p9, p10, p11, eB⟩ := hB
  refine de_caughtG (CS := CS) hg hm hkp lk hcd hb Sg rfl (.inl hSw) ?_ TB hcode hmT hu hr (lamS_by L) hdef hbind ht (fun A' outer s H H0 E f c' A hr' => h A' outer s H H0 E f c' A hr' (takes_of rfl rfl rfl rfl))
  rw [eB]
  exact caught_gives (by decide) (.inl hSy) hSy hSn hSe F.me (by decide) (by decide) (by decide) (by decide) (by decide)
end
end DL

namespace DL
open PySem PySem.Spec PyProof.Rows L2 LamX
/-- an own error class over ValueError: C, of the package's base CS -/
structure ErrC (K : PySem.W.Frag) (mg : Str → Option Value) (x : Str) (C CS : Addr) : Prop where
  q : PySem.W.excIn K C [.type "ValueError", .type "Exception", .type "BaseException", .type "object"] "ValueError.__new__" = true
  mg : mg x = some (.ref C)
  kp : PySem.W.keepIn K (.ref C) = true
  sub : PySem.W.subIn K (.ref C) (.type "BaseException") = some true
  ty : PySem.W.typeIn K (.ref C) = some (.type "type")
  exm : PySem.W.exmOne K (.ref C) (.ref CS) = some true
  ic : ExcC K C
section
variable {X : Cx} {c : Cz} {e a b t : Expr} {es : List Expr} {ρ : Env} {st : c.m.St} {pos : Pos} {k : Slot → Env → c.m.St → Prop} {K : PySem.W.Frag}
theorem ds_raiseE {D : Dn c.m} {x m : Str} {C CS : Addr} {j : Nat} {p p2 pos2 : Pos} (E : ErrC X.K X.mg x C CS) (hc : X.calm = true) (tk : Takes X c.W) (h : c.xk ⟨.ref C, []⟩ st) (hg : Gl X x := by rfl) (hdb : (x == ("__debug__" : Str)) = false := by decide) :
    DS X c (.Raise (some (.Call (.Name x p) [.Constant (.str m) j p2] [] pos2)) none pos) ρ st D := ds_raise PySem.F.excBase_ValueError E.q E.mg E.kp (raises_own E.sub E.ty) hc tk h hg hdb
/-- isinstance(the kept error, its class) -/
theorem dcall_isE {x : Str} {mg : Str → Option Value} {C CS : Addr} (E : ErrC K mg x C CS) (h : k (.dat (.bool true)) ρ st) : DCall K c (rIsX K) [.obj (ExV (.ref C) none), .raw (.ref C)] ρ st k := dcall_isX E.ic (by unfold PySem.W.kitOne; rw [if_pos (by simp)]) h
theorem de_cls {x : Str} {C CS : Addr} (E : ErrC X.K X.mg x C CS) (h : k (.raw (.ref C)) ρ st) (hg : Gl X x := by rfl) (hd : (x == ("__debug__" : Str)) = false := by decide) : DE X c (.Name x pos) ρ st k := de_glob (v := .ref C) E.mg rfl h hg hd
end
/-! ### list comprehensions, their facts by rfl -/
def blkB (N : List Str) (sc scope : Scope) (own : List (Str × Nat)) : Bool :=
  decide (scope.kind = .function) && scope.names.all (fun y => decide (scope.names.lookup y.1 = some y.2)) && own.all (fun p => decide (N[p.2]? = some p.1)) &&
    scope.names.all (fun y => !decide (y.2 = .free) || decide (sc.names.lookup y.1 = some .cell) || decide (sc.names.lookup y.1 = some .free)) &&
    scope.names.all fun y => !(decide (y.2 = .local) || decide (y.2 = .cell)) || decide (y.1 ∈ own.map (·.1)) || decide (y.1 ∉ N)
theorem blk_by {N : List Str} {sc scope : Scope} {own : List (Str × Nat)} (h : blkB N sc scope own = true) : BlkOk N sc scope own := by
  unfold blkB at h
  simp only [Bool.and_eq_true, Bool.or_eq_true, Bool.not_eq_true', decide_eq_true_eq, decide_eq_false_iff_not, List.all_eq_true, Bool.or_eq_false_iff] at h
  obtain ⟨⟨⟨⟨h1, h2⟩, h3⟩, h4⟩, h5⟩ := h
  refine ⟨h1, fun y hy => h2 y hy, fun p hp => h3 p hp, fun y hy e => ?_, fun y hy e => ?_⟩
  · rcases h4 y hy with (z | z) | z
    · exact absurd e z
    · exact .inl z
    · exact .inr z
  · rcases h5 y hy with (z | z) | z
    · rcases e with e | e
      · exact absurd e z.1
      · exact absurd e z.2
    · exact .inl z
    · exact .inr z
section
variable {X : Cx} {c : Cz} {ρ : Env} {st : c.m.St} {k : Slot → Env → c.m.St → Prop} {elt iter : Expr} {ifs : List Expr} {scope : Scope} {x : Str} {xp pos : Pos}
theorem dlc (j : Nat) (hN : X.N.Nodup) (h : DI X c (.Name x xp) iter ρ st fun ds ρ1 st1 => LcT X c scope j elt ifs ρ1 st1 ds k) (hc : X.calm = true := by rfl) (hb : blkB X.N X.env.scope scope [(x, j)] = true := by rfl) (hl : ∀ s H C cl fp, (Bk X scope s H C cl fp).env.scope.names.lookup x = some .local := by intro _ _ _ _ _; rfl) (hi : X.N[j]? = some x := by rfl)
    (hs : ∀ x, foldedSetIterable iter X.env x = pure x := by intro _; rfl) : DE X c (.ListComp elt [⟨.Name x xp, iter, ifs, 0⟩] scope pos) ρ st k :=
  de_lc hc hN (blk_by hb) (fun _ _ _ _ _ => pg_name hN hi (.inl (hl _ _ _ _ _)) (.inr (hl _ _ _ _ _))) h hs
/-- .. over an owned list, by its name -/
theorem dlcV (i j : Nat) {y : Str} {yp : Pos} {p : Addr} {ds : List PyData} (hN : X.N.Nodup) (h : LcT X c scope j elt ifs ρ st ds k) (hρ : ρ[i]? = some (.own p ds) := by rfl) (hij : i ≠ j := by decide) (hi' : X.N[i]? = some y := by rfl) (hv : Vis X.env.scope y := by first | exact Or.inl rfl | exact Or.inr (Or.inl rfl) | exact Or.inr (Or.inr rfl))
    (hc : X.calm = true := by rfl) (hb : blkB X.N X.env.scope scope [(x, j)] = true := by rfl) (hl : ∀ s H C cl fp, (Bk X scope s H C cl fp).env.scope.names.lookup x = some .local := by intro _ _ _ _ _; rfl) (hi : X.N[j]? = some x := by rfl)
    (hs : ∀ x, foldedSetIterable (.Name y yp) X.env x = pure x := by intro _; rfl) (hd : (y == ("__debug__" : Str)) = false := by decide) (hcd : (y == ("__classdict__" : Str)) = false := by decide) : DE X c (.ListComp elt [⟨.Name x xp, .Name y yp, ifs, 0⟩] scope pos) ρ st k := by
  intro τ σ H Q hh hl' hk hx
  refine we_of (pe_lc (own := [(x, j)]) (te := UE X scope elt) hc hN (pi_list (pe_var hi' hv hd hcd)) (blk_by hb) (fun _ _ _ _ _ => pg_name hN hi (.inl (hl _ _ _ _ _)) (.inr (hl _ _ _ _ _))) (pts_of ifs) (fun s H C cl fp => ⟨fun pins s' σ H' Q I h => h s H C cl fp pins s' I⟩) hs) ?_
  obtain ⟨o, e1, e2, _⟩ := zip_get hl' hρ
  obtain ⟨eo, xs, e3, _⟩ := hh.all _ (List.mem_append_left _ e2)
  have eo' : o = some (V.ref p) := eo
  subst eo'
  refine ⟨.ref p, e1, p, rfl, ⟨xs, .inl (.inl e3)⟩, lc_core (E := []) (H := H) hh hl' hk h (fun D acc st H hH n => ?_) fun D acc st' H' hE => by rw [List.append_assoc] at hE; exact hE⟩
  have hρ2 : (ρ.set j .any)[i]? = some (.own p ds) := by rw [List.getElem?_set_ne (Ne.symm hij)]; exact hρ
  obtain ⟨o2, f1, f2, _⟩ := zip_get (σ := σ) (ρ := ρ.set j .any) (by rw [List.length_set]; exact hl') hρ2
  obtain ⟨_, ys, f3, f4⟩ := hH.all _ (List.mem_append_left _ (List.mem_append_left _ f2))
  refine ⟨fun hle => ⟨ys, .inl (.inl f3), by rw [f4.len]; exact hle⟩, fun d hd => ?_⟩
  obtain ⟨v, g1, g2⟩ := f4.get hd
  refine ⟨⟨ys, v, .inl (.inl f3), g1⟩, fun x H' hy => ?_⟩
  obtain ⟨rfl, hy2⟩ := hy
  have ev : x = v := Option.some.inj ((hy2 ys (.inl (.inl f3))).symm.trans g1)
  subst ev
  exact hH.put rfl ⟨x, rfl, g2⟩
theorem ds_lc (i j : Nat) {y : Str} {py spos : Pos} {D : Dn c.m} (hN : X.N.Nodup) (h : DI X c (.Name x xp) iter ρ st fun ds ρ1 st1 => LcT X c scope j elt ifs ρ1 st1 ds fun s ρ2 st2 => D.nx (ρ2.set i s) st2)
    (hsw : swapsWith (.ListComp elt [⟨.Name x xp, iter, ifs, 0⟩] scope pos) (some (.Name y py)) spos.line X.env = pure true := by rfl) (hc : X.calm = true := by rfl) (hy : X.N[i]? = some y := by rfl) (hyl : X.env.scope.names.lookup y = some .local := by rfl)
    (hb : blkB X.N X.env.scope scope [(x, j)] = true := by rfl) (hl : ∀ s H C cl fp, (Bk X scope s H C cl fp).env.scope.names.lookup x = some .local := by intro _ _ _ _ _; rfl) (hi : X.N[j]? = some x := by rfl)
    (hs : ∀ x, foldedSetIterable iter X.env x = pure x := by intro _; rfl) : DS X c (.Assign [.Name y py] (.ListComp elt [⟨.Name x xp, iter, ifs, 0⟩] scope pos) spos) ρ st D :=
  ds_asgLc hc hN hy hyl hsw (blk_by hb) (fun _ _ _ _ _ => pg_name hN hi (.inl (hl _ _ _ _ _)) (.inr (hl _ _ _ _ _))) h hs
end
section
variable {X : Cx} {c : Cz} {ρ : Env} {st : c.m.St} {e tg : Expr} {pos : Pos}
/-- targets = value, the value as data -/
theorem ds_asgD {D : Dn c.m} (h : DE X c e ρ st fun s ρ1 st1 => ∃ d, s = .dat d ∧ DG X c tg d ρ1 st1 fun ρ2 st2 => D.nx ρ2 st2) (hs : swapsWithSole [tg] e pos.line X.env = pure false := by rfl) (hw : swappedStores [tg] e X.env = pure none := by rfl) (h1 : (assignEach [tg] X.env).map (·.2) = [assign tg X.env] := by rfl) : DS X c (.Assign [tg] e pos) ρ st D := by
  intro τ σ H De hh hl hk hx
  refine ws_of (ps_asg pe_w pg_w hs hw h1) (h τ σ H _ hh hl (fun s ρ1 st1 v H1 h2 hh1 hl1 => ?_) hx)
  obtain ⟨d, rfl, q⟩ := h2
  exact q τ σ H1 _ v hh1 hl1 fun ρ2 st2 σ2 H2 h2 hh2 hl2 => hk.nx _ _ _ _ h2 hh2 hl2
end
end DL

namespace LH
open PySem PySem.Spec PyProof.Rows L2 DL
def topS (i : Nat) : Stmt := PySem.Challenge.pw_carryshapes_k00_whole_primes.main.body.getD i (.Pass ⟨0, 0, 0, 0⟩)
abbrev sBegun : Stmt := topS 18
abbrev sMixed : Stmt := topS 19
abbrev sTake : Stmt := topS 20
abbrev sPick : Stmt := topS 21
abbrev sCaught : Stmt := topS 22
abbrev sKinds : Stmt := topS 23
abbrev sSays : Stmt := topS 24
theorem scMixed : FnScope ["draw", "lap", "found", "great", "blend", "cell"] ["draw"] (defScope sMixed) := ⟨rfl, rfl, rfl, by decide +kernel, rfl, by decide +kernel, by decide +kernel⟩
theorem scTake : FnScope ["draw", "amount", "found"] ["draw", "amount"] (defScope sTake) := ⟨rfl, rfl, rfl, by decide +kernel, rfl, by decide +kernel, by decide +kernel⟩
theorem scPick : FnScope ["draw", "some"] ["draw", "some"] (defScope sPick) := ⟨rfl, rfl, rfl, by decide +kernel, rfl, by decide +kernel, by decide +kernel⟩
theorem scKinds : FnScope ["thing", "found", "line", "here", "kind", "named"] ["thing"] (defScope sKinds) := ⟨rfl, rfl, rfl, by decide +kernel, rfl, by decide +kernel, by decide +kernel⟩
theorem scSays : FnScope ["told", "due"] ["told", "due"] (defScope sSays) := ⟨rfl, rfl, rfl, by decide +kernel, rfl, by decide +kernel, by decide +kernel⟩
/-! ### kinds of plain data -/
mutual
def szD : PyData → Nat
  | .list xs => szA xs + 1
  | .tuple xs => szA xs + 1
  | .dict _ => 1
  | .none => 1
  | .bool _ => 1
  | .int _ => 1
  | .str _ => 1
def szA : List PyData → Nat
  | [] => 0
  | x :: xs => szD x + szA xs
end
theorem szA_app : ∀ xs ys : List PyData, szA (xs ++ ys) = szA xs + szA ys
  | [], ys => by simp [szA]
  | x :: xs, ys => by
    show szD x + szA (xs ++ ys) = szD x + szA xs + szA ys
    rw [szA_app xs ys, Nat.add_assoc]
theorem szD_pos (d : PyData) : 0 < szD d := by cases d <;> simp [szD]
def kidsD : PyData → List PyData
  | .list xs => xs
  | .tuple xs => xs
  | _ => []
theorem sz_kids (d : PyData) : szD d = szA (kidsD d) + 1 := by cases d <;> simp [szD, kidsD, szA]
def kindD (d : PyData) : Str := if ofTuple d then "tuple" else if ofList d then "list" else if ofDict d then "dict" else if ofBool d then "bool" else "other"
def kindsL : Nat → List PyData → List PyData → List PyData
  | 0, _, f => f
  | n + 1, line, f => match line.getLast? with
    | some h => kindsL n (line.dropLast ++ kidsD h) (f ++ [.str (kindD h)])
    | none => f
/-- what the reading of kinds may walk through -/
def okD (d : PyData) : Prop := d.canLay0 = true ∧ d.depth ≤ 60
theorem canAll_iff : ∀ {xs : List PyData}, PyData.canLayAll0 xs = true ↔ ∀ x ∈ xs, x.canLay0 = true
  | [] => by simp [PyData.canLayAll0]
  | x :: xs => by rw [PyData.canLayAll0, Bool.and_eq_true, canAll_iff]; simp
theorem depthAll_le : ∀ {xs : List PyData} {n : Nat}, PyData.depthAll xs ≤ n ↔ ∀ x ∈ xs, x.depth ≤ n
  | [], n => by simp [PyData.depthAll]
  | x :: xs, n => by rw [PyData.depthAll, Nat.max_le, depthAll_le]; simp
theorem ok_kids {d : PyData} (h : okD d) : ∀ x ∈ kidsD d, okD x := by
  obtain ⟨h1, h2⟩ := h
  cases d with
  | list xs =>
    rw [PyData.canLay0] at h1
    rw [PyData.depth] at h2
    exact fun x hx => ⟨canAll_iff.mp h1 x hx, depthAll_le.mp (show PyData.depthAll xs ≤ 60 by omega) x hx⟩
  | tuple xs =>
    rw [PyData.canLay0] at h1
    rw [PyData.depth] at h2
    exact fun x hx => ⟨canAll_iff.mp h1 x hx, depthAll_le.mp (show PyData.depthAll xs ≤ 60 by omega) x hx⟩
  | _ => exact fun x hx => (nomatch hx)
theorem shaped_list {xs : List PyData} (h : ∀ x ∈ xs, okD x) : SeqAt.shaped (.list xs) = true := by
  unfold SeqAt.shaped
  rw [Bool.and_eq_true]
  refine ⟨by rw [PyData.canLay0]; exact canAll_iff.mpr fun x hx => (h x hx).1, decide_eq_true ?_⟩
  rw [PyData.depth]
  have := depthAll_le.mpr fun x hx => (h x hx).2
  omega
theorem shaped_ok {d : PyData} (h : okD d) : SeqAt.shaped d = true := by
  unfold SeqAt.shaped
  rw [Bool.and_eq_true]
  exact ⟨h.1, decide_eq_true (by have := h.2; omega)⟩
theorem kind_in (d : PyData) : inD (.str (kindD d)) [.str "tuple", .str "list"] = (ofTuple d || ofList d) := by cases d <;> rfl
theorem kind_dict (d : PyData) : decide (V.str (kindD d) = V.str "dict") = ofDict d := by cases d <;> first | exact decide_eq_true rfl | exact decide_eq_false (by intro z; cases z)
theorem ok_kind (d : PyData) : okD (.str (kindD d)) := ⟨by cases d <;> first | (show PyData.strOk (Str.ofString "tuple") = true; decide +kernel) | (show PyData.strOk (Str.ofString "list") = true; decide +kernel) | (show PyData.strOk (Str.ofString "dict") = true; decide +kernel) | (show PyData.strOk (Str.ofString "bool") = true; decide +kernel) | (show PyData.strOk (Str.ofString "other") = true; decide +kernel), by simp [PyData.depth]⟩
theorem no_dict {d : PyData} (h : okD d) : ofDict d = false := by
  cases d with
  | dict _ => have := h.1; simp [PyData.canLay0] at this
  | _ => rfl
mutual
theorem eqv_can : ∀ d : PyData, d.canLay0 = true → PyData.eqv d d = true
  | .none, _ => rfl
  | .bool b, _ => by rw [PyData.eqv]; exact beq_self_eq_true b
  | .int i, _ => by rw [PyData.eqv]; exact beq_self_eq_true i
  | .str x, _ => by rw [PyData.eqv]; exact beq_self_eq_true x
  | .list xs, h => by rw [PyData.eqv]; exact eqvA_can xs (by simpa [PyData.canLay0] using h)
  | .tuple xs, h => by rw [PyData.eqv]; exact eqvA_can xs (by simpa [PyData.canLay0] using h)
  | .dict _, h => by simp [PyData.canLay0] at h
theorem eqvA_can : ∀ xs : List PyData, PyData.canLayAll0 xs = true → PyData.eqvAll xs xs = true
  | [], _ => rfl
  | x :: xs, h => by
    rw [PyData.canLayAll0, Bool.and_eq_true] at h
    rw [PyData.eqvAll, eqv_can x h.1, eqvA_can xs h.2]
    rfl
end
theorem eqv_same {d : PyData} (h : okD d) : PyData.eqv d d = true := eqv_can d h.1
theorem kids_seq {d : PyData} (h : (ofTuple d || ofList d) = true) : SeqD d (kidsD d) := by
  cases d with
  | list xs => exact .lst xs
  | tuple xs => exact .tup xs
  | _ => cases h
theorem kids_no {d : PyData} (h : (ofTuple d || ofList d) = false) : kidsD d = [] := by cases d <;> first | rfl | cases h
theorem kindsL_ok : ∀ (n : Nat) (l f : List PyData), (∀ x ∈ f, okD x) → ∀ x ∈ kindsL n l f, okD x
  | 0, _, f, h => h
  | n + 1, l, f, h => by
    unfold kindsL
    cases l.getLast? with
    | none => exact h
    | some d => exact kindsL_ok n _ _ fun x hx => (List.mem_append.mp hx).elim (h x) fun hx => by rw [List.mem_singleton.mp hx]; exact ok_kind d
theorem kinds_step {n : Nat} {l f : List PyData} {d : PyData} : kindsL (n + 1) (l ++ [d]) f = kindsL n (l ++ kidsD d) (f ++ [.str (kindD d)]) := by
  rw [kindsL, List.getLast?_append]
  simp
section
variable {P : Program} {w : World} {K : PySem.W.Frag} {mg : Str → Option Value} {base : Heap}
def fMixed : Pd := fun m ss st k xk => ∃ (dr la ca : Addr) (cs : List Int) (hd : HasDraw m dr la ca cs), ss = [.raw (.ref dr)] ∧ ∀ (z : Int) (st' : m.St), k (.dat (.int z)) st'
theorem ok_mixed (D : Df K mg "_law_mixed" sMixed ["draw"]) (m1 : mg "int" = none) : Cal P w K mg base "_law_mixed" sMixed ["draw"] 1 fMixed := by
  refine cal_of D scMixed (by rintro _ _ _ _ _ ⟨_, _, _, _, _, rfl, _⟩; rfl) fun f cdv A outer s1 H E c hr tk hp ss st k h => ?_
  obtain ⟨dr, la, ca, cs, hd, rfl, h⟩ := h
  have hu := hr.units
  refine db_cons (dr_put (upd' := fun d z => { d with turn := z }) hd (by omega) (fun d z => ⟨put_turn, rfl⟩) (i := 0) <| de_bin op_add <| dr_get hd (by omega) (i := 0) rfl val_turn (.inl ⟨_, rfl, rfl⟩) <| de_int <| dop_I0 rfl ⟨_, rfl, rfl, ?_⟩)
  refine db_cons (dpar 1 2 scMixed.nd (by rfl) <| de_callTy call_int1 (by rfl) m1 boot_int <| da_cons <| dr_get hd (by omega) (i := 0) rfl val_turn (.inl ⟨_, rfl, rfl⟩) <| da_nil <| dcall_int <| de_int ?_)
  refine db_cons (ds_for hp rfl <| di_list <| de_lst <| da_cons <| de_int <| da_cons <| de_int <| da_cons <| de_int <| da_nil ?_)
  refine ⟨_, .dat (.dat (.dat .nil)), by decide, fun p => .inr ⟨p, _, rfl, fun i ρ st' => ∃ (l z : Int) (s3 s4 s5 : Slot), ρ = [.raw (.ref dr), .dat (.int l), .dat (.int z), s3, s4, s5], ⟨_, _, _, _, _, rfl⟩, ?_, ?_⟩⟩
  · rintro i d ρ st' hi ⟨l, z, s3, s4, s5, rfl⟩
    obtain ⟨g, rfl, hg1, hg2⟩ : ∃ g : Int, d = .int g ∧ 0 < g ∧ g < 2 ^ 32 := by
      match i, hi with
      | 0, hi => cases hi; exact ⟨_, rfl, by decide, by decide⟩
      | 1, hi => cases hi; exact ⟨_, rfl, by decide, by decide⟩
      | 2, hi => cases hi; exact ⟨_, rfl, by decide, by decide⟩
      | n + 3, hi => simp at hi
    refine dgn 3 scMixed.nd ?_
    refine db_cons (dset 4 scMixed.nd <| de_bin op_mod <| de_bin op_add <| de_bin op_mul <| dv 1 <| de_int <| dop_I rfl (.inr (by decide)) <| de_bin op_fdiv <| dv 3 <| de_int <| dop_I rfl ⟨by decide, by decide⟩ <| dop_I0 rfl <| dv 3 <| dop_I rfl hg1 ?_)
    refine db_cons (ds_for hp rfl <| di_cells hd <| dr_get hd (by omega) (i := 0) rfl val_cells (.inr rfl) ⟨rfl, fun i ρ st' => ∃ (b : Int) (s5 : Slot), 0 ≤ b ∧ b < g ∧ ρ = [.raw (.ref dr), .dat (.int l), .dat (.int z), .dat (.int g), .dat (.int b), s5], ⟨_, _, Int.emod_nonneg _ (by omega), Int.emod_lt_of_pos _ hg1, rfl⟩, ?_, ?_⟩)
    · rintro i d ρ st' hi ⟨b, s5, hb1, hb2, rfl⟩
      obtain ⟨x, rfl⟩ : ∃ x : Int, d = .int x := by
        rw [List.getElem?_map] at hi
        cases e : cs[i]? with
        | none => rw [e] at hi; cases hi
        | some x => rw [e] at hi; cases hi; exact ⟨x, rfl⟩
      refine dgn 5 scMixed.nd ?_
      refine db_one (dset 4 scMixed.nd <| de_bin op_mod <| de_bin op_add <| de_bin op_add <| de_bin op_mul <| dv 4 <| de_int <| dop_I rfl (.inr (by decide)) <| de_callTy call_int1 (by rfl) m1 boot_int <| da_cons <| dv 5 <| da_nil <| dcall_int <| dop_I0 rfl <| dv 1 <| dop_I0 rfl <| dv 3 <| dop_I rfl hg1 ?_)
      exact ⟨_, _, Int.emod_nonneg _ (by omega), Int.emod_lt_of_pos _ hg1, rfl⟩
    · rintro ρ st' ⟨b, s5, hb1, hb2, rfl⟩
      refine db_one (dset 2 scMixed.nd <| de_bin op_add <| de_bin op_mul <| dv 2 <| de_int <| dop_I rfl (.inr (by decide)) <| de_bin op_mod <| de_bin op_pow <| dv 4 <| de_int <| dop_I rfl ?_ <| dv 3 <| dop_I rfl hg1 <| dop_I0 rfl ?_)
      · exact ⟨by decide, by decide, by show b.natAbs < 2 ^ 64; omega⟩
      · exact ⟨_, _, _, _, _, rfl⟩
  · rintro ρ st' ⟨l, z, s3, s4, s5, rfl⟩
    exact db_one (ds_ret <| dv 2 ⟨_, .dat _, h _ _⟩)
def fTake : Pd := fun m ss st k xk => ∃ (dr la ca : Addr) (cs : List Int) (hd : HasDraw m dr la ca cs) (n : Int), ss = [.raw (.ref dr), .dat (.int n)] ∧ 0 < n ∧ n < 2 ^ 60 ∧ ∀ (i : Int) (st' : m.St), 0 ≤ i → i < n → k (.dat (.int i)) st'
theorem ok_take (D : Df K mg "_law_take" sTake ["draw", "amount"]) (C1 : Cal P w K mg base "_law_mixed" sMixed ["draw"] 1 fMixed) (m1 : mg "int" = none) : Cal P w K mg base "_law_take" sTake ["draw", "amount"] 2 fTake := by
  refine cal_of D scTake (by rintro _ _ _ _ _ ⟨_, _, _, _, _, _, rfl, _⟩; rfl) fun f cdv A outer s1 H E c hr tk hp ss st k h => ?_
  obtain ⟨dr, la, ca, cs, hd, n, rfl, h0, h60, h⟩ := h
  have hu := hr.units
  have rest : ∀ st, DB (cxOf (L2.CX P w) P w K mg base ["draw", "amount", "found"] "_law_take" (defScope sTake) f cdv A outer s1 H E) c ((defBody sTake).drop 1) [.raw (.ref dr), .dat (.int n), .any] st ⟨fun _ s' => k (.dat .none) s', k, fun _ _ => False, fun _ _ => False⟩ := fun st => by
    refine db_cons (dset 2 scTake.nd <| de_bin op_mod <| de_callTy call_int1 (by rfl) m1 boot_int <| da_cons <| dr_get hd (by omega) (i := 0) rfl val_rest (.inl ⟨_, rfl, rfl⟩) <| da_nil <| dcall_int <| dv 1 <| dop_I rfl h0 ?_)
    refine db_cons (dr_put (upd' := fun d z => { d with rest := z }) hd (by omega) (fun d z => ⟨put_rest, rfl⟩) (i := 0) <| de_bin op_fdivW <| de_callTy call_int1 (by rfl) m1 boot_int <| da_cons <| dr_get hd (by omega) (i := 0) rfl val_rest (.inl ⟨_, rfl, rfl⟩) <| da_nil <| dcall_int <| dv 1 <| dop_I rfl ?_ ⟨_, rfl, rfl, ?_⟩)
    · exact wide_div (b := 60) h0 (by omega) (by decide) (by decide)
    · exact db_one (ds_ret <| dv 2 ⟨_, .dat _, h _ _ (Int.emod_nonneg _ (by omega)) (Int.emod_lt_of_pos _ h0)⟩)
  refine db_cons (ds_if <| dt_cmp op_eq (nomark _) <| dr_get hd (by omega) (i := 0) rfl val_rest (.inl ⟨_, rfl, rfl⟩) <| de_int <| dop_eq (x := .int _) (y := .int _) rfl rfl rfl ⟨_, rfl, fun _ => ?_, fun _ => db_nil (rest _)⟩)
  refine db_one (dr_put (upd' := fun d z => { d with rest := z }) hd (by omega) (fun d z => ⟨put_rest, rfl⟩) (i := 0) <| de_if <| dt_cmp (op_neD hr.units) (nomark _) <| dr_get hd (by omega) (i := 0) rfl val_large (.inr rfl) <| de_lst <| da_nil ⟨_, .nil, by decide, fun p => dop_large hd ⟨_, rfl, fun e => ?_, fun _ => ?_⟩⟩)
  · cases eL : (hd.get st).large with
    | nil => rw [eL] at e; cases e
    | cons x r => exact dr_pop hd (by omega) rfl eL ⟨_, rfl, rfl, rest _⟩ (i := 0)
  · exact dc_call C1 hr tk <| da_cons <| dv 0 <| da_nil fun A => ⟨dr, la, ca, cs, hd.avoid A, rfl, fun z st' => ⟨_, rfl, rfl, rest _⟩⟩
def fPick : Pd := fun m ss st k xk => ∃ (dr la ca : Addr) (cs : List Int) (hd : HasDraw m dr la ca cs) (ds : List PyData), ss = [.raw (.ref dr), .dat (.list ds)] ∧ 0 < ds.length ∧ ds.length < 2 ^ 30 ∧ ∀ d ∈ ds, ∀ st' : m.St, k (.dat d) st'
theorem ok_pick (D : Df K mg "_law_pick" sPick ["draw", "some"]) (C1 : Cal P w K mg base "_law_take" sTake ["draw", "amount"] 2 fTake) (m1 : mg "len" = none) : Cal P w K mg base "_law_pick" sPick ["draw", "some"] 3 fPick := by
  refine cal_of D scPick (by rintro _ _ _ _ _ ⟨_, _, _, _, _, _, rfl, _⟩; rfl) fun f cdv A outer s1 H E c hr tk hp ss st k h => ?_
  obtain ⟨dr, la, ca, cs, hd, ds, rfl, h0, h60, h⟩ := h
  refine db_one (ds_ret <| de_ix ix_list <| dv 1 <| dc_call C1 hr tk <| da_cons <| dv 0 <| da_cons <| de_callB call_len_seq (by rfl) m1 boot_len <| da_cons <| dv 1 <| da_nil <| dcall_len (.dat _) (.lst _) <| da_nil fun A => ⟨dr, la, ca, cs, hd.avoid A, _, rfl, ?_, ?_, fun i st' h1 h2 => ?_⟩)
  · omega
  · omega
  have hlt : i.toNat < ds.length := by omega
  have e1 : L2.atI ds i = some ds[i.toNat] := by
    have := atI_nat (xs := ds) (j := i.toNat) (v := ds[i.toNat]) (List.getElem?_eq_getElem hlt)
    rw [show ((i.toNat : Nat) : Int) = i by omega] at this
    exact this
  exact dop_ixL (.dat _) e1 ⟨_, .dat _, h _ (List.getElem_mem hlt) _⟩
def fKinds : Pd := fun m ss st k xk => ∃ d, ss = [.dat d] ∧ okD d ∧ szD d ≤ 100000 ∧ k (.dat (.list (kindsL (szD d) [d] []))) st
theorem ok_kinds (D : Df K mg "_law_kinds" sKinds ["thing"]) (m1 : mg "isinstance" = none) (m2 : mg "tuple" = none) (m3 : mg "list" = none) (m4 : mg "dict" = none) (m5 : mg "bool" = none) : Cal P w K mg base "_law_kinds" sKinds ["thing"] 1 fKinds := by
  refine cal_of D scKinds (by rintro _ _ _ _ _ ⟨_, rfl, _⟩; rfl) fun f cdv A outer s1 H E c hr tk hp ss st k h => ?_
  obtain ⟨d, rfl, hok, hsz, h⟩ := h
  refine db_cons (dpar 1 2 scKinds.nd (by rfl) <| de_lst <| da_nil ⟨_, .nil, by decide, fun pf => de_lst <| da_cons <| dv 0 <| da_nil ⟨_, .dat .nil, by simp, fun pl => ?_⟩⟩)
  refine db_cons (ds_while hp (fun N ρ s => ∃ (pf pl : Addr) (fd line : List PyData) (s3 s4 s5 : Slot), ρ = [.dat d, .own pf fd, .own pl line, s3, s4, s5] ∧ st = s ∧ N = szA line ∧ (∀ x ∈ line, okD x) ∧ fd.length + szA line ≤ 100000 ∧ line.length ≤ szA line ∧ kindsL (szA line) line fd = kindsL (szD d) [d] []) (szD d) ⟨pf, pl, [], [d], _, _, _, rfl, rfl, by simp [szA], by simpa using hok, by simpa [szA] using hsz, by have := szD_pos d; simp [szA]; omega, by simp [szA]⟩ ?_)
  rintro N ρ s ⟨pf, pl, fd, line, s3, s4, s5, rfl, rfl, rfl, hl, hb, hll, hk⟩
  refine dt_cmp (op_neD hr.units) (nomark _) <| dv 2 <| de_lst <| da_nil ⟨_, .nil, by decide, fun p0 => dop_neD (.ref pl line 2 rfl) (.own p0 []) (shaped_list hl) (by decide) ⟨_, rfl, fun e => ?_, fun e => ?_⟩⟩
  · have hne : line ≠ [] := fun z => by subst z; cases e
    obtain ⟨l, hd, rfl⟩ : ∃ l hd, line = l ++ [hd] := ⟨_, _, (List.dropLast_concat_getLast hne).symm⟩
    have hsz2 : szA (l ++ [hd]) = szA (l ++ kidsD hd) + 1 := by
      rw [szA_app, szA_app]
      have : szA [hd] = szD hd := by simp [szA]
      rw [this, sz_kids hd]
      omega
    have hd1 : okD hd := hl hd (by simp)
    have lenA : ∀ xs : List PyData, xs.length ≤ szA xs := by
      intro xs
      induction xs with
      | nil => simp [szA]
      | cons x xs ih => have := szD_pos x; rw [List.length_cons, szA]; omega
    refine db_cons (dset 3 scKinds.nd <| de_pop (i := 2) (d := hd) (ds := l) rfl rfl (.inl rfl) ?_)
    refine db_cons (dset 4 scKinds.nd <| de_imp (k' := fun s ρ' st' => s = .dat (.str (kindD hd)) ∧ ρ' = [.dat d, .own pf fd, .own pl l, .dat hd, s4, s5] ∧ st = st') ?_ ?_)
    · refine de_if <| dt_val <| de_callB call_isi (by rfl) m1 boot_isinstance <| da_cons <| dv 3 <| da_cons <| de_bltn (v := .ty "tuple") m2 boot_tuple rfl <| da_nil <| dcall_isi (kit_tuple hd) ⟨_, rfl, fun e1 => de_str ⟨by unfold kindD; rw [if_pos e1], rfl, rfl⟩, fun e1 => de_if <| dt_val <| de_callB call_isi (by rfl) m1 boot_isinstance <| da_cons <| dv 3 <| da_cons <| de_bltn (v := .ty "list") m3 boot_list rfl <| da_nil <| dcall_isi (kit_list hd) ⟨_, rfl, fun e2 => de_str ⟨by unfold kindD; simp [e1, e2], rfl, rfl⟩, fun e2 =>
      de_if <| dt_val <| de_callB call_isi (by rfl) m1 boot_isinstance <| da_cons <| dv 3 <| da_cons <| de_bltn (v := .ty "dict") m4 boot_dict rfl <| da_nil <| dcall_isi (kit_dict hd) ⟨_, rfl, fun e3 => de_str ⟨by unfold kindD; simp [e1, e2, e3], rfl, rfl⟩, fun e3 => de_if <| dt_val <| de_callB call_isi (by rfl) m1 boot_isinstance <| da_cons <| dv 3 <| da_cons <| de_bltn (v := .ty "bool") m5 boot_bool rfl <| da_nil <| dcall_isi (kit_bool hd) ⟨_, rfl, fun e4 => de_str ⟨by unfold kindD; simp [e1, e2, e3, e4], rfl, rfl⟩, fun e4 => de_str ⟨by unfold kindD; simp [e1, e2, e3, e4], rfl, rfl⟩⟩⟩⟩⟩
    · rintro _ _ _ ⟨rfl, rfl, rfl⟩
      refine db_cons (ds_append (i := 1) rfl (.inl rfl) rfl <| dv 4 ⟨_, _, .dat .nil, rfl, ?_, ?_⟩)
      · have := szD_pos hd
        rw [hsz2] at hb
        omega
      have fin : ∀ (pl' : Addr), ∃ n', n' < szA (l ++ [hd]) ∧ ∃ (pf' pl2 : Addr) (fd' line : List PyData) (s3 s4 s5' : DL.Slot), [DL.Slot.dat d, .own pf (fd ++ [.str (kindD hd)]), .own pl' (l ++ kidsD hd), .dat hd, .dat (.str (kindD hd)), s5] = [DL.Slot.dat d, .own pf' fd', .own pl2 line, s3, s4, s5'] ∧ st = st ∧ n' = szA line ∧ (∀ x ∈ line, okD x) ∧ fd'.length + szA line ≤ 100000 ∧ line.length ≤ szA line ∧ kindsL (szA line) line fd' = kindsL (szD d) [d] [] := fun pl' => by
        refine ⟨szA (l ++ kidsD hd), by omega, pf, pl', _, _, _, _, _, rfl, rfl, rfl, fun x hx => ?_, ?_, lenA _, ?_⟩
        · rcases List.mem_append.mp hx with hx | hx
          · exact hl x (List.mem_append_left _ hx)
          · exact ok_kids hd1 x hx
        · rw [List.length_append, List.length_singleton]
          rw [hsz2] at hb
          omega
        · rw [← hk, hsz2, kinds_step]
      have two : ∀ (pl' : Addr), DB (cxOf (L2.CX P w) P w K mg base ["thing", "found", "line", "here", "kind", "named"] "_law_kinds" (defScope sKinds) f cdv A outer s1 H E) c
          (match (defBody sKinds).getD 1 (.Pass ⟨0, 0, 0, 0⟩) with | .While _ b _ _ => b.drop 4 | _ => []) [.dat d, .own pf (fd ++ [.str (kindD hd)]), .own pl' (l ++ kidsD hd), .dat hd, .dat (.str (kindD hd)), s5] st
          ⟨fun ρ3 st3 => ∃ n', n' < szA (l ++ [hd]) ∧ ∃ (pf pl : Addr) (fd line : List PyData) (s3 s4 s5 : DL.Slot), ρ3 = [.dat d, .own pf fd, .own pl line, s3, s4, s5] ∧ st = st3 ∧ n' = szA line ∧ (∀ x ∈ line, okD x) ∧ fd.length + szA line ≤ 100000 ∧ line.length ≤ szA line ∧ kindsL (szA line) line fd = kindsL (szD d) [d] [], k,
            fun ρ1 st1 => DB (cxOf (L2.CX P w) P w K mg base ["thing", "found", "line", "here", "kind", "named"] "_law_kinds" (defScope sKinds) f cdv A outer s1 H E) c ((defBody sKinds).drop 2) ρ1 st1 ⟨fun _ s' => k (.dat .none) s', k, fun _ _ => False, fun _ _ => False⟩,
            fun ρ3 st3 => ∃ n', n' < szA (l ++ [hd]) ∧ ∃ (pf pl : Addr) (fd line : List PyData) (s3 s4 s5 : DL.Slot), ρ3 = [.dat d, .own pf fd, .own pl line, s3, s4, s5] ∧ st = st3 ∧ n' = szA line ∧ (∀ x ∈ line, okD x) ∧ fd.length + szA line ≤ 100000 ∧ line.length ≤ szA line ∧ kindsL (szA line) line fd = kindsL (szD d) [d] []⟩ := fun pl' => by
        refine db_one (ds_if <| dt_cmp op_eq (nomark _) <| dv 4 <| de_str <| dop_eq (x := .str _) (y := .str _) rfl rfl rfl ⟨_, rfl, fun e => ?_, fun e => db_nil (fin pl')⟩)
        rw [kind_dict, no_dict hd1] at e
        cases e
      refine db_cons (ds_if <| dt_cmp op_in_seq (by rfl) <| dv 4 <| de_lst <| da_cons <| de_str <| da_cons <| de_str <| da_nil ⟨_, .dat (.dat .nil), by simp, fun p1 => dop_in (.own p1 _) (.lst _) rfl rfl ⟨_, rfl, fun e => ?_, fun e => ?_⟩⟩)
      · have e' : (ofTuple hd || ofList hd) = true := by rw [← kind_in]; exact e
        refine db_one (dset 2 scKinds.nd <| de_bin (op_cat) <| dv 2 <| de_callTy call_list_of (by rfl) m3 boot_list <| da_cons <| dv 3 <| da_nil <| dcall_list (.dat _) (kids_seq e') fun p2 => dop_cat (.ref pl l 2 rfl) (.own p2 _) ?_ fun p3 => two p3)
        have := lenA (l ++ kidsD hd)
        rw [List.length_append] at this
        omega
      · have e' : (ofTuple hd || ofList hd) = false := by rw [← kind_in]; exact e
        have h2 := two pl
        rw [kids_no e', List.append_nil] at h2
        exact db_nil h2
  · have hl0 : line = [] := by
      cases line with
      | nil => rfl
      | cons x xs => cases e
    subst hl0
    refine db_one (ds_ret <| dv 1 ⟨_, .vlst pf fd 1 rfl, ?_⟩)
    have : fd = kindsL (szD d) [d] [] := by rw [← hk]; rfl
    rw [this]
    exact h
def fSays : Pd := fun m ss st k xk => ∃ d, ss = [.dat d, .dat d] ∧ okD d ∧ szD d ≤ 100000 ∧ k (.dat (.bool true)) st
theorem ok_says (D : Df K mg "_law_says" sSays ["told", "due"]) (C1 : Cal P w K mg base "_law_kinds" sKinds ["thing"] 1 fKinds) : Cal P w K mg base "_law_says" sSays ["told", "due"] 2 fSays := by
  refine cal_of D scSays (by rintro _ _ _ _ _ ⟨_, rfl, _⟩; rfl) fun f cdv A outer s1 H E c hr tk hp ss st k h => ?_
  obtain ⟨d, rfl, hok, hsz, h⟩ := h
  have kR : ∀ x ∈ kindsL (szD d) [d] [], okD x := kindsL_ok _ _ _ (by simp)
  have oR : okD (.list (kindsL (szD d) [d] [])) ∨ True := .inr trivial
  refine db_one (ds_ret <| de_and <| de_cmp (op_eqD hr.units) (nomark _) <| dv 0 <| dv 1 <| dop_eqD (.dat d) (.dat d) (shaped_ok hok) (shaped_ok hok) ⟨_, rfl, fun _ => ?_, fun e => ?_⟩)
  · refine de_one <| de_cmp (op_eqD hr.units) (nomark _) <| dc_call C1 hr tk <| da_cons <| dv 0 <| da_nil fun A => ⟨d, rfl, hok, hsz, ?_⟩
    refine dc_call C1 hr tk <| da_cons <| dv 1 <| da_nil fun A => ⟨d, rfl, hok, hsz, ?_⟩
    refine dop_eqD (.dat _) (.dat _) (shaped_list kR) (shaped_list kR) ⟨_, .dat _, ?_⟩
    have e : PyData.eqv (.list (kindsL (szD d) [d] [])) (.list (kindsL (szD d) [d] [])) = true := eqv_can _ (by rw [PyData.canLay0]; exact canAll_iff.mpr fun x hx => (kR x hx).1)
    rw [e]
    exact h
  · rw [eqv_same hok] at e
    cases e
end
end LH

namespace LH
open PySem PySem.Spec PyProof.Rows L2 DL LamX
theorem scBegun : FnScope ["script", "large", "cell"] ["script"] (defScope sBegun) := ⟨rfl, rfl, rfl, by decide +kernel, rfl, by decide +kernel, by decide +kernel⟩
/-! ### the memories: at the beginning, of a law -/
def mB (Ts : List Addr) : Mem where
  M := fun _ => False
  N := fun _ => False
  sub := fun _ h => h
  St := Unit
  ok := fun K _ H => ∀ p ∈ Ts, H p = some (.tbl #[])
  dom := fun _ n => n.elim
  stab := fun h _ k p hp => k p _ (fun _ z => nomatch z) (h p hp)
theorem tabs_keep {T : List (Addr × Str)} {H H' : Hp} (t : Tabs T H) (k : ∀ b o, (∀ xs, o ≠ HO.lst xs) → (∀ kvs, o ≠ HO.dK kvs) → H b = some o → H' b = some o) : Tabs T H' := fun p hp => by
  obtain ⟨ps, h1, h2, h3⟩ := t p hp
  refine ⟨ps, k _ _ (fun _ z => nomatch z) (fun _ z => nomatch z) h1, h2, fun pos cv hc => ?_⟩
  obtain ⟨c, e1, e2⟩ := h3 pos cv hc
  exact ⟨c, e1, k _ _ (fun _ z => nomatch z) (fun _ z => nomatch z) e2⟩
def mL (T : List (Addr × Str)) (dr la ca : Addr) (cs : List Int) : Mem where
  M := fun x => x = dr ∨ x = la
  N := fun x => x = dr ∨ x = la ∨ x = ca
  sub := fun _ h => h.elim .inl fun h => .inr (.inl h)
  St := Dr
  ok := fun K d H => DrawAt H dr la ca cs d ∧ Tabs T H
  dom := fun h n => by
    rcases n with rfl | rfl | rfl
    · rw [h.1.h1]; exact fun z => nomatch z
    · rw [h.1.h2]; exact fun z => nomatch z
    · rw [h.1.h3]; exact fun z => nomatch z
  stab := fun h k k2 => ⟨⟨by rw [k _ (.inl rfl)]; exact h.1.h1, by rw [k _ (.inr (.inl rfl))]; exact h.1.h2, by rw [k _ (.inr (.inr rfl))]; exact h.1.h3, h.1.h4⟩, tabs_keep h.2 fun b o n1 _ e => k2 b o n1 e⟩
def hdL {T : List (Addr × Str)} {dr la ca : Addr} {cs : List Int} : HasDraw (mL T dr la ca cs) dr la ca cs where
  get := id
  put := fun _ d => d
  gp := fun _ _ => rfl
  rd := fun h => h.1
  wr := fun h k y => ⟨y, tabs_keep h.2 fun b o n1 n2 e => by
    rw [k b (fun z => by rw [z, h.1.h1] at e; exact n2 _ (Option.some.inj e).symm) (fun z => by rw [z, h.1.h2] at e; exact n1 _ (Option.some.inj e).symm)]
    exact e⟩
  mdr := .inl rfl
  mla := .inr rfl
theorem htL {T : List (Addr × Str)} {dr la ca : Addr} {cs : List Int} : HasTabs (mL T dr la ca cs) T where
  rd := fun h => h.2
  wr := fun h e t => ⟨⟨e _ _ h.1.h1 (fun _ z => nomatch z), e _ _ h.1.h2 (fun _ z => nomatch z), e _ _ h.1.h3 (fun _ z => nomatch z), h.1.h4⟩, t⟩
theorem da_ints {N : Addr → Prop} {K : PySem.W.Frag} {H : Hp} : ∀ {l : List Int} {xs : List V}, DaAll N K H xs (l.map PyData.int) → xs = l.map V.int
  | [], _, .nil => rfl
  | i :: l, _, .cons q qs => by
    have e : _ = V.int i := da_flat (w := .int i) rfl q
    rw [e, da_ints qs]
    rfl
section
variable {P : Program} {w : World} {K : PySem.W.Frag} {mg : Str → Option Value} {base : Heap}
def spBegun (Ts : List Addr) (K : PySem.W.Frag) : Sp := fun vs H Q _ => ∃ (a : Addr) (ns : List Int), vs = [.ref a] ∧ SqL K H a (ns.map V.int) ∧ ns.length ≤ 63 ∧ (∀ p ∈ Ts, H p = some (.tbl #[])) ∧
  ∀ (dr la ca : Addr) (cs : List Int) (d : Dr) (H' : Hp), Da (fun x => x = dr ∨ x = la ∨ x = ca) K H' (.ref a) (.list (ns.map PyData.int)) → (∀ p ∈ Ts, H' p = some (.tbl #[])) → DrawAt H' dr la ca cs d → Q (.ref dr) H'
theorem ok_begun {Ts : List Addr} {f : Addr} {fd : FuncData} (F : L2.Fun K "_law_begun" "_law_begun" sBegun f fd) (m1 : mg "abs" = none) : FnOk P w K mg base (L2.CX P w) 1 f fd ["script"] (spBegun Ts K) := by
  refine F.okX scBegun (fun vs H Q E h => by obtain ⟨a, ns, rfl, _⟩ := h; rfl) fun cdv A outer s H vs Q E hr h => ?_
  obtain ⟨a, ns, rfl, hS, hlen, hT, q⟩ := h
  refine ⟨WB _ (defBody sBegun), pss_w, ?_⟩
  obtain ⟨c, ec⟩ : ∃ c : Cz, c = ⟨fun _ _ _ _ => False, mB Ts, H, fun _ _ => False⟩ := ⟨_, rfl⟩
  have hm : c.m = mB Ts := by rw [ec]
  have first : ∀ st, DS (cxOf (L2.CX P w) P w K mg base ["script", "large", "cell"] "_law_begun" (defScope sBegun) f cdv A outer s H E) ⟨fun _ _ _ _ => False, mB Ts, H, fun _ _ => False⟩ ((defBody sBegun).getD 0 (.Pass ⟨0, 0, 0, 0⟩)) [.dat (.list (ns.map .int)), .any, .any] st
      ⟨fun ρ' _ => ∃ (la : Addr) (l : List Int), ρ' = [.dat (.list (ns.map .int)), .own la (l.map .int), .any], fun _ _ => False, fun _ _ => False, fun _ _ => False⟩ := fun st => by
    refine ds_lc 1 2 scBegun.nd <| di_list <| dv 0 <| .inl ⟨_, rfl, fun i acc s => ∃ l : List Int, acc = l.map .int ∧ l.length ≤ i, ⟨[], rfl, Nat.le_refl _⟩, ?_, ?_⟩
    · rintro i d acc s hd ⟨l, rfl, hl⟩
      obtain ⟨x, rfl⟩ : ∃ x : Int, d = .int x := by
        rw [List.getElem?_map] at hd
        cases e : ns[i]? with
        | none => rw [e] at hd; cases hd
        | some x => rw [e] at hd; cases hd; exact ⟨x, rfl⟩
      have hi : i < ns.length := by
        have := (List.getElem?_eq_some_iff.mp hd).1
        rwa [List.length_map] at this
      refine ⟨by rw [List.length_map]; omega, fun s0 H0 C cl fp => dt_cmp op_ge (nomark _) <| de_callB call_abs (by rfl) m1 boot_abs <| da_cons <| dv 2 <| da_nil <| dcall_abs <| de_bin op_pow <| de_int <| de_int <| dop_I rfl ⟨by decide, by decide, by decide⟩ <| dop_I0 rfl ⟨_, rfl, fun e => ?_, fun e => ⟨rfl, l, rfl, by omega⟩⟩⟩
      refine fun s0 H0 C cl fp => de_bin op_sub <| de_callB call_abs (by rfl) m1 boot_abs <| da_cons <| dv 2 <| da_nil <| dcall_abs <| de_bin op_pow <| de_int <| de_int <| dop_I rfl ⟨by decide, by decide, by decide⟩ <| dop_I0 rfl ⟨_, .dat .nil, rfl, l ++ [_], by rw [List.map_append]; rfl, by rw [List.length_append]; simp; omega⟩
    · rintro acc s ⟨l, rfl, _⟩ p
      exact ⟨p, l, rfl⟩
  have sec : ∀ (la : Addr) (l : List Int) st, DE (cxOf (L2.CX P w) P w K mg base ["script", "large", "cell"] "_law_begun" (defScope sBegun) f cdv A outer s H E) ⟨fun _ _ _ _ => False, mB Ts, H, fun _ _ => False⟩ (match (defBody sBegun).getD 1 (.Pass ⟨0, 0, 0, 0⟩) with | .Return (some (.Dict _ vs _)) _ => vs.getD 2 (.Constant .none 0 ⟨0, 0, 0, 0⟩) | _ => .Constant .none 0 ⟨0, 0, 0, 0⟩) [.dat (.list (ns.map .int)), .own la (l.map .int), .any] st
      (fun s' ρ' _ => ∃ (ca : Addr) (cs : List Int), s' = .own ca (cs.map .int) ∧ ρ' = [.dat (.list (ns.map .int)), .own la (l.map .int), .any]) := fun la l st => by
    refine dlc 2 scBegun.nd <| di_list <| dv 0 <| .inl ⟨_, rfl, fun i acc s => ∃ l : List Int, acc = l.map .int ∧ l.length ≤ i, ⟨[], rfl, Nat.le_refl _⟩, ?_, ?_⟩
    · rintro i d acc s hd ⟨l, rfl, hl⟩
      obtain ⟨x, rfl⟩ : ∃ x : Int, d = .int x := by
        rw [List.getElem?_map] at hd
        cases e : ns[i]? with
        | none => rw [e] at hd; cases hd
        | some x => rw [e] at hd; cases hd; exact ⟨x, rfl⟩
      have hi : i < ns.length := by
        have := (List.getElem?_eq_some_iff.mp hd).1
        rwa [List.length_map] at this
      refine ⟨by rw [List.length_map]; omega, fun _ s0 H0 C cl fp => de_callB call_abs (by rfl) m1 boot_abs <| da_cons <| dv 2 <| da_nil <| dcall_abs ⟨_, .dat .nil, rfl, l ++ [_], by rw [List.map_append]; rfl, by rw [List.length_append]; simp; omega⟩, fun z => nomatch z⟩
    · rintro acc s ⟨cs, rfl, _⟩ p
      exact ⟨p, cs, rfl, rfl⟩
  have cx0 : ContX ⟨fun _ _ _ _ => False, mB Ts, H, fun _ _ => False⟩ K := fun _ _ _ _ _ h => h.elim
  have daS : Da (fun _ => False) K H (.ref a) (.list (ns.map .int)) := .lst (hS.elim (fun z => .inl ⟨fun z => z, z⟩) .inr) (ints_da ns)
  refine wb_of (pss_cons ps_w pss_w) (first () [] (L2.start ["script", "large", "cell"] [.ref a]) H { nx := WB _ ((defBody sBegun).drop 1) { nx := fun _ H' => Q .non H', rt := Q }, rt := Q } ⟨hT, Kp.refl _ _, List.nodup_nil, fun p hp => (nomatch hp), ?_⟩ rfl ⟨?_, fun _ _ _ _ h => h.elim, fun _ _ _ _ h => h.elim, fun _ _ _ _ h => h.elim⟩ cx0)
  · intro e he
    rcases List.mem_cons.mp (show e ∈ [(some (V.ref a), DL.Slot.dat (.list (ns.map .int))), (none, .any), (none, .any)] from he) with rfl | he
    · exact ⟨_, rfl, daS.move fun a o n t e => ⟨fun z => z.elim (fun z => z) fun z => (nomatch z), e⟩⟩
    · rcases List.mem_cons.mp he with rfl | he
      · trivial
      · rcases List.mem_cons.mp he with rfl | he
        · trivial
        · cases he
  · rintro ρ' st' σ' H1 ⟨la, l, rfl⟩ hh hl
    match σ', hl with
    | [s0, s1, s2], hl =>
      obtain ⟨es1, xs1, _, _⟩ := hh.all (s1, .own la (l.map .int)) (List.mem_cons_of_mem _ List.mem_cons_self)
      have es1' : s1 = some (.ref la) := es1
      subst es1'
      refine wb_of (pss_one (ps_ret (pe_disp (pps_cons pe_str (pe_var (i := 1) rfl (.inl rfl)) (pps_cons pe_str pe_int (pps_cons pe_str pe_w (pps_cons pe_str pe_int pps_nil)))) rfl rfl (by simp) (by simp)))) ?_
      intro p hp
      refine ⟨.ref la, rfl, ?_⟩
      refine sec la l st' [(some (.ref p), .obj fun _ => .dK [])] [s0, some (.ref la), s2] _ _ (Here.put (A := [s0, some (.ref la), s2].zip [.dat (.list (ns.map .int)), .own la (l.map .int), .any]) (B := []) (hh.alloc (o := .dK []) hp) rfl ⟨p, rfl, own_ne hh hp, nt_dK, upd_same⟩) rfl (fun s' ρ'' st'' v H3 hk hh3 hl3 => ?_) cx0
      obtain ⟨ca, cs, rfl, rfl⟩ := hk
      obtain ⟨_, xs, eLa, dLa⟩ := hh3.all (some (.ref la), .own la (l.map .int)) (List.mem_cons_of_mem _ List.mem_cons_self)
      obtain ⟨ev, ys, eCa, dCa⟩ := hh3.all (some v, .own ca (cs.map .int)) (List.mem_append_right _ List.mem_cons_self)
      obtain ⟨p', ep, _, _, eP⟩ := hh3.all (some (.ref p), .obj fun _ => .dK []) (List.mem_append_right _ (List.mem_cons_of_mem _ List.mem_cons_self))
      cases ep
      have ev' : v = .ref ca := Option.some.inj ev
      subst ev'
      have exs := da_ints dLa
      have eys := da_ints dCa
      subst exs eys
      have nlp : la ≠ p := ne_of eLa eP (by intro z; cases z)
      have ncp : ca ≠ p := ne_of eCa eP (by intro z; cases z)
      have ncl : ca ≠ la := fun z => by
        have nd := hh3.nd
        have eo : owns ([s0, some (.ref la), s2].zip [DL.Slot.dat (.list (ns.map .int)), .own la (l.map .int), .any] ++ [(some (V.ref ca), .own ca (cs.map .int)), (some (.ref p), .obj fun _ => .dK [])]) = [la, ca] := rfl
        rw [eo, z] at nd
        simp at nd
      refine ⟨eP, [(.inr "large", .ref la), (.inr "rest", .int 0), (.inr "cells", .ref ca), (.inr "turn", .int 0)], rfl, by simp, ?_⟩
      refine q p la ca cs ⟨l, 0, 0⟩ _ ?_ (fun t ht => ?_) ⟨?_, ?_, ?_, ncl⟩
      · refine .lst ?_ (ints_da ns)
        rcases hS with z | z
        · obtain ⟨o, t, e⟩ := rd_some z nt_lst
          have e3 := hh3.kp a o (fun z => z) t e
          have nap : a ≠ p := fun y => by
            rw [y, eP] at e3
            cases e3
            rcases z with z2 | ⟨o2, z2⟩
            · rw [e] at z2; cases z2
            · rw [e] at z2; cases z2
          have mla : la ∈ owns ([s0, some (.ref la), s2].zip [DL.Slot.dat (.list (ns.map .int)), .own la (l.map .int), .any] ++ [(some (V.ref ca), .own ca (cs.map .int)), (some (.ref p), .obj fun _ => .dK [])]) := List.mem_cons_self
          have mca : ca ∈ owns ([s0, some (.ref la), s2].zip [DL.Slot.dat (.list (ns.map .int)), .own la (l.map .int), .any] ++ [(some (V.ref ca), .own ca (cs.map .int)), (some (.ref p), .obj fun _ => .dK [])]) := List.mem_cons_of_mem _ List.mem_cons_self
          have nal : a ≠ la := fun y => nt_fr t ((hh3.fr la mla).2) (by rw [← y]; exact e)
          have nac : a ≠ ca := fun y => nt_fr t ((hh3.fr ca mca).2) (by rw [← y]; exact e)
          refine .inl ⟨fun y => y.elim nap fun y => y.elim nal nac, Rd.move z nt_lst fun o' t' e' => ?_⟩
          rw [upd_ne nap]
          exact hh3.kp a o' (fun z => z) t' e'
        · exact .inr z
      · have e3 := hh3.ok t ht
        rw [upd_ne (ne_of e3 eP (by intro z; cases z))]
        exact e3
      · rw [upd_same]
        rfl
      · rw [upd_ne nlp]
        exact eLa
      · rw [upd_ne ncp]
        exact eCa
end
end LH

namespace K00
open PySem PySem.Spec PyProof.Rows L2 DL LH
abbrev sIsNumber : Stmt := topS 6
abbrev sIsPrimeOf : Stmt := topS 7
abbrev sNeedPrime : Stmt := topS 8
abbrev sNeedNumber : Stmt := topS 9
abbrev sPowerBy : Stmt := topS 10
abbrev sRaised : Stmt := topS 11
abbrev sIsPrime : Stmt := topS 12
abbrev sPowerIn : Stmt := topS 13
abbrev sPrimesBy : Stmt := topS 14
abbrev sPrimesIn : Stmt := topS 15
abbrev sRestOf : Stmt := topS 16
theorem scIsNumber : FnScope ["thing"] ["thing"] (defScope sIsNumber) := ⟨rfl, rfl, rfl, by decide +kernel, rfl, by decide +kernel, by decide +kernel⟩
theorem scIsPrimeOf : FnScope ["thing"] ["thing"] (defScope sIsPrimeOf) := ⟨rfl, rfl, rfl, by decide +kernel, rfl, by decide +kernel, by decide +kernel⟩
theorem scNeedPrime : FnScope ["prime"] ["prime"] (defScope sNeedPrime) := ⟨rfl, rfl, rfl, by decide +kernel, rfl, by decide +kernel, by decide +kernel⟩
theorem scNeedNumber : FnScope ["number"] ["number"] (defScope sNeedNumber) := ⟨rfl, rfl, rfl, by decide +kernel, rfl, by decide +kernel, by decide +kernel⟩
theorem scPowerBy : FnScope ["prime", "number", "found", "left"] ["prime", "number"] (defScope sPowerBy) := ⟨rfl, rfl, rfl, by decide +kernel, rfl, by decide +kernel, by decide +kernel⟩
theorem scRaised : FnScope ["prime", "power", "found", "lap"] ["prime", "power"] (defScope sRaised) := ⟨rfl, rfl, rfl, by decide +kernel, rfl, by decide +kernel, by decide +kernel⟩
theorem scIsPrime : FnScope ["thing"] ["thing"] (defScope sIsPrime) := ⟨rfl, rfl, rfl, by decide +kernel, rfl, by decide +kernel, by decide +kernel⟩
theorem scPowerIn : FnScope ["prime", "number"] ["prime", "number"] (defScope sPowerIn) := ⟨rfl, rfl, rfl, by decide +kernel, rfl, by decide +kernel, by decide +kernel⟩
theorem scPrimesBy : FnScope ["number", "prime"] ["number"] (defScope sPrimesBy) := ⟨rfl, rfl, rfl, by decide +kernel, rfl, by decide +kernel, by decide +kernel⟩
theorem scPrimesIn : FnScope ["number"] ["number"] (defScope sPrimesIn) := ⟨rfl, rfl, rfl, by decide +kernel, rfl, by decide +kernel, by decide +kernel⟩
theorem scRestOf : FnScope ["number", "left", "prime"] ["number"] (defScope sRestOf) := ⟨rfl, rfl, rfl, by decide +kernel, rfl, by decide +kernel, by decide +kernel⟩
/-! ### plain laws -/
def PR : List Nat := [2, 3, 5, 7, 11, 13, 17, 19, 23, 29, 31, 37, 41, 43, 47, 53, 59, 61, 67, 71, 73, 79, 83, 89, 97]
def nD (n : Nat) : PyData := .int n
def PRD : List PyData := PR.map nD
theorem pr_small : ∀ p ∈ PR, 2 ≤ p ∧ p < 98 := by decide
theorem pr_cop : ∀ p ∈ PR, ∀ q ∈ PR, p ≠ q → Nat.gcd p q = 1 := by decide +kernel
def isNum : PyData → Bool
  | .int _ => true
  | _ => false
def isPr (d : PyData) : Bool := isNum d && inD d PRD
def goodN : PyData → Bool
  | .int i => decide (i ≠ 0)
  | _ => false
/-- how often p divides n -/
def pw (p : Nat) : Nat → Nat → Nat
  | 0, _ => 0
  | f + 1, n => if n % p = 0 then pw p f (n / p) + 1 else 0
def mu (p n : Nat) : Nat := pw p n n
theorem pw_more (p : Nat) (h2 : 2 ≤ p) : ∀ (f g n : Nat), 0 < n → n ≤ f → n ≤ g → pw p f n = pw p g n
  | 0, _, n, h0, hf, _ => by omega
  | _, 0, n, h0, _, hg => by omega
  | f + 1, g + 1, n, h0, hf, hg => by
    unfold pw
    by_cases e : n % p = 0
    · rw [if_pos e, if_pos e]
      have hd : p ∣ n := Nat.dvd_of_mod_eq_zero e
      have hlt : n / p < n := Nat.div_lt_self h0 (by omega)
      rw [pw_more p h2 f g (n / p) (Nat.div_pos (Nat.le_of_dvd h0 hd) (by omega)) (by omega) (by omega)]
    · rw [if_neg e, if_neg e]
theorem mu_step {p n : Nat} (h2 : 2 ≤ p) (h0 : 0 < n) (e : n % p = 0) : mu p n = mu p (n / p) + 1 := by
  have hd : p ∣ n := Nat.dvd_of_mod_eq_zero e
  have hlt : n / p < n := Nat.div_lt_self h0 (by omega)
  have hp : 0 < n / p := Nat.div_pos (Nat.le_of_dvd h0 hd) (by omega)
  unfold mu
  obtain ⟨m, rfl⟩ : ∃ m, n = m + 1 := ⟨n - 1, by omega⟩
  rw [pw, if_pos e, pw_more p h2 m _ _ hp (by omega) (Nat.le_refl _)]
theorem mu_stop {p n : Nat} (e : ¬ n % p = 0) : mu p n = 0 := by
  unfold mu
  cases n with
  | zero => rfl
  | succ m => rw [pw, if_neg e]
theorem mu_dvd {p : Nat} (h2 : 2 ≤ p) : ∀ n : Nat, 0 < n → p ^ mu p n ∣ n := by
  intro n
  induction n using Nat.strongRecOn with
  | _ n ih =>
    intro h0
    by_cases e : n % p = 0
    · have hd : p ∣ n := Nat.dvd_of_mod_eq_zero e
      have hlt : n / p < n := Nat.div_lt_self h0 (by omega)
      have hp : 0 < n / p := Nat.div_pos (Nat.le_of_dvd h0 hd) (by omega)
      rw [mu_step h2 h0 e, Nat.pow_succ]
      have := Nat.mul_dvd_mul (ih (n / p) hlt hp) (Nat.dvd_refl p)
      rwa [Nat.div_mul_cancel hd] at this
    · rw [mu_stop e, Nat.pow_zero]
      exact Nat.one_dvd n
theorem mu_pos {p n : Nat} (h2 : 2 ≤ p) (h0 : 0 < n) : 0 < mu p n ↔ n % p = 0 := by
  by_cases e : n % p = 0
  · rw [mu_step h2 h0 e]
    exact ⟨fun _ => e, fun _ => Nat.succ_pos _⟩
  · rw [mu_stop e]
    exact ⟨fun h => absurd h (Nat.lt_irrefl _), fun h => absurd h e⟩
/-- the primes of a number, what is left without them -/
def prs (n : Nat) : List Nat := PR.filter fun p => n % p == 0
def powP (n p : Nat) : Nat := p ^ mu p n
def restP (n : Nat) (l : List Nat) : Nat := l.foldl (fun a p => a / powP n p) n
def restN (n : Nat) : Nat := restP n (prs n)
def prodP (n : Nat) : List Nat → Nat
  | [] => 1
  | p :: l => powP n p * prodP n l
theorem cop_prod {n p : Nat} (hp : p ∈ PR) : ∀ l : List Nat, (∀ q ∈ l, q ∈ PR) → p ∉ l → (powP n p).Coprime (prodP n l)
  | [], _, _ => Nat.coprime_one_right _
  | q :: l, h, nd => by
    have h1 : (powP n p).Coprime (powP n q) := Nat.Coprime.pow _ _ (pr_cop p hp q (h q List.mem_cons_self) fun z => nd (by rw [z]; exact List.mem_cons_self))
    have h2 := cop_prod (n := n) hp l (fun q hq => h q (List.mem_cons_of_mem _ hq)) fun z => nd (List.mem_cons_of_mem _ z)
    exact (Nat.Coprime.mul_left h1.symm h2.symm).symm
theorem prod_dvd {n : Nat} (h0 : 0 < n) : ∀ l : List Nat, (∀ q ∈ l, q ∈ PR) → l.Nodup → prodP n l ∣ n
  | [], _, _ => Nat.one_dvd n
  | p :: l, h, nd => by
    have hp := h p List.mem_cons_self
    obtain ⟨n1, n2⟩ := List.nodup_cons.mp nd
    exact Nat.Coprime.mul_dvd_of_dvd_of_dvd (cop_prod hp l (fun q hq => h q (List.mem_cons_of_mem _ hq)) n1) (mu_dvd (pr_small p hp).1 n h0) (prod_dvd h0 l (fun q hq => h q (List.mem_cons_of_mem _ hq)) n2)
theorem fold_div (n : Nat) : ∀ (l : List Nat) (a : Nat), l.foldl (fun a p => a / powP n p) a = a / prodP n l
  | [], a => by simp [prodP]
  | p :: l, a => by rw [List.foldl_cons, fold_div n l, Nat.div_div_eq_div_mul]; rfl
theorem fold_mul (n : Nat) : ∀ (l : List Nat) (a : Nat), l.foldl (fun a p => a * powP n p) a = a * prodP n l
  | [], a => by simp [prodP]
  | p :: l, a => by rw [List.foldl_cons, fold_mul n l, prodP, Nat.mul_assoc]
theorem prs_sub (n : Nat) : ∀ q ∈ prs n, q ∈ PR := fun q h => (List.mem_filter.mp h).1
theorem prs_nd (n : Nat) : (prs n).Nodup := List.Nodup.sublist List.filter_sublist (by decide)
theorem whole_ok {n : Nat} (h0 : 0 < n) : (prs n).foldl (fun a p => a * powP n p) (restN n) = n := by
  unfold restN restP
  rw [fold_mul, fold_div]
  exact Nat.div_mul_cancel (prod_dvd h0 _ (prs_sub n) (prs_nd n))
theorem powP_le {n p : Nat} (h0 : 0 < n) (hp : 2 ≤ p) : powP n p ≤ n := Nat.le_of_dvd h0 (mu_dvd hp n h0)
theorem powP_pos {n p : Nat} (hp : 2 ≤ p) : 0 < powP n p := Nat.pow_pos (by omega)
section
variable {P : Program} {w : World} {K : PySem.W.Frag} {mg : Str → Option Value} {base : Heap}
def fIsNumber : Pd := fun m ss st k xk => ∃ d, ss = [.dat d] ∧ k (.dat (.bool (isNum d))) st
theorem isn_true {d : PyData} (e : ofInt d = true) : (!ofBool d) = isNum d := by cases d <;> first | rfl | cases e
theorem isn_false {d : PyData} (e : ofInt d = false) : false = isNum d := by cases d <;> first | rfl | cases e
theorem ok_is_number (D : Df K mg "is_number" sIsNumber ["thing"]) (m1 : mg "isinstance" = none) (m2 : mg "int" = none) (m3 : mg "bool" = none) : Cal P w K mg base "is_number" sIsNumber ["thing"] 1 fIsNumber := by
  refine cal_of D scIsNumber (by rintro _ _ _ _ _ ⟨d, rfl, _⟩; rfl) fun f cdv A outer s1 H E c hr tk hp ss st k h => ?_
  obtain ⟨d, rfl, h⟩ := h
  refine db_one (ds_ret <| de_and <| de_callB call_isi (by rfl) m1 boot_isinstance <| da_cons <| dv 0 <| da_cons <| de_bltn (v := .ty "int") m2 boot_int rfl <| da_nil <| dcall_isi (kit_int d) ⟨_, rfl, fun e => ?_, fun e => ?_⟩)
  · exact de_one <| de_not <| de_callB call_isi (by rfl) m1 boot_isinstance <| da_cons <| dv 0 <| da_cons <| de_bltn (v := .ty "bool") m3 boot_bool rfl <| da_nil <| dcall_isi (kit_bool d) ⟨_, rfl, _, .dat _, by rw [isn_true e]; exact h⟩
  · exact ⟨_, .dat _, by rw [isn_false e]; exact h⟩
/-- PRIMES -/
def ConP (K : PySem.W.Frag) (mg : Str → Option Value) : Prop := ∃ (u : Value) (v : V), mg "PRIMES" = some u ∧ RelV v u ∧ ∀ N H, Da N K H v (.tuple PRD)
def fIsPrimeOf : Pd := fun m ss st k xk => ∃ d, ss = [.dat d] ∧ k (.dat (.bool (isPr d))) st
theorem prd_flat : PRD.all flat1 = true := by decide
theorem isnum_flat {d : PyData} (h : isNum d = true) : flat1 d = true := by cases d <;> first | rfl | cases h
theorem ok_is_prime_of (D : Df K mg "is_prime_of" sIsPrimeOf ["thing"]) (C1 : Cal P w K mg base "is_number" sIsNumber ["thing"] 1 fIsNumber) (CP : ConP K mg) : Cal P w K mg base "is_prime_of" sIsPrimeOf ["thing"] 2 fIsPrimeOf := by
  obtain ⟨u, v, cp1, cp2, cp3⟩ := CP
  refine cal_of D scIsPrimeOf (by rintro _ _ _ _ _ ⟨d, rfl, _⟩; rfl) fun f cdv A outer s1 H E c hr tk hp ss st k h => ?_
  obtain ⟨d, rfl, h⟩ := h
  unfold isPr at h
  refine db_one (ds_ret <| de_and <| dc_call C1 hr tk <| da_cons <| dv 0 <| da_nil fun A => ⟨d, rfl, _, rfl, fun e => ?_, fun e => ?_⟩)
  · refine de_one <| de_cmp op_in_seq (by rfl) <| dv 0 <| de_con cp1 cp2 cp3 <| dop_in (.dat _) (.tup _) (isnum_flat e) prd_flat ⟨_, .dat _, ?_⟩
    rw [e] at h
    exact h
  · rw [e] at h
    exact ⟨_, .dat _, h⟩
def fNeedPrime (C : Addr) : Pd := fun m ss st k xk => ∃ d, ss = [.dat d] ∧ (isPr d = true → k (.dat .none) st) ∧ (isPr d = false → xk ⟨.ref C, []⟩ st)
theorem ok_need_prime {C CS : Addr} (D : Df K mg "need_prime" sNeedPrime ["prime"]) (C1 : Cal P w K mg base "is_prime_of" sIsPrimeOf ["thing"] 2 fIsPrimeOf) (EC : ErrC K mg "BadPrime" C CS) : Cal P w K mg base "need_prime" sNeedPrime ["prime"] 3 (fNeedPrime C) := by
  refine cal_of D scNeedPrime (by rintro _ _ _ _ _ ⟨d, rfl, _⟩; rfl) fun f cdv A outer s1 H E c hr tk hp ss st k h => ?_
  obtain ⟨d, rfl, h1, h2⟩ := h
  refine db_one (ds_if <| dt_not <| dt_val <| dc_call C1 hr tk <| da_cons <| dv 0 <| da_nil fun A => ⟨d, rfl, _, rfl, fun e => ?_, fun e => db_nil (h1 (by simpa using e))⟩)
  exact db_one (ds_raiseE EC rfl tk (h2 (by simpa using e)))
def fNeedNumber (C : Addr) : Pd := fun m ss st k xk => ∃ d, ss = [.dat d] ∧ (goodN d = true → k (.dat .none) st) ∧ (goodN d = false → xk ⟨.ref C, []⟩ st)
theorem ok_need_number {C CS : Addr} (D : Df K mg "need_number" sNeedNumber ["number"]) (C1 : Cal P w K mg base "is_number" sIsNumber ["thing"] 1 fIsNumber) (EC : ErrC K mg "BadNumber" C CS) : Cal P w K mg base "need_number" sNeedNumber ["number"] 2 (fNeedNumber C) := by
  refine cal_of D scNeedNumber (by rintro _ _ _ _ _ ⟨d, rfl, _⟩; rfl) fun f cdv A outer s1 H E c hr tk hp ss st k h => ?_
  obtain ⟨d, rfl, h1, h2⟩ := h
  refine db_one (ds_if <| dt_w <| dw_or <| dt_not <| dt_val <| dc_call C1 hr tk <| da_cons <| dv 0 <| da_nil fun A => ⟨d, rfl, _, rfl, fun e => ⟨fun _ => ?_, fun z => nomatch z⟩, fun e => ?_⟩)
  · refine db_one (ds_raiseE EC rfl tk (h2 ?_))
    cases d <;> first | rfl | cases e
  · obtain ⟨i, rfl⟩ : ∃ i, d = .int i := by
      cases d <;> first | exact ⟨_, rfl⟩ | cases e
    refine dw_or1 <| dt_cmp op_eq (nomark _) <| dv 0 <| de_int <| dop_eq (x := .int i) (y := .int 0) rfl rfl rfl ⟨_, rfl, fun e2 => ?_, fun e2 => db_nil (h1 ?_)⟩
    · refine db_one (ds_raiseE EC rfl tk (h2 ?_))
      have : i = 0 := V.int.inj (of_decide_eq_true e2)
      subst this
      rfl
    · refine decide_eq_true fun z => ?_
      subst z
      exact of_decide_eq_false e2 rfl
theorem mod_abs (n : Int) (p : Nat) : n % (p : Int) = 0 ↔ n.natAbs % p = 0 := by
  rw [← Int.dvd_iff_emod_eq_zero, ← Nat.dvd_iff_mod_eq_zero, Int.ofNat_dvd_left]
def fPowerBy : Pd := fun m ss st k xk => ∃ (p : Nat) (n : Int), ss = [.dat (nD p), .dat (.int n)] ∧ p ∈ PR ∧ n ≠ 0 ∧ k (.dat (nD (mu p n.natAbs))) st
theorem ok_power_by (D : Df K mg "power_by" sPowerBy ["prime", "number"]) (m1 : mg "abs" = none) : Cal P w K mg base "power_by" sPowerBy ["prime", "number"] 1 fPowerBy := by
  refine cal_of D scPowerBy (by rintro _ _ _ _ _ ⟨p, n, rfl, _⟩; rfl) fun f cdv A outer s1 H E c hr tk hp ss st k h => ?_
  obtain ⟨p, n, rfl, hpr, hn, h⟩ := h
  obtain ⟨h2, hp3⟩ := pr_small p hpr
  refine db_cons (dpar 2 3 scPowerBy.nd (by rfl) <| de_int <| de_callB call_abs (by rfl) m1 boot_abs <| da_cons <| dv 1 <| da_nil <| dcall_abs ?_)
  refine db_cons (ds_while hp (fun N ρ s => ∃ (i l : Nat), ρ = [.dat (nD p), .dat (.int n), .dat (nD i), .dat (nD l)] ∧ st = s ∧ 0 < l ∧ N = l ∧ i + mu p l = mu p n.natAbs) n.natAbs ⟨0, n.natAbs, rfl, rfl, by omega, rfl, by omega⟩ ?_)
  rintro N ρ s ⟨i, l, rfl, rfl, hl, rfl, hi⟩
  refine dt_cmp op_eq (nomark _) <| de_bin op_mod <| dv 3 <| dv 0 <| dop_I rfl ?_ <| de_int <| dop_eq (x := .int _) (y := .int _) rfl rfl rfl ⟨_, rfl, fun e => ?_, fun e => ?_⟩
  · show (0 : Int) < p
    omega
  · have e1 : ((N : Int) % (p : Int)) = 0 := V.int.inj (of_decide_eq_true e)
    have e2 : N % p = 0 := by omega
    refine db_one (dpar 2 3 scPowerBy.nd (by rfl) <| de_bin op_add <| dv 2 <| de_int <| dop_I0 rfl <| de_bin op_fdivW <| dv 3 <| dv 0 <| dop_I rfl ?_ ?_)
    · exact wide_div (b := 60) (show (0 : Int) < p by omega) (by show p < 2 ^ 60; omega) (by decide) (by decide)
    · have hd : p ∣ N := Nat.dvd_of_mod_eq_zero e2
      have hlt : N / p < N := Nat.div_lt_self hl (by omega)
      exact ⟨N / p, hlt, i + 1, N / p, rfl, rfl, Nat.div_pos (Nat.le_of_dvd hl hd) (by omega), rfl, by rw [← hi, mu_step h2 hl e2]; omega⟩
  · refine db_one (ds_ret <| dv 2 ⟨_, .dat _, ?_⟩)
    have e2 : ¬ N % p = 0 := fun z => of_decide_eq_false e (by rw [show ((N : Int) % (p : Int)) = 0 by omega])
    rw [mu_stop e2, Nat.add_zero] at hi
    rw [hi]
    exact h
def fRaised : Pd := fun m ss st k xk => ∃ p e : Nat, ss = [.dat (nD p), .dat (nD e)] ∧ p < 2 ^ 60 ∧ e < 2 ^ 60 ∧ k (.dat (nD (p ^ e))) st
theorem nat_pow_int (p e : Nat) : (nD (p ^ e) : PyData) = .int ((p : Int) ^ e) := by unfold nD; rw [Int.natCast_pow]
theorem ok_raised (D : Df K mg "raised" sRaised ["prime", "power"]) (m1 : mg "range" = none) : Cal P w K mg base "raised" sRaised ["prime", "power"] 1 fRaised := by
  refine cal_of D scRaised (by rintro _ _ _ _ _ ⟨p, n, rfl, _⟩; rfl) fun f cdv A outer s1 H E c hr tk hp ss st k h => ?_
  obtain ⟨p, e, rfl, hp1, he1, h⟩ := h
  refine db_cons (dset 2 scRaised.nd <| de_int ?_)
  refine db_cons (ds_for hp rfl <| di_range1 m1 <| dv 1 ⟨(e : Int), rfl, by omega, by omega, fun i ρ s => ∃ s3, ρ = [.dat (nD p), .dat (nD e), .dat (nD (p ^ i)), s3] ∧ st = s, ⟨_, rfl, rfl⟩, ?_, ?_⟩)
  · rintro i d ρ s hd ⟨s3, rfl, rfl⟩
    refine dgn 3 scRaised.nd ?_
    refine db_one (dset 2 scRaised.nd <| de_bin op_mul <| dv 2 <| dv 0 <| dop_I (d := nD (p ^ (i + 1))) (i := (p ^ i : Nat)) (j := (p : Nat)) ?_ (.inr (by omega)) ⟨_, rfl, rfl⟩)
    show some (PyData.int _) = some (PyData.int _)
    rw [Nat.pow_succ, Int.natCast_mul]
  · rintro ρ s ⟨s3, rfl, rfl⟩
    refine db_one (ds_ret <| dv 2 ⟨_, .dat _, ?_⟩)
    rw [ints_len]
    exact h
theorem ok_is_prime (D : Df K mg "is_prime" sIsPrime ["thing"]) (C1 : Cal P w K mg base "is_prime_of" sIsPrimeOf ["thing"] 2 fIsPrimeOf) : Cal P w K mg base "is_prime" sIsPrime ["thing"] 3 fIsPrimeOf := by
  refine cal_of D scIsPrime (by rintro _ _ _ _ _ ⟨d, rfl, _⟩; rfl) fun f cdv A outer s1 H E c hr tk hp ss st k h => ?_
  obtain ⟨d, rfl, h⟩ := h
  exact db_one (ds_ret <| dc_call C1 hr tk <| da_cons <| dv 0 <| da_nil fun A => ⟨d, rfl, _, .dat _, h⟩)
theorem eqv_int (i j : Int) : PyData.eqv (.int i) (.int j) = decide (i = j) := by rw [PyData.eqv]; rfl
theorem isPr_of {d : PyData} (h : isPr d = true) : ∃ p ∈ PR, d = nD p := by
  unfold isPr at h
  rw [Bool.and_eq_true] at h
  obtain ⟨i, rfl⟩ : ∃ i, d = .int i := by
    cases d <;> first | exact ⟨_, rfl⟩ | cases h.1
  obtain ⟨e, he, q⟩ := List.any_eq_true.mp h.2
  obtain ⟨p, hp, rfl⟩ := List.mem_map.mp he
  refine ⟨p, hp, ?_⟩
  have q : PyData.eqv (.int p) (.int i) = true := q
  rw [eqv_int] at q
  rw [← of_decide_eq_true q]
  rfl
theorem isPr_mem {p : Nat} (h : p ∈ PR) : isPr (nD p) = true := by
  unfold isPr
  rw [Bool.and_eq_true]
  refine ⟨rfl, List.any_eq_true.mpr ⟨nD p, List.mem_map.mpr ⟨p, h, rfl⟩, ?_⟩⟩
  show PyData.eqv (.int p) (.int p) = true
  rw [eqv_int]
  exact decide_eq_true rfl
theorem goodN_of {d : PyData} (h : goodN d = true) : ∃ i, i ≠ 0 ∧ d = .int i := by
  cases d <;> first | exact ⟨_, of_decide_eq_true h, rfl⟩ | cases h
def fPowerIn (CP CN : Addr) : Pd := fun m ss st k xk => ∃ d1 d2, ss = [.dat d1, .dat d2] ∧ (isPr d1 = false → xk ⟨.ref CP, []⟩ st) ∧ (isPr d1 = true → goodN d2 = false → xk ⟨.ref CN, []⟩ st) ∧ ∀ p ∈ PR, ∀ n : Int, d1 = nD p → n ≠ 0 → d2 = .int n → k (.dat (nD (mu p n.natAbs))) st
theorem ok_power_in {CP CN : Addr} (D : Df K mg "power_in" sPowerIn ["prime", "number"]) (C1 : Cal P w K mg base "need_prime" sNeedPrime ["prime"] 3 (fNeedPrime CP)) (C2 : Cal P w K mg base "need_number" sNeedNumber ["number"] 2 (fNeedNumber CN)) (C3 : Cal P w K mg base "power_by" sPowerBy ["prime", "number"] 1 fPowerBy) :
    Cal P w K mg base "power_in" sPowerIn ["prime", "number"] 4 (fPowerIn CP CN) := by
  refine cal_of D scPowerIn (by rintro _ _ _ _ _ ⟨_, _, rfl, _⟩; rfl) fun f cdv A outer s1 H E c hr tk hp ss st k h => ?_
  obtain ⟨d1, d2, rfl, h1, h2, h3⟩ := h
  refine db_cons (ds_expr <| dc_call C1 hr tk <| da_cons <| dv 0 <| da_nil fun A => ⟨d1, rfl, fun e1 => ?_, h1⟩)
  refine db_cons (ds_expr <| dc_call C2 (hr.mono (by decide)) tk <| da_cons <| dv 1 <| da_nil fun A => ⟨d2, rfl, fun e2 => ?_, h2 e1⟩)
  obtain ⟨p, hp1, rfl⟩ := isPr_of e1
  obtain ⟨n, hn, rfl⟩ := goodN_of e2
  exact db_one (ds_ret <| dc_call C3 (hr.mono (by decide)) tk <| da_cons <| dv 0 <| da_cons <| dv 1 <| da_nil fun A => ⟨p, n, rfl, hp1, hn, _, .dat _, h3 p hp1 n rfl hn rfl⟩)
def prsD (n : Int) : List PyData := (prs n.natAbs).map nD
def fPrimesBy : Pd := fun m ss st k xk => ∃ n : Int, ss = [.dat (.int n)] ∧ n ≠ 0 ∧ k (.dat (.tuple (prsD n))) st
theorem ok_primes_by (D : Df K mg "primes_by" sPrimesBy ["number"]) (CP : ConP K mg) (m1 : mg "tuple" = none) : Cal P w K mg base "primes_by" sPrimesBy ["number"] 1 fPrimesBy := by
  obtain ⟨u, v, cp1, cp2, cp3⟩ := CP
  refine cal_of D scPrimesBy (by rintro _ _ _ _ _ ⟨_, rfl, _⟩; rfl) fun f cdv A outer s1 H E c hr tk hp ss st k h => ?_
  obtain ⟨n, rfl, hn, h⟩ := h
  refine db_one (ds_ret <| de_callTy call_tuple_of (by rfl) m1 boot_tuple <| da_cons <| dlc 1 scPrimesBy.nd <| di_tup <| de_con cp1 cp2 cp3 ⟨_, rfl, ?_⟩)
  refine ⟨fun i acc s => acc = ((PR.take i).filter fun p => n.natAbs % p == 0).map nD ∧ st = s, ⟨rfl, rfl⟩, ?_, ?_⟩
  · rintro i d acc s hd ⟨rfl, rfl⟩
    obtain ⟨p, hp, rfl⟩ : ∃ p, PR[i]? = some p ∧ d = nD p := by
      have : (PR.map nD)[i]? = some d := hd
      rw [List.getElem?_map] at this
      cases e : PR[i]? with
      | none => rw [e] at this; cases this
      | some p => rw [e] at this; cases this; exact ⟨p, rfl, rfl⟩
    obtain ⟨h2, h3⟩ := pr_small p (List.mem_of_getElem? hp)
    refine ⟨?_, fun s0 H0 C cl fp => dt_cmp op_eq (nomark _) <| de_bin op_mod <| dv 0 <| dv 1 <| dop_I (i := n) (j := (p : Int)) rfl (by show (0 : Int) < p; omega) <| de_int <| dop_eq (x := .int _) (y := .int _) rfl rfl rfl ⟨_, rfl, fun e => ?_, fun e => ?_⟩⟩
    · rw [List.length_map]
      refine Nat.lt_of_le_of_lt (List.length_filter_le _ _) ?_
      rw [List.length_take]
      exact Nat.lt_of_le_of_lt (Nat.min_le_right _ _) (by decide)
    · have e1 : n.natAbs % p = 0 := (mod_abs n p).mp (V.int.inj (of_decide_eq_true e))
      refine fun s0 H0 C cl fp => dv 1 ⟨_, .dat .nil, rfl, ?_, rfl⟩
      rw [List.take_add_one, hp, List.filter_append, List.map_append]
      simp [e1]
    · have e1 : ¬ n.natAbs % p = 0 := fun z => of_decide_eq_false e (congrArg V.int ((mod_abs n p).mpr z))
      refine ⟨rfl, ?_, rfl⟩
      rw [List.take_add_one, hp, List.filter_append, List.map_append]
      simp [e1]
  · rintro acc s ⟨rfl, rfl⟩ p
    exact da_nil <| dcall_tuple (.own _ _) (.lst _) ⟨_, .dat _, h⟩
def fPrimesIn (CN : Addr) : Pd := fun m ss st k xk => ∃ d, ss = [.dat d] ∧ (goodN d = false → xk ⟨.ref CN, []⟩ st) ∧ ∀ n : Int, n ≠ 0 → d = .int n → k (.dat (.tuple (prsD n))) st
theorem ok_primes_in {CN : Addr} (D : Df K mg "primes_in" sPrimesIn ["number"]) (C1 : Cal P w K mg base "need_number" sNeedNumber ["number"] 2 (fNeedNumber CN)) (C2 : Cal P w K mg base "primes_by" sPrimesBy ["number"] 1 fPrimesBy) : Cal P w K mg base "primes_in" sPrimesIn ["number"] 3 (fPrimesIn CN) := by
  refine cal_of D scPrimesIn (by rintro _ _ _ _ _ ⟨_, rfl, _⟩; rfl) fun f cdv A outer s1 H E c hr tk hp ss st k h => ?_
  obtain ⟨d, rfl, h1, h2⟩ := h
  refine db_cons (ds_expr <| dc_call C1 hr tk <| da_cons <| dv 0 <| da_nil fun A => ⟨d, rfl, fun e1 => ?_, h1⟩)
  obtain ⟨n, hn, rfl⟩ := goodN_of e1
  exact db_one (ds_ret <| dc_call C2 (hr.mono (by decide)) tk <| da_cons <| dv 0 <| da_nil fun A => ⟨n, rfl, hn, _, .dat _, h2 n hn rfl⟩)
def fRestOf (CN : Addr) : Pd := fun m ss st k xk => ∃ d, ss = [.dat d] ∧ (∀ n : Int, d = .int n → n.natAbs < 2 ^ 640) ∧ (goodN d = false → xk ⟨.ref CN, []⟩ st) ∧ ∀ n : Int, n ≠ 0 → d = .int n → k (.dat (nD (restN n.natAbs))) st
theorem restP_take (n : Nat) (i p : Nat) (l : List Nat) (h : l[i]? = some p) : restP n (l.take (i + 1)) = restP n (l.take i) / powP n p := by
  unfold restP
  rw [List.take_add_one, h, List.foldl_append]
  rfl
theorem prsD_get {n : Int} {i : Nat} {d : PyData} (hd : (prsD n)[i]? = some d) : ∃ p, (prs n.natAbs)[i]? = some p ∧ d = nD p ∧ p ∈ PR := by
  unfold prsD at hd
  rw [List.getElem?_map] at hd
  cases e : (prs n.natAbs)[i]? with
  | none => rw [e] at hd; cases hd
  | some p => rw [e] at hd; cases hd; exact ⟨p, rfl, rfl, prs_sub _ p (List.mem_of_getElem? e)⟩
theorem mu_lt {p n : Nat} (h2 : 2 ≤ p) (h0 : 0 < n) (hb : n < 2 ^ 640) : mu p n < 640 := by
  have h1 := powP_le h0 h2
  unfold powP at h1
  have h3 : 2 ^ mu p n ≤ p ^ mu p n := Nat.pow_le_pow_left h2 _
  exact (Nat.pow_lt_pow_iff_right (by decide : 1 < 2)).mp (Nat.lt_of_le_of_lt (Nat.le_trans h3 h1) hb)
theorem ok_rest_of {CN : Addr} (D : Df K mg "rest_of" sRestOf ["number"]) (C1 : Cal P w K mg base "need_number" sNeedNumber ["number"] 2 (fNeedNumber CN)) (C2 : Cal P w K mg base "primes_by" sPrimesBy ["number"] 1 fPrimesBy) (C3 : Cal P w K mg base "power_by" sPowerBy ["prime", "number"] 1 fPowerBy) (C4 : Cal P w K mg base "raised" sRaised ["prime", "power"] 1 fRaised)
    (m1 : mg "abs" = none) : Cal P w K mg base "rest_of" sRestOf ["number"] 3 (fRestOf CN) := by
  refine cal_of D scRestOf (by rintro _ _ _ _ _ ⟨_, rfl, _⟩; rfl) fun f cdv A outer s1 H E c hr tk hp ss st k h => ?_
  obtain ⟨d, rfl, h0, h1, h2⟩ := h
  refine db_cons (ds_expr <| dc_call C1 hr tk <| da_cons <| dv 0 <| da_nil fun A => ⟨d, rfl, fun e1 => ?_, h1⟩)
  obtain ⟨n, hn, rfl⟩ := goodN_of e1
  have hb := h0 n rfl
  · refine db_cons (dset 1 scRestOf.nd <| de_callB call_abs (by rfl) m1 boot_abs <| da_cons <| dv 0 <| da_nil <| dcall_abs ?_)
    refine db_cons (ds_for hp rfl <| di_tup <| dc_call C2 (hr.mono (by decide)) tk <| da_cons <| dv 0 <| da_nil fun A => ⟨n, rfl, hn, _, rfl, fun i ρ s => ∃ s2, ρ = [.dat (.int n), .dat (nD (restP n.natAbs ((prs n.natAbs).take i))), s2] ∧ st = s, ⟨_, rfl, rfl⟩, ?_, ?_⟩)
    · rintro i d ρ s hd ⟨s2, rfl, rfl⟩
      obtain ⟨p, hp1, rfl, hp2⟩ := prsD_get hd
      have hs := pr_small p hp2
      refine dgn 2 scRestOf.nd ?_
      refine db_one (dset 1 scRestOf.nd <| de_bin op_fdivW <| dv 1 <| dc_call C4 (hr.mono (by decide)) tk <| da_cons <| dv 2 <| da_cons <| dc_call C3 (hr.mono (by decide)) tk <| da_cons <| dv 2 <| da_cons <| dv 0 <| da_nil fun A => ⟨p, n, rfl, hp2, hn, da_nil fun A => ⟨p, mu p n.natAbs, rfl, by omega, by have := mu_lt (p := p) hs.1 (by omega) hb; omega, dop_I (d := nD (restP n.natAbs ((prs n.natAbs).take i) / powP n.natAbs p)) rfl ?_ ⟨.dat (nD p), ?_, rfl⟩⟩⟩)
      · have h3 := powP_pos (n := n.natAbs) hs.1
        exact wide_div (b := 640) (by show (0 : Int) < ((p ^ mu p n.natAbs : Nat) : Int); exact Int.natCast_pos.mpr h3) (by show p ^ mu p n.natAbs < 2 ^ 640; exact Nat.lt_of_le_of_lt (powP_le (by omega) hs.1) hb) (by decide) (by decide)
      · rw [restP_take _ _ _ _ hp1]
        rfl
    · rintro ρ s ⟨s2, rfl, rfl⟩
      have e : (prs n.natAbs).take (prsD n).length = prs n.natAbs := by
        unfold prsD
        rw [List.length_map, List.take_length]
      refine db_one (ds_ret <| dv 1 ⟨_, .dat _, ?_⟩)
      rw [e]
      exact h2 n hn rfl
end
end K00

namespace K00
open PySem PySem.Spec PyProof.Rows L2 DL LH
abbrev sOdd : Stmt := topS 25
abbrev sLIsNumber : Stmt := topS 26
abbrev sLRaised : Stmt := topS 27
abbrev sLPower : Stmt := topS 28
abbrev sLPrimes : Stmt := topS 29
abbrev sNumberOf : Stmt := topS 30
abbrev sRight : Stmt := topS 31
theorem scOdd : FnScope ["draw"] ["draw"] (defScope sOdd) := ⟨rfl, rfl, rfl, by decide +kernel, rfl, by decide +kernel, by decide +kernel⟩
theorem scLIsNumber : FnScope ["thing"] ["thing"] (defScope sLIsNumber) := ⟨rfl, rfl, rfl, by decide +kernel, rfl, by decide +kernel, by decide +kernel⟩
theorem scLRaised : FnScope ["prime", "power", "found", "lap"] ["prime", "power"] (defScope sLRaised) := ⟨rfl, rfl, rfl, by decide +kernel, rfl, by decide +kernel, by decide +kernel⟩
theorem scLPower : FnScope ["prime", "number", "found", "left"] ["prime", "number"] (defScope sLPower) := ⟨rfl, rfl, rfl, by decide +kernel, rfl, by decide +kernel, by decide +kernel⟩
theorem scLPrimes : FnScope ["found", "one", "low"] [] (defScope sLPrimes) := ⟨rfl, rfl, rfl, by decide +kernel, rfl, by decide +kernel, by decide +kernel⟩
theorem scNumberOf : FnScope ["draw", "found", "lap"] ["draw"] (defScope sNumberOf) := ⟨rfl, rfl, rfl, by decide +kernel, rfl, by decide +kernel, by decide +kernel⟩
theorem scRight : FnScope ["draw", "number", "every", "due", "left", "prime", "own", "whole"] ["draw"] (defScope sRight) := ⟨rfl, rfl, rfl, by decide +kernel, rfl, by decide +kernel, by decide +kernel⟩
section
variable {P : Program} {w : World} {K : PySem.W.Frag} {mg : Str → Option Value} {base : Heap}
theorem ok_lis_number (D : Df K mg "_law_is_number" sLIsNumber ["thing"]) (m1 : mg "isinstance" = none) (m2 : mg "int" = none) (m3 : mg "bool" = none) : Cal P w K mg base "_law_is_number" sLIsNumber ["thing"] 1 fIsNumber := by
  refine cal_of D scLIsNumber (by rintro _ _ _ _ _ ⟨d, rfl, _⟩; rfl) fun f cdv A outer s1 H E c hr tk hp ss st k h => ?_
  obtain ⟨d, rfl, h⟩ := h
  refine db_one (ds_ret <| de_and <| de_callB call_isi (by rfl) m1 boot_isinstance <| da_cons <| dv 0 <| da_cons <| de_bltn (v := .ty "int") m2 boot_int rfl <| da_nil <| dcall_isi (kit_int d) ⟨_, rfl, fun e => ?_, fun e => ?_⟩)
  · exact de_one <| de_not <| de_callB call_isi (by rfl) m1 boot_isinstance <| da_cons <| dv 0 <| da_cons <| de_bltn (v := .ty "bool") m3 boot_bool rfl <| da_nil <| dcall_isi (kit_bool d) ⟨_, rfl, _, .dat _, by rw [isn_true e]; exact h⟩
  · exact ⟨_, .dat _, by rw [isn_false e]; exact h⟩
theorem ok_lraised (D : Df K mg "_law_raised" sLRaised ["prime", "power"]) (m1 : mg "range" = none) : Cal P w K mg base "_law_raised" sLRaised ["prime", "power"] 1 fRaised := by
  refine cal_of D scLRaised (by rintro _ _ _ _ _ ⟨p, n, rfl, _⟩; rfl) fun f cdv A outer s1 H E c hr tk hp ss st k h => ?_
  obtain ⟨p, e, rfl, hp1, he1, h⟩ := h
  refine db_cons (dset 2 scLRaised.nd <| de_int ?_)
  refine db_cons (ds_for hp rfl <| di_range1 m1 <| dv 1 ⟨(e : Int), rfl, by omega, by omega, fun i ρ s => ∃ s3, ρ = [.dat (nD p), .dat (nD e), .dat (nD (p ^ i)), s3] ∧ st = s, ⟨_, rfl, rfl⟩, ?_, ?_⟩)
  · rintro i d ρ s hd ⟨s3, rfl, rfl⟩
    refine dgn 3 scLRaised.nd ?_
    refine db_one (dset 2 scLRaised.nd <| de_bin op_mul <| dv 2 <| dv 0 <| dop_I (d := nD (p ^ (i + 1))) (i := (p ^ i : Nat)) (j := (p : Nat)) ?_ (.inr (by omega)) ⟨_, rfl, rfl⟩)
    show some (PyData.int _) = some (PyData.int _)
    rw [Nat.pow_succ, Int.natCast_mul]
  · rintro ρ s ⟨s3, rfl, rfl⟩
    refine db_one (ds_ret <| dv 2 ⟨_, .dat _, ?_⟩)
    rw [ints_len]
    exact h
theorem ok_lpower (D : Df K mg "_law_power" sLPower ["prime", "number"]) (m1 : mg "abs" = none) (m2 : mg "int" = none) : Cal P w K mg base "_law_power" sLPower ["prime", "number"] 1 fPowerBy := by
  refine cal_of D scLPower (by rintro _ _ _ _ _ ⟨p, n, rfl, _⟩; rfl) fun f cdv A outer s1 H E c hr tk hp ss st k h => ?_
  obtain ⟨p, n, rfl, hpr, hn, h⟩ := h
  obtain ⟨h2, hp3⟩ := pr_small p hpr
  refine db_cons (dpar 2 3 scLPower.nd (by rfl) <| de_int <| de_callB call_abs (by rfl) m1 boot_abs <| da_cons <| dv 1 <| da_nil <| dcall_abs ?_)
  refine db_cons (ds_while hp (fun N ρ s => ∃ (i l : Nat), ρ = [.dat (nD p), .dat (.int n), .dat (nD i), .dat (nD l)] ∧ st = s ∧ 0 < l ∧ N = l ∧ i + mu p l = mu p n.natAbs) n.natAbs ⟨0, n.natAbs, rfl, rfl, by omega, rfl, by omega⟩ ?_)
  rintro N ρ s ⟨i, l, rfl, rfl, hl, rfl, hi⟩
  refine dt_cmp op_eq (nomark _) <| de_bin op_mod <| de_callTy call_int1 (by rfl) m2 boot_int <| da_cons <| dv 3 <| da_nil <| dcall_int <| dv 0 <| dop_I rfl ?_ <| de_int <| dop_eq (x := .int _) (y := .int _) rfl rfl rfl ⟨_, rfl, fun e => ?_, fun e => ?_⟩
  · show (0 : Int) < p
    omega
  · have e1 : ((N : Int) % (p : Int)) = 0 := V.int.inj (of_decide_eq_true e)
    have e2 : N % p = 0 := by omega
    refine db_one (dpar 2 3 scLPower.nd (by rfl) <| de_bin op_add <| dv 2 <| de_int <| dop_I0 rfl <| de_bin op_fdivW <| dv 3 <| dv 0 <| dop_I rfl ?_ ?_)
    · exact wide_div (b := 60) (show (0 : Int) < p by omega) (by show p < 2 ^ 60; omega) (by decide) (by decide)
    · have hd : p ∣ N := Nat.dvd_of_mod_eq_zero e2
      have hlt : N / p < N := Nat.div_lt_self hl (by omega)
      exact ⟨N / p, hlt, i + 1, N / p, rfl, rfl, Nat.div_pos (Nat.le_of_dvd hl hd) (by omega), rfl, by rw [← hi, mu_step h2 hl e2]; omega⟩
  · refine db_one (ds_ret <| dv 2 ⟨_, .dat _, ?_⟩)
    have e2 : ¬ N % p = 0 := fun z => of_decide_eq_false e (by rw [show ((N : Int) % (p : Int)) = 0 by omega])
    rw [mu_stop e2, Nat.add_zero] at hi
    rw [hi]
    exact h
/-- the sieve -/
def sieve : Nat → List Nat
  | 0 => []
  | i + 1 => sieve i ++ (if (sieve i).filter (fun l => (2 + i) % l == 0) = [] then [2 + i] else [])
theorem sieve_end : sieve 96 = PR := by decide +kernel
theorem sieve_ok : ∀ i, ∀ x ∈ sieve i, 2 ≤ x
  | 0, x, hx => by cases hx
  | i + 1, x, hx => by
    rcases List.mem_append.mp hx with hx | hx
    · exact sieve_ok i x hx
    · split at hx
      · rw [List.mem_singleton.mp hx]; omega
      · cases hx
theorem sieve_len : ∀ i, (sieve i).length ≤ i
  | 0 => Nat.le_refl _
  | i + 1 => by
    have := sieve_len i
    unfold sieve
    rw [List.length_append]
    split <;> simp <;> omega
theorem okInt (i : Int) : okD (.int i) := ⟨rfl, by simp [PyData.depth]⟩
theorem ok_nats (l : List Nat) : ∀ x ∈ l.map nD, okD x := fun x hx => by
  obtain ⟨n, _, rfl⟩ := List.mem_map.mp hx
  exact okInt _
theorem eqv_nil (xs : List PyData) : PyData.eqv (.list xs) (.list []) = xs.isEmpty := by cases xs <;> rfl
def fPrimes : Pd := fun m ss st k xk => ss = [] ∧ k (.dat (.list PRD)) st
theorem ok_lprimes (D : Df K mg "_law_primes" sLPrimes []) (m1 : mg "range" = none) : Cal P w K mg base "_law_primes" sLPrimes [] 1 fPrimes := by
  refine cal_of D scLPrimes (by rintro _ _ _ _ _ ⟨rfl, _⟩; rfl) fun f cdv A outer s1 H E c hr tk hp ss st k h => ?_
  obtain ⟨rfl, h⟩ := h
  refine db_cons (dset 0 scLPrimes.nd <| de_lst <| da_nil ⟨_, .nil, by decide, fun p0 => ?_⟩)
  refine db_cons (ds_for hp rfl <| di_range2 m1 <| de_int ⟨_, rfl, de_int ⟨_, rfl, ⟨by decide, by decide, by decide, by decide⟩, fun i ρ s => ∃ p s1 s2, ρ = [.own p ((sieve i).map nD), s1, s2] ∧ st = s, ⟨p0, _, _, rfl, rfl⟩, ?_, ?_⟩⟩)
  · rintro i d ρ s hd ⟨p, s1, s2, rfl, rfl⟩
    obtain ⟨hi, rfl⟩ := ints_get hd
    refine dgn 1 scLPrimes.nd ?_
    have hsl := sieve_len i
    have e0 : (2 + (i : Int)) = ((2 + i : Nat) : Int) := by omega
    refine db_one (dset 0 scLPrimes.nd <| de_bin op_cat <| dv 0 <| de_if <| dt_cmp (op_eqD hr.units) (nomark _) <| dlcV 0 2 scLPrimes.nd ⟨fun n acc s => acc = (((sieve i).take n).filter fun l => (2 + i) % l == 0).map nD ∧ st = s, ⟨rfl, rfl⟩, ?_, ?_⟩)
    · rintro n d acc s hd ⟨rfl, rfl⟩
      obtain ⟨q, hq, rfl⟩ : ∃ q, (sieve i)[n]? = some q ∧ d = nD q := by
        rw [List.getElem?_map] at hd
        cases e : (sieve i)[n]? with
        | none => rw [e] at hd; cases hd
        | some p => rw [e] at hd; cases hd; exact ⟨p, rfl, rfl⟩
      have h2 := sieve_ok i q (List.mem_of_getElem? hq)
      have em : (((2 + i) % q : Nat) : Int) = (2 + (i : Int)) % (q : Int) := by rw [e0]; rfl
      refine ⟨?_, fun s0 H0 C cl fp => dt_cmp op_eq (nomark _) <| de_bin op_mod <| dv 1 <| dv 2 <| dop_I (i := 2 + (i : Int)) (j := (q : Int)) rfl (by show (0 : Int) < q; omega) <| de_int <| dop_eq (x := .int _) (y := .int _) rfl rfl rfl ⟨_, rfl, fun e => ?_, fun e => ?_⟩⟩
      · rw [List.length_map]
        refine Nat.lt_of_le_of_lt (List.length_filter_le _ _) ?_
        rw [List.length_take]
        have : i < 96 := hi
        omega
      · have e1 : (2 + i) % q = 0 := by have : (2 + (i : Int)) % (q : Int) = 0 := V.int.inj (of_decide_eq_true e); rw [← em] at this; exact Int.ofNat.inj this
        refine fun s0 H0 C cl fp => dv 2 ⟨_, .dat .nil, rfl, ?_, rfl⟩
        rw [List.take_add_one, hq, List.filter_append, List.map_append]
        simp [e1]
      · have e1 : ¬ (2 + i) % q = 0 := fun z => of_decide_eq_false e (congrArg V.int (show (2 + (i : Int)) % (q : Int) = 0 by rw [← em, z]; rfl))
        refine ⟨rfl, ?_, rfl⟩
        rw [List.take_add_one, hq, List.filter_append, List.map_append]
        simp [e1]
    · rintro acc s ⟨rfl, rfl⟩ p1
      have e3 : (sieve i).take ((sieve i).map nD).length = sieve i := by rw [List.length_map, List.take_length]
      rw [e3]
      refine de_lst <| da_nil ⟨_, .nil, by decide, fun p2 => dop_eqD (.own p1 _) (.own p2 []) (shaped_list (ok_nats _)) (by decide) ⟨_, rfl, fun e => ?_, fun e => ?_⟩⟩
      · rw [eqv_nil] at e
        have e4 : (sieve i).filter (fun l => (2 + i) % l == 0) = [] := by
          cases q : (sieve i).filter (fun l => (2 + i) % l == 0) with
          | nil => rfl
          | cons a b => rw [q] at e; cases e
        refine de_lst <| da_cons <| dv 1 <| da_nil ⟨_, .dat .nil, by simp, fun p3 => dop_cat (.ref p _ 0 rfl) (.own p3 _) ?_ fun p4 => ⟨p4, .dat (.int (2 + (i : Int))), .any, ?_, rfl⟩⟩
        · rw [List.length_map]; have : i < 96 := hi; simp; omega
        · show [DL.Slot.own p4 ((sieve i).map nD ++ [.int (2 + (i : Int))]), .dat (.int (2 + (i : Int))), .any] = _
          rw [sieve, if_pos e4, List.map_append]
          show _ = [DL.Slot.own p4 ((sieve i).map nD ++ [.int ((2 + i : Nat) : Int)]), _, _]
          rw [← e0]
      · rw [eqv_nil] at e
        have e4 : ¬ (sieve i).filter (fun l => (2 + i) % l == 0) = [] := fun z => by rw [z] at e; cases e
        refine de_lst <| da_nil ⟨_, .nil, by simp, fun p3 => dop_cat (.ref p _ 0 rfl) (.own p3 _) ?_ fun p4 => ⟨p4, .dat (.int (2 + (i : Int))), .any, ?_, rfl⟩⟩
        · rw [List.length_map]; have : i < 96 := hi; simp; omega
        · show [DL.Slot.own p4 ((sieve i).map nD ++ []), .dat (.int (2 + (i : Int))), .any] = _
          rw [sieve, if_neg e4, List.append_nil, List.append_nil]
  · rintro ρ s ⟨p, s1, s2, rfl, rfl⟩
    refine db_one (ds_ret <| dv 0 ⟨_, .vlst p _ 0 rfl, ?_⟩)
    rw [ints_len]
    have e : ((98 : Int) - 2).toNat = 96 := by decide
    rw [e, sieve_end]
    exact h
end
end K00

namespace K00
open PySem PySem.Spec PyProof.Rows L2 DL LH
section
variable {P : Program} {w : World} {K : PySem.W.Frag} {mg : Str → Option Value} {base : Heap}
def oddD : List PyData := [.none, .int 0, .int (-1), .bool true, .str "", .str "a", .tuple [], .list [], .dict [], .tuple [.int 0, .int 0], .tuple [.int 1, .int 2], .list [.tuple [.int 0, .int 1]], .dict [(.str "a", .int 1)], .int 9, .tuple [.bool true, .int 1], .tuple [.tuple [.int 0, .int 1]]]
def fOdd : Pd := fun m ss st k xk => ∃ (dr la ca : Addr) (cs : List Int) (hd : HasDraw m dr la ca cs), ss = [.raw (.ref dr)] ∧ ∀ d ∈ oddD, ∀ st' : m.St, k (.dat d) st'
theorem ok_odd (D : Df K mg "_law_odd" sOdd ["draw"]) (C1 : Cal P w K mg base "_law_pick" sPick ["draw", "some"] 3 fPick) : Cal P w K mg base "_law_odd" sOdd ["draw"] 4 fOdd := by
  refine cal_of D scOdd (by rintro _ _ _ _ _ ⟨_, _, _, _, _, rfl, _⟩; rfl) fun f cdv A outer s1 H E c hr tk hp ss st k h => ?_
  obtain ⟨dr, la, ca, cs, hd, rfl, h⟩ := h
  refine db_one (ds_ret <| dc_call C1 hr tk ?_)
  refine da_cons <| dv 0 <| da_cons <| de_lst ?_
  refine da_cons ?_
  refine de_non ?_
  refine da_cons ?_
  refine de_int ?_
  refine da_cons ?_
  refine de_neg ?_
  refine de_int ⟨_, rfl, ?_⟩
  refine da_cons ?_
  refine de_bl ?_
  refine da_cons ?_
  refine de_str ?_
  refine da_cons ?_
  refine de_str ?_
  refine da_cons ?_
  refine de_tup <| da_nil ⟨_, .nil, by simp, ?_⟩
  refine da_cons ?_
  refine de_lst <| da_nil ⟨_, .nil, by simp, fun p1 => ?_⟩
  refine da_cons ?_
  refine de_dict0 ?_
  refine da_cons ?_
  refine de_tup <| da_cons <| de_int <| da_cons <| de_int <| da_nil ⟨_, .dat (.dat .nil), by simp, ?_⟩
  refine da_cons ?_
  refine de_tup <| da_cons <| de_int <| da_cons <| de_int <| da_nil ⟨_, .dat (.dat .nil), by simp, ?_⟩
  refine da_cons ?_
  refine de_lst <| da_cons <| de_tup <| da_cons <| de_int <| da_cons <| de_int <| da_nil ⟨_, .dat (.dat .nil), by simp, da_nil ⟨_, .dat .nil, by simp, fun p2 => ?_⟩⟩
  refine da_cons ?_
  refine de_dict1 pe_str pe_int rfl ?_
  refine da_cons ?_
  refine de_int ?_
  refine da_cons ?_
  refine de_tup ?_
  refine da_cons ?_
  refine de_bl ?_
  refine da_cons <| de_int <| da_nil ⟨_, .dat (.dat .nil), by simp, ?_⟩
  refine da_cons ?_
  refine de_tup <| da_cons <| de_tup <| da_cons <| de_int <| da_cons <| de_int <| da_nil ⟨_, .dat (.dat .nil), by simp, da_nil ⟨_, .dat .nil, by simp, ?_⟩⟩
  refine da_nil ⟨oddD, ?_, by decide, fun p => da_nil fun A => ⟨dr, la, ca, cs, hd.avoid A, oddD, rfl, by decide, by decide, fun d hd' st' => ⟨_, .dat _, h d hd' st'⟩⟩⟩
  exact .dat (.dat (.dat (.dat (.dat (.dat (.dat (.own (.dat (.dat (.dat (.own (.dat (.dat (.dat (.dat .nil)))))))))))))))
def fNumberOf : Pd := fun m ss st k xk => ∃ (dr la ca : Addr) (cs : List Int) (hd : HasDraw m dr la ca cs), ss = [.raw (.ref dr)] ∧ ∀ n : Int, n ≠ 0 → n.natAbs < 2 ^ 640 → ∀ st' : m.St, k (.dat (.int n)) st'
def firstD : List PyData := [.int 1, .int 1, .int 101, .int 10403, .int 10007, .int 10000000000000000000000000000000000000007]
theorem first_ok : ∀ d ∈ firstD, ∃ z : Int, d = .int z ∧ z ≠ 0 ∧ z.natAbs < 2 ^ 140 := fun d h => by
  unfold firstD at h
  simp only [List.mem_cons, List.not_mem_nil, or_false] at h
  rcases h with rfl | rfl | rfl | rfl | rfl | rfl <;> exact ⟨_, rfl, by decide, by decide⟩
theorem ok_number_of (D : Df K mg "_law_number_of" sNumberOf ["draw"]) (C1 : Cal P w K mg base "_law_pick" sPick ["draw", "some"] 3 fPick) (C2 : Cal P w K mg base "_law_take" sTake ["draw", "amount"] 2 fTake) (C3 : Cal P w K mg base "_law_raised" sLRaised ["prime", "power"] 1 fRaised) (C4 : Cal P w K mg base "_law_primes" sLPrimes [] 1 fPrimes)
    (m1 : mg "range" = none) : Cal P w K mg base "_law_number_of" sNumberOf ["draw"] 4 fNumberOf := by
  refine cal_of D scNumberOf (by rintro _ _ _ _ _ ⟨_, _, _, _, _, rfl, _⟩; rfl) fun f cdv A outer s1 H E c hr tk hp ss st k h => ?_
  obtain ⟨dr, la, ca, cs, hd, rfl, h⟩ := h
  refine db_cons (dset 1 scNumberOf.nd <| dc_call C1 hr tk <| da_cons <| dv 0 <| da_cons <| de_lst <| da_cons <| de_int <| da_cons <| de_int <| da_cons <| de_int <| da_cons <| de_bin op_mul <| de_int <| de_int <| dop_I rfl (.inr (by decide)) <| da_cons <| de_int <| da_cons <| de_bin op_add <| de_bin op_pow <| de_int <| de_int <| dop_I rfl ⟨by decide, by decide, by decide⟩ <| de_int <| dop_I0 rfl <| da_nil ⟨firstD, ?_, by decide, fun p => da_nil fun A => ⟨dr, la, ca, cs, hd.avoid A, firstD, rfl, by decide, by decide, fun d hd' st' => ?_⟩⟩)
  · exact .dat (.dat (.dat (.dat (.dat (.dat .nil)))))
  obtain ⟨z, rfl, hz, hz2⟩ := first_ok d hd'
  refine db_cons (ds_for hp rfl <| di_range1 m1 <| dc_call C2 (hr.mono (by decide)) tk <| da_cons <| dv 0 <| da_cons <| de_int <| da_nil fun A => ⟨dr, la, ca, cs, hd.avoid A, 12, rfl, by decide, by decide, fun i st' hi0 hi1 => ⟨i, rfl, by omega, by omega, fun n ρ s => ∃ (z : Int) (s2 : DL.Slot), ρ = [.raw (.ref dr), .dat (.int z), s2] ∧ z ≠ 0 ∧ z.natAbs < 2 ^ (140 + 42 * n), ⟨z, _, rfl, hz, by simpa using hz2⟩, ?_, ?_⟩⟩)
  · rintro n d ρ s hd2 ⟨z, s2, rfl, hz, hz2⟩
    obtain ⟨hn, rfl⟩ := ints_get hd2
    have hn12 : n < 12 := by omega
    refine dgn 2 scNumberOf.nd ?_
    refine db_one (dset 1 scNumberOf.nd <| de_bin op_mulW <| dv 1 <| dc_call C3 (hr.mono (by decide)) tk <| da_cons <| dc_call C1 hr tk <| da_cons <| dv 0 <| da_cons <| dc_call0 C4 (hr.mono (by decide)) tk fun A => ⟨rfl, da_nil fun A => ⟨dr, la, ca, cs, hd.avoid A, PRD, rfl, by decide, by decide, fun d hd3 st2 => ?_⟩⟩)
    obtain ⟨p, hp1, rfl⟩ := List.mem_map.mp hd3
    have hps := pr_small p hp1
    refine da_cons <| de_bin op_add <| de_int <| dc_call C2 (hr.mono (by decide)) tk <| da_cons <| dv 0 <| da_cons <| de_int <| da_nil fun A => ⟨dr, la, ca, cs, hd.avoid A, 6, rfl, by decide, by decide, fun j st3 hj0 hj1 => ?_⟩
    obtain ⟨e, rfl⟩ : ∃ e : Nat, j = e := ⟨j.toNat, by omega⟩
    have hpow : p ^ (1 + e) < 2 ^ 42 := Nat.lt_of_lt_of_le (Nat.pow_lt_pow_left (show p < 2 ^ 7 by omega) (by omega)) (by rw [← Nat.pow_mul]; exact Nat.pow_le_pow_right (by decide) (by omega))
    have hpos : 0 < p ^ (1 + e) := Nat.pow_pos (by omega)
    refine dop_I0 (d := nD (1 + e)) (by show some (PyData.int _) = some (PyData.int _); rw [Int.natCast_add]; rfl) <| da_nil fun A => ⟨p, 1 + e, rfl, by omega, by omega, dop_I rfl ?_ ⟨_, _, rfl, ?_, ?_⟩⟩
    · exact wide_mul (a := 140 + 42 * n) (b := 42) hz2 hpow (by omega) (by decide) (by omega)
    · exact Int.mul_ne_zero hz (by omega)
    · have := wide_lt (j := ((p ^ (1 + e) : Nat) : Int)) hz2 hpow
      rw [show 140 + 42 * (n + 1) = 140 + 42 * n + 42 by omega]
      exact this
  · rintro ρ s ⟨z, s2, rfl, hz, hz2⟩
    rw [ints_len] at hz2
    have hi12 : i < 12 := hi1
    have he : 140 + 42 * i.toNat ≤ 640 := by omega
    have hz3 : z.natAbs < 2 ^ 640 := Nat.lt_of_lt_of_le hz2 (Nat.pow_le_pow_right (by decide) he)
    refine db_one (ds_ret <| de_bin op_mul <| dv 1 <| dc_call C1 hr tk <| da_cons <| dv 0 <| da_cons <| de_lst <| da_cons <| de_int <| da_cons <| de_neg <| de_int ⟨_, rfl, da_nil ⟨_, .dat (.dat .nil), by simp, fun p => da_nil fun A => ⟨dr, la, ca, cs, hd.avoid A, [.int 1, .int (-1)], rfl, by decide, by decide, fun d hd' st' => ?_⟩⟩⟩)
    simp only [List.mem_cons, List.not_mem_nil, or_false] at hd'
    rcases hd' with rfl | rfl
    · exact dop_I rfl (.inr (by decide)) ⟨_, .dat _, h _ (by omega) (by rw [Int.mul_one]; exact hz3) _⟩
    · exact dop_I rfl (.inr (by decide)) ⟨_, .dat _, h _ (by omega) (by rw [show z * -1 = -z by omega, Int.natAbs_neg]; exact hz3) _⟩
end
end K00

namespace K00
open PySem PySem.Spec PyProof.Rows L2 DL LH
section
variable {P : Program} {w : World} {K : PySem.W.Frag} {mg : Str → Option Value} {base : Heap}
theorem szA_nats : ∀ l : List Nat, szA (l.map nD) = l.length
  | [] => rfl
  | x :: l => by
    show szD (nD x) + szA (l.map nD) = l.length + 1
    rw [szA_nats l]
    show 1 + _ = _
    omega
theorem prsD_len (n : Int) : (prsD n).length ≤ 25 := by
  unfold prsD prs
  rw [List.length_map]
  exact Nat.le_trans (List.length_filter_le _ _) (by decide)
theorem ok_tup {l : List Nat} : okD (.tuple (l.map nD)) := by
  refine ⟨by rw [PyData.canLay0]; exact canAll_iff.mpr fun x hx => (ok_nats l x hx).1, ?_⟩
  rw [PyData.depth]
  have : PyData.depthAll (l.map nD) ≤ 0 := depthAll_le.mpr fun x hx => by
    obtain ⟨n, _, rfl⟩ := List.mem_map.mp hx
    exact Nat.le_refl _
  omega
theorem ok_tup2 {l : List Nat} : okD (.tuple (l.map nD)) ∧ (PyData.tuple (l.map nD)).depth ≤ 50 := by
  refine ⟨ok_tup, ?_⟩
  rw [PyData.depth]
  have : PyData.depthAll (l.map nD) ≤ 0 := depthAll_le.mpr fun x hx => by
    obtain ⟨n, _, rfl⟩ := List.mem_map.mp hx
    exact Nat.le_refl _
  omega
theorem ok_lst {xs : List PyData} (h : ∀ x ∈ xs, okD x ∧ x.depth ≤ 50) : okD (.list xs) := by
  refine ⟨by rw [PyData.canLay0]; exact canAll_iff.mpr fun x hx => (h x hx).1.1, ?_⟩
  rw [PyData.depth]
  have : PyData.depthAll xs ≤ 50 := depthAll_le.mpr fun x hx => (h x hx).2
  omega
def fRight : Pd := fun m ss st k xk => ∃ (dr la ca : Addr) (cs : List Int) (hd : HasDraw m dr la ca cs), ss = [.raw (.ref dr)] ∧ ∀ st' : m.St, k (.dat (.bool true)) st'
theorem ok_right {CP CN : Addr} (D : Df K mg "_law_right" sRight ["draw"]) (C1 : Cal P w K mg base "_law_pick" sPick ["draw", "some"] 3 fPick) (C2 : Cal P w K mg base "_law_number_of" sNumberOf ["draw"] 4 fNumberOf) (C3 : Cal P w K mg base "_law_raised" sLRaised ["prime", "power"] 1 fRaised) (C4 : Cal P w K mg base "_law_primes" sLPrimes [] 1 fPrimes) (C5 : Cal P w K mg base "_law_power" sLPower ["prime", "number"] 1 fPowerBy) (C6 : Cal P w K mg base "_law_says" sSays ["told", "due"] 2 fSays)
    (C7 : Cal P w K mg base "primes_in" sPrimesIn ["number"] 3 (fPrimesIn CN)) (C8 : Cal P w K mg base "rest_of" sRestOf ["number"] 3 (fRestOf CN)) (C9 : Cal P w K mg base "power_in" sPowerIn ["prime", "number"] 4 (fPowerIn CP CN)) (m1 : mg "tuple" = none) (m2 : mg "abs" = none) (m3 : mg "list" = none) : Cal P w K mg base "_law_right" sRight ["draw"] 5 fRight := by
  refine cal_of D scRight (by rintro _ _ _ _ _ ⟨_, _, _, _, _, rfl, _⟩; rfl) fun f cdv A outer s1 H E c hr tk hp ss st k h => ?_
  obtain ⟨dr, la, ca, cs, hd, rfl, h⟩ := h
  refine db_cons (ds_asgD <| de_tup <| da_cons <| dc_call C2 hr tk <| da_cons <| dv 0 <| da_nil fun A => ⟨dr, la, ca, cs, hd.avoid A, rfl, fun n hn hb st' => da_cons <| dc_call0 C4 (hr.mono (by decide)) tk fun A => ⟨rfl, da_nil ⟨_, .dat (.dat .nil), by simp, _, rfl, dg_tup rfl <| dgs_cons <| dgn 1 scRight.nd <| dgs_cons <| dgn 2 scRight.nd <| dgs_nil ?_⟩⟩⟩)
  have h0 : 0 < n.natAbs := by omega
  refine db_cons (dpar 3 4 scRight.nd (by rfl) <| de_callTy call_tuple_of (by rfl) m1 boot_tuple <| da_cons <| dlc 5 scRight.nd <| di_list <| dv 2 <| .inl ⟨_, rfl, fun i acc s => acc = ((PR.take i).filter fun p => n.natAbs % p == 0).map nD ∧ st' = s, ⟨rfl, rfl⟩, ?_, ?_⟩)
  · rintro i d acc s hd ⟨rfl, rfl⟩
    obtain ⟨p, hp, rfl⟩ : ∃ p, PR[i]? = some p ∧ d = nD p := by
      have : (PR.map nD)[i]? = some d := hd
      rw [List.getElem?_map] at this
      cases e : PR[i]? with
      | none => rw [e] at this; cases this
      | some p => rw [e] at this; cases this; exact ⟨p, rfl, rfl⟩
    have hpr := List.mem_of_getElem? hp
    obtain ⟨h2, h3⟩ := pr_small p hpr
    refine ⟨?_, fun s0 H0 C cl fp => dt_cmp op_gt (nomark _) <| dc_call C5 (hr.mono (by decide)) LamX.takes0 <| da_cons <| dv 5 <| da_cons <| dv 1 <| da_nil fun A => ⟨p, n, rfl, hpr, hn, de_int <| dop_I0 rfl ⟨_, rfl, fun e => ?_, fun e => ?_⟩⟩⟩
    · rw [List.length_map]
      refine Nat.lt_of_le_of_lt (List.length_filter_le _ _) ?_
      rw [List.length_take]
      exact Nat.lt_of_le_of_lt (Nat.min_le_right _ _) (by decide)
    · have e0 : 0 < mu p n.natAbs := by have := of_decide_eq_true e; omega
      have e1 : n.natAbs % p = 0 := (mu_pos h2 h0).mp e0
      refine fun s0 H0 C cl fp => dv 5 ⟨_, .dat .nil, rfl, ?_, rfl⟩
      rw [List.take_add_one, hp, List.filter_append, List.map_append]
      simp [e1]
    · have e1 : ¬ n.natAbs % p = 0 := fun z => of_decide_eq_false e (by have := (mu_pos h2 h0).mpr z; omega)
      refine ⟨rfl, ?_, rfl⟩
      rw [List.take_add_one, hp, List.filter_append, List.map_append]
      simp [e1]
  rintro acc s ⟨rfl, rfl⟩ p
  refine da_nil <| dcall_tuple (.own _ _) (.lst _) <| de_callB call_abs (by rfl) m2 boot_abs <| da_cons <| dv 1 <| da_nil <| dcall_abs ?_
  have eP : ((PR.take PRD.length).filter fun p => n.natAbs % p == 0).map nD = prsD n := rfl
  rw [eP]
  refine db_cons (ds_for hp rfl <| di_tup <| dv 3 ⟨_, rfl, fun i ρ s => ∃ s5, ρ = [.raw (.ref dr), .dat (.int n), .dat (.list PRD), .dat (.tuple (prsD n)), .dat (nD (restP n.natAbs ((prs n.natAbs).take i))), s5, .any, .any], ⟨_, rfl⟩, ?_, ?_⟩)
  · rintro i d ρ s hd ⟨s5, rfl⟩
    obtain ⟨p, hp1, rfl, hp2⟩ := prsD_get hd
    have hs := pr_small p hp2
    refine dgn 5 scRight.nd ?_
    refine db_one (dset 4 scRight.nd <| de_bin op_fdivW <| dv 4 <| dc_call C3 (hr.mono (by decide)) tk <| da_cons <| dv 5 <| da_cons <| dc_call C5 (hr.mono (by decide)) tk <| da_cons <| dv 5 <| da_cons <| dv 1 <| da_nil fun A => ⟨p, n, rfl, hp2, hn, da_nil fun A => ⟨p, mu p n.natAbs, rfl, by omega, by have := mu_lt (p := p) hs.1 h0 hb; omega, dop_I (d := nD (restP n.natAbs ((prs n.natAbs).take i) / powP n.natAbs p)) rfl ?_ ⟨.dat (nD p), ?_⟩⟩⟩)
    · have h3 := powP_pos (n := n.natAbs) hs.1
      exact wide_div (b := 640) (by show (0 : Int) < ((p ^ mu p n.natAbs : Nat) : Int); exact Int.natCast_pos.mpr h3) (by show p ^ mu p n.natAbs < 2 ^ 640; exact Nat.lt_of_le_of_lt (powP_le h0 hs.1) hb) (by decide) (by decide)
    · rw [restP_take _ _ _ _ hp1]
      rfl
  rintro ρ s ⟨s5, rfl⟩
  have e : (prs n.natAbs).take (prsD n).length = prs n.natAbs := by
    unfold prsD
    rw [List.length_map, List.take_length]
  rw [e]
  have hg : ∀ {p : Prop}, goodN (.int n) = false → p := fun {p} z => absurd hn (by have z := of_decide_eq_false z; exact z)
  have hbn : ∀ n' : Int, PyData.int n = .int n' → n'.natAbs < 2 ^ 640 := fun n' z => by cases z; exact hb
  -- the first of them
  refine db_cons (ds_if <| dt_not <| dt_val <| dc_call C6 (hr.mono (by decide)) tk <| da_cons <| de_lst ?_)
  refine da_cons ?_
  refine dc_call C7 (hr.mono (by decide)) tk <| da_cons <| dv 1 <| da_nil fun A => ⟨.int n, rfl, hg, fun n' _ en => ?_⟩
  cases en
  refine da_cons ?_
  refine dc_callK false (ks := ["number"]) C7 (hr.mono (by decide)) tk (fun _ _ _ _ _ _ ws h => by match ws, h with | [_], _ => rfl) <| dk_cons <| dv 1 <| dk_nil fun A => ⟨.int n, rfl, hg, fun n' _ en => ?_⟩
  cases en
  refine da_cons ?_
  refine dc_call C8 (hr.mono (by decide)) tk <| da_cons <| dv 1 <| da_nil fun A => ⟨.int n, rfl, hbn, hg, fun n' _ en => ?_⟩
  cases en
  refine da_cons ?_
  refine dc_callK false (ks := ["number"]) C8 (hr.mono (by decide)) tk (fun _ _ _ _ _ _ ws h => by match ws, h with | [_], _ => rfl) <| dk_cons <| dv 1 <| dk_nil fun A => ⟨.int n, rfl, hbn, hg, fun n' _ en => ?_⟩
  cases en
  obtain ⟨L, eL⟩ : ∃ L : List PyData, L = [.tuple (prsD n), .tuple (prsD n), nD (restN n.natAbs), nD (restN n.natAbs)] := ⟨_, rfl⟩
  have okL : okD (.list L) := by
    subst eL
    refine ok_lst fun x hx => ?_
    simp only [List.mem_cons, List.not_mem_nil, or_false] at hx
    rcases hx with rfl | rfl | rfl | rfl
    · exact ok_tup2
    · exact ok_tup2
    · exact ⟨okInt _, by simp [nD, PyData.depth]⟩
    · exact ⟨okInt _, by simp [nD, PyData.depth]⟩
  have szL : szD (.list L) ≤ 100000 := by
    subst eL
    have h1 := prsD_len n
    have h2 : szA (prsD n) = (prsD n).length := by unfold prsD; rw [szA_nats, List.length_map]
    simp [szD, szA, nD]
    omega
  refine da_nil ⟨L, by subst eL; exact .dat (.dat (.dat (.dat .nil))), by subst eL; simp, fun p1 => ?_⟩
  refine da_cons ?_
  refine de_lst <| da_cons <| dv 3 <| da_cons <| dv 3 <| da_cons <| dv 4 <| da_cons <| dv 4 <| da_nil ⟨L, by subst eL; exact .dat (.dat (.dat (.dat .nil))), by subst eL; simp, fun p2 => da_nil fun A => ⟨.list L, rfl, okL, szL, true, rfl, ?_⟩⟩
  refine ⟨fun z => absurd z (by decide), fun _ => db_nil ?_⟩
  -- the powers
  refine db_cons (ds_for hp rfl <| di_list <| de_bin op_cat <| de_callTy call_list_of (by rfl) m3 boot_list <| da_cons <| dv 3 <| da_nil <| dcall_list (.dat _) (.tup _) fun p1 => de_lst <| da_cons <| dc_call C1 (hr.mono (by decide)) tk <| da_cons <| dv 0 <| da_cons <| dv 2 <| da_nil fun A => ⟨dr, la, ca, cs, hd.avoid A, PRD, rfl, by decide, by decide, fun d hd' st2 => da_nil ⟨[d], .dat .nil, by simp, fun p2 => dop_cat (.own p1 _) (.own p2 _) ?_ fun p3 => .inr ⟨p3, _, rfl, fun i ρ s => ∃ s5 s6, ρ = [.raw (.ref dr), .dat (.int n), .dat (.list PRD), .dat (.tuple (prsD n)), .dat (nD (restN n.natAbs)), s5, s6, .any], ⟨_, _, rfl⟩, ?_, ?_⟩⟩⟩)
  · have := prsD_len n
    simp
    omega
  · rintro i d2 ρ s hd2 ⟨s5, s6, rfl⟩
    obtain ⟨q, hq, rfl⟩ : ∃ q ∈ PR, d2 = nD q := by
      rcases List.mem_append.mp (List.mem_of_getElem? hd2) with z | z
      · obtain ⟨q, hq, rfl⟩ := List.mem_map.mp z
        exact ⟨q, prs_sub _ q hq, rfl⟩
      · rw [List.mem_singleton.mp z]
        obtain ⟨q, hq, rfl⟩ := List.mem_map.mp hd'
        exact ⟨q, hq, rfl⟩
    have hpf : ∀ {p : Prop}, isPr (nD q) = false → p := fun {p} z => by rw [isPr_mem hq] at z; cases z
    have ok2 : okD (.list [nD (mu q n.natAbs), nD (mu q n.natAbs)]) := ok_lst fun x hx => by
      simp only [List.mem_cons, List.not_mem_nil, or_false] at hx
      rcases hx with rfl | rfl <;> exact ⟨okInt _, by simp [nD, PyData.depth]⟩
    refine dgn 5 scRight.nd ?_
    refine db_cons (dset 6 scRight.nd <| dc_call C5 (hr.mono (by decide)) tk <| da_cons <| dv 5 <| da_cons <| dv 1 <| da_nil fun A => ⟨q, n, rfl, hq, hn, ?_⟩)
    refine db_one (ds_if <| dt_not <| dt_val <| dc_call C6 (hr.mono (by decide)) tk <| da_cons <| de_lst ?_)
    refine da_cons ?_
    refine dc_call C9 (hr.mono (by decide)) tk <| da_cons <| dv 5 <| da_cons <| dv 1 <| da_nil fun A => ⟨nD q, .int n, rfl, hpf, fun _ => hg, fun p' hp' n' e1 _ e2 => ?_⟩
    cases e2
    have e3 : q = p' := Int.ofNat.inj (PyData.int.inj e1)
    subst e3
    refine da_cons ?_
    refine dc_callK true (ks := ["number", "prime"]) C9 (hr.mono (by decide)) tk (fun _ _ _ _ _ _ ws h => by match ws, h with | [_, _], _ => rfl) <| dk_cons <| dv 1 <| dk_cons <| dv 5 <| dk_nil fun A => ⟨nD q, .int n, rfl, hpf, fun _ => hg, fun p' hp' n' e1 _ e2 => ?_⟩
    cases e2
    have e3 : q = p' := Int.ofNat.inj (PyData.int.inj e1)
    subst e3
    refine da_nil ⟨_, .dat (.dat .nil), by simp, fun p1 => ?_⟩
    refine da_cons ?_
    refine de_lst <| da_cons <| dv 6 <| da_cons <| dv 6 <| da_nil ⟨_, .dat (.dat .nil), by simp, fun p2 => da_nil fun A => ⟨_, rfl, ok2, by simp [szD, szA, nD], true, rfl, ?_⟩⟩
    exact ⟨fun z => absurd z (by decide), fun _ => db_nil ⟨_, _, rfl⟩⟩
  rintro ρ s ⟨s5, s6, rfl⟩
  refine db_cons (dset 7 scRight.nd <| dc_call C8 (hr.mono (by decide)) tk <| da_cons <| dv 1 <| da_nil fun A => ⟨.int n, rfl, hbn, hg, fun n' _ en => ?_⟩)
  cases en
  refine db_cons (ds_for hp rfl <| di_tup <| dc_call C7 (hr.mono (by decide)) tk <| da_cons <| dv 1 <| da_nil fun A => ⟨.int n, rfl, hg, fun n' _ en => ?_⟩)
  cases en
  refine ⟨_, rfl, fun i ρ s => ∃ s5 s6, ρ = [.raw (.ref dr), .dat (.int n), .dat (.list PRD), .dat (.tuple (prsD n)), .dat (nD (restN n.natAbs)), s5, s6, .dat (nD (((prs n.natAbs).take i).foldl (fun a p => a * powP n.natAbs p) (restN n.natAbs)))] ∧ i ≤ 25 ∧ ((prs n.natAbs).take i).foldl (fun a p => a * powP n.natAbs p) (restN n.natAbs) < 2 ^ (640 + 640 * i), ⟨_, _, rfl, by omega, ?_⟩, ?_, ?_⟩
  · show restN n.natAbs < 2 ^ (640 + 640 * 0)
    refine Nat.lt_of_le_of_lt ?_ hb
    unfold restN restP
    rw [fold_div]
    exact Nat.div_le_self _ _
  · rintro i d ρ s hd ⟨s5, s6, rfl, hi, hw⟩
    obtain ⟨p, hp1, rfl, hp2⟩ := prsD_get hd
    have hs := pr_small p hp2
    have hpf : ∀ {r : Prop}, isPr (nD p) = false → r := fun {r} z => by rw [isPr_mem hp2] at z; cases z
    have hil : i < (prsD n).length := (List.getElem?_eq_some_iff.mp hd).1
    have hpl : powP n.natAbs p < 2 ^ 640 := Nat.lt_of_le_of_lt (powP_le h0 hs.1) hb
    have est : ((prs n.natAbs).take (i + 1)).foldl (fun a p => a * powP n.natAbs p) (restN n.natAbs) = ((prs n.natAbs).take i).foldl (fun a p => a * powP n.natAbs p) (restN n.natAbs) * powP n.natAbs p := by
      rw [List.take_add_one, hp1, List.foldl_append]
      rfl
    generalize hW : ((prs n.natAbs).take i).foldl (fun a p => a * powP n.natAbs p) (restN n.natAbs) = W at hw est
    refine dgn 5 scRight.nd ?_
    refine db_one (dset 7 scRight.nd <| de_bin op_mulW <| dv 7 <| dc_call C3 (hr.mono (by decide)) tk <| da_cons <| dv 5 <| da_cons <| dc_call C9 (hr.mono (by decide)) tk <| da_cons <| dv 5 <| da_cons <| dv 1 <| da_nil fun A => ⟨nD p, .int n, rfl, hpf, fun _ => hg, fun p' hp' n' e1 _ e2 => ?_⟩)
    cases e2
    have e3 : p = p' := Int.ofNat.inj (PyData.int.inj e1)
    subst e3
    refine da_nil fun A => ⟨p, mu p n.natAbs, rfl, by omega, by have := mu_lt (p := p) hs.1 h0 hb; omega, dop_I (d := nD (W * powP n.natAbs p)) ?_ ?_ ⟨.dat (nD p), s6, ?_, ?_, ?_⟩⟩
    · show some (PyData.int _) = some (PyData.int _)
      rw [Int.natCast_mul]
      rfl
    · exact wide_mul (a := 640 + 640 * i) (b := 640) hw hpl (by omega) (by decide) (by omega)
    · rw [est]
      rfl
    · have := prsD_len n
      omega
    · rw [est, show 640 + 640 * (i + 1) = 640 + 640 * i + 640 by omega, Nat.pow_add]
      exact Nat.mul_lt_mul'' hw hpl
  · rintro ρ s ⟨s5, s6, rfl, _, _⟩
    refine db_one (ds_ret <| de_cmp op_eq (nomark _) <| dv 7 <| de_callB call_abs (by rfl) m2 boot_abs <| da_cons <| dv 1 <| da_nil <| dcall_abs <| dop_eq (x := .int _) (y := .int _) rfl rfl rfl ⟨_, .dat _, ?_⟩)
    have e9 : (prs n.natAbs).take (prsD n).length = prs n.natAbs := by
      unfold prsD
      rw [List.length_map, List.take_length]
    rw [e9, whole_ok h0, decide_eq_true rfl]
    exact h _
end
end K00

namespace K00
open PySem PySem.Spec PyProof.Rows L2 DL LH LamX
abbrev sValues : Stmt := topS 32
theorem scValues : FnScope ["draw", "thing", "due", "bad", "errors"] ["draw"] (defScope sValues) := ⟨rfl, rfl, rfl, by decide +kernel, rfl, by decide +kernel, by decide +kernel⟩
theorem scCaught : FnScope ["work", "caught", "error"] ["work"] (defScope sCaught) := ⟨rfl, rfl, rfl, by decide +kernel, rfl, by decide +kernel, by decide +kernel⟩
section
variable {P : Program} {w : World} {K : PySem.W.Frag} {mg : Str → Option Value} {base : Heap}
def badD : List PyData := [.int 0, .none, .bool true, .str "6", .tuple [.int 6], .list []]
theorem bad_no : ∀ d ∈ badD, goodN d = false := fun d h => by
  unfold badD at h
  simp only [List.mem_cons, List.not_mem_nil, or_false] at h
  rcases h with rfl | rfl | rfl | rfl | rfl | rfl <;> rfl
def TV (T0 : Addr) : List (Addr × Str) := [(T0, (("_law_values_right" : Str) ++ (".<locals>." : Str)) ++ ("<lambda>" : Str))]
theorem memTV (T0 : Addr) : (T0, (("_law_values_right" : Str) ++ (".<locals>." : Str)) ++ ("<lambda>" : Str)) ∈ TV T0 := List.mem_singleton.mpr rfl
theorem allTV (T0 : Addr) : ∀ p ∈ TV T0, p.1 = T0 → p.2 = (("_law_values_right" : Str) ++ (".<locals>." : Str)) ++ ("<lambda>" : Str) := fun p hp _ => by rw [List.mem_singleton.mp hp]
def fValues (T : List (Addr × Str)) : Pd := fun m ss st k xk => ∃ (dr la ca : Addr) (cs : List Int) (hd : HasDraw m dr la ca cs), HasTabs m T ∧ ss = [.raw (.ref dr)] ∧ ∀ st' : m.St, k (.dat (.bool true)) st'
theorem ok_values {CP CN CS c0 T0 : Addr} (D : DfC K mg "_law_values_right" sValues ["draw"] c0) (TB : TabB base mg c0 T0) (CF : CauF K mg sCaught CS) (EP : ErrC K mg "BadPrime" CP CS) (EN : ErrC K mg "BadNumber" CN CS)
    (C1 : Cal P w K mg base "_law_pick" sPick ["draw", "some"] 3 fPick) (C2 : Cal P w K mg base "_law_take" sTake ["draw", "amount"] 2 fTake) (C3 : Cal P w K mg base "_law_odd" sOdd ["draw"] 4 fOdd) (C4 : Cal P w K mg base "_law_primes" sLPrimes [] 1 fPrimes) (C5 : Cal P w K mg base "_law_is_number" sLIsNumber ["thing"] 1 fIsNumber) (C6 : Cal P w K mg base "_law_says" sSays ["told", "due"] 2 fSays)
    (C7 : Cal P w K mg base "primes_in" sPrimesIn ["number"] 3 (fPrimesIn CN)) (C8 : Cal P w K mg base "rest_of" sRestOf ["number"] 3 (fRestOf CN)) (C9 : Cal P w K mg base "power_in" sPowerIn ["prime", "number"] 4 (fPowerIn CP CN)) (Ca : Cal P w K mg base "is_prime" sIsPrime ["thing"] 3 fIsPrimeOf) (m1 : mg "isinstance" = none) : Cal P w K mg base "_law_values_right" sValues ["draw"] 7 (fValues (TV T0)) := by
  refine calC_of D scValues (by rintro _ _ _ _ _ ⟨_, _, _, _, _, _, rfl, _⟩; rfl) fun f A outer s1 H E c hr tk hp ss st k h => ?_
  obtain ⟨dr, la, ca, cs, hd, hT, rfl, h⟩ := h
  have hC : ∃ (jn : Nat) (p0 p0' p0'' p1 p2 p3 p4 p5 p6 p7 p8 p9 p10 p11 : Pos), defBody sCaught = [.Assign [.Name "caught" p0] (.Constant .none jn p0') p0'', .Try [.Expr (.Call (.Name "work" p1) [] [] p2) p3] [.ExceptHandler (some (.Name "ShapeError" p4)) (some "error") [.Assign [.Name "caught" p5] (.Name "error" p6) p7] p8] [] [] p9, .Return (some (.Name "caught" p10)) p11] := ⟨_, _, _, _, _, _, _, _, _, _, _, _, _, _, _, rfl⟩
  refine db_cons (ds_for hp rfl <| di_list <| de_lst ?_)
  refine da_cons ?_
  refine de_bin op_sub <| dc_call C2 (hr.mono (by decide)) tk <| da_cons <| dv 0 <| da_cons <| de_int <| da_nil fun A => ⟨dr, la, ca, cs, hd.avoid A, 130, rfl, by decide, by decide, fun i1 st1 _ _ => de_int <| dop_I0 rfl ?_⟩
  refine da_cons ?_
  refine dc_call C2 (hr.mono (by decide)) tk <| da_cons <| dv 0 <| da_cons <| de_int <| da_nil fun A => ⟨dr, la, ca, cs, hd.avoid A, 130, rfl, by decide, by decide, fun i2 st2 _ _ => ?_⟩
  refine da_cons ?_
  refine dc_call C3 (hr.mono (by decide)) tk <| da_cons <| dv 0 <| da_nil fun A => ⟨dr, la, ca, cs, hd.avoid A, rfl, fun d3 _ st3 => ?_⟩
  refine da_cons ?_
  refine de_int ?_
  refine da_cons ?_
  refine de_int ?_
  refine da_cons ?_
  refine de_bin op_mul <| de_int <| de_int <| dop_I rfl (.inr (by decide)) ?_
  refine da_cons ?_
  refine de_neg <| de_int ⟨_, rfl, ?_⟩
  refine da_cons ?_
  refine de_bl ?_
  refine da_cons ?_
  refine de_non ?_
  refine da_cons ?_
  refine de_str ?_
  refine da_cons ?_
  refine de_bin op_sub <| de_bin op_pow <| de_int <| de_int <| dop_I rfl ⟨by decide, by decide, by decide⟩ <| de_int <| dop_I0 rfl ?_
  refine da_cons ?_
  refine de_tup <| da_cons <| de_int <| da_nil ⟨_, .dat .nil, by simp, ?_⟩
  refine da_nil ⟨_, .dat (.dat (.dat (.dat (.dat (.dat (.dat (.dat (.dat (.dat (.dat (.dat .nil))))))))))), by simp, fun p => .inr ⟨p, _, rfl, fun i ρ s => ∃ s1 s2, ρ = [.raw (.ref dr), s1, s2, .any, .any], ⟨_, _, rfl⟩, ?_, ?_⟩⟩
  · rintro i d ρ s _ ⟨s1, s2, rfl⟩
    refine dgn 1 scValues.nd ?_
    refine db_cons (dset 2 scValues.nd <| de_imp (k' := fun s' ρ' st' => s' = .dat (.bool (isPr d)) ∧ ρ' = [.raw (.ref dr), .dat d, s2, .any, .any]) ?_ ?_)
    · refine de_and <| dc_call C5 (hr.mono (by decide)) tk <| da_cons <| dv 1 <| da_nil fun A => ⟨d, rfl, isNum d, rfl, fun e => ?_, fun e => ⟨?_, rfl⟩⟩
      · refine de_one <| de_cmp op_in_seq (by rfl) <| dv 1 <| dc_call0 C4 (hr.mono (by decide)) tk fun A => ⟨rfl, dop_in (.dat _) (.lst _) (isnum_flat e) prd_flat ⟨?_, rfl⟩⟩
        unfold isPr
        rw [e]
        rfl
      · unfold isPr
        rw [e]
        rfl
    rintro _ _ st4 ⟨rfl, rfl⟩
    have okB : okD (.list [.bool (isPr d), .bool (isPr d)]) := ok_lst fun x hx => by
      simp only [List.mem_cons, List.not_mem_nil, or_false] at hx
      rcases hx with rfl | rfl <;> exact ⟨⟨rfl, by simp [PyData.depth]⟩, by simp [PyData.depth]⟩
    refine db_cons (ds_if <| dt_not <| dt_val <| dc_call C6 (hr.mono (by decide)) tk <| da_cons <| de_lst ?_)
    refine da_cons ?_
    refine dc_call Ca (hr.mono (by decide)) tk <| da_cons <| dv 1 <| da_nil fun A => ⟨d, rfl, ?_⟩
    refine da_cons ?_
    refine dc_callK false (ks := ["thing"]) Ca (hr.mono (by decide)) tk (fun _ _ _ _ _ _ ws h => by match ws, h with | [_], _ => rfl) <| dk_cons <| dv 1 <| dk_nil fun A => ⟨d, rfl, ?_⟩
    refine da_nil ⟨_, .dat (.dat .nil), by simp, fun p1 => ?_⟩
    refine da_cons ?_
    refine de_lst <| da_cons <| dv 2 <| da_cons <| dv 2 <| da_nil ⟨_, .dat (.dat .nil), by simp, fun p2 => da_nil fun A => ⟨_, rfl, okB, by simp [szD, szA], true, rfl, ?_⟩⟩
    refine ⟨fun z => absurd z (by decide), fun _ => db_nil ?_⟩
    refine db_one (ds_if <| dt_w <| dw_and <| dt_not <| dt_val <| dv 2 ⟨isPr d, rfl, fun e => ?_, fun _ => ⟨fun z => (nomatch z), fun _ => db_nil ⟨_, _, rfl⟩⟩⟩)
    have ep : isPr d = false := by simpa using e
    refine dw_and1 <| dt_not <| dt_val <| de_callB call_isX (by rfl) m1 boot_isinstance <| da_cons ?_
    refine de_caught (kk := 4) (T := TV T0) CF scCaught hC rfl rfl rfl rfl TB rfl (memTV T0) (allTV T0) hr hT (fun A' outer' s' H' H0' E' f' c' A'' hr' tk' => ?_)
    refine dc_call C9 hr' tk' <| da_cons <| dv 1 <| da_cons <| de_non <| da_nil fun A3 => ⟨d, .none, rfl, fun _ => ⟨EP.exm, rfl, ?_⟩, fun z => (by rw [ep] at z; cases z), fun _ _ _ _ _ z => (nomatch z)⟩
    exact da_cons <| de_cls EP <| da_nil <| dcall_isE EP ⟨true, rfl, ⟨fun z => absurd z (by decide), fun _ => db_nil ⟨_, _, rfl⟩⟩⟩
  · rintro ρ s ⟨s1, s2, rfl⟩
    refine db_cons (dset 3 scValues.nd ?_)
    refine dc_call C1 (hr.mono (by decide)) tk <| da_cons <| dv 0 <| da_cons <| de_lst ?_
    refine da_cons ?_
    refine de_int ?_
    refine da_cons ?_
    refine de_non ?_
    refine da_cons ?_
    refine de_bl ?_
    refine da_cons ?_
    refine de_str ?_
    refine da_cons ?_
    refine de_tup <| da_cons <| de_int <| da_nil ⟨_, .dat .nil, by simp, ?_⟩
    refine da_cons ?_
    refine de_lst <| da_nil ⟨_, .nil, by simp, fun p1 => ?_⟩
    refine da_nil ⟨badD, ?_, by decide, fun p2 => da_nil fun A => ⟨dr, la, ca, cs, hd.avoid A, badD, rfl, by decide, by decide, fun bd hbd st5 => ?_⟩⟩
    · exact .dat (.dat (.dat (.dat (.dat (.own .nil)))))
    have eb := bad_no bd hbd
    have nob : ∀ {p : Prop} {n : Int}, n ≠ 0 → bd = .int n → p := fun {p n} h1 z => by
      rw [z] at eb
      exact absurd h1 (by have z := of_decide_eq_false eb; exact z)
    have hp2 : ∀ {p : Prop}, isPr (nD 2) = false → p := fun {p} z => by rw [isPr_mem (by decide)] at z; cases z
    refine db_cons (dset 4 scValues.nd ?_)
    refine de_lst ?_
    refine da_cons ?_
    refine de_callB call_isX (by rfl) m1 boot_isinstance <| da_cons ?_
    refine de_caught (kk := 4) (T := TV T0) CF scCaught hC rfl rfl rfl rfl TB rfl (memTV T0) (allTV T0) hr hT (fun A' outer' s' H' H0' E' f' c' A'' hr' tk' => ?_)
    refine dc_call C9 hr' tk' ?_
    refine da_cons <| de_int ?_
    refine da_cons <| dv 3 ?_
    refine da_nil fun A3 => ⟨.int 2, bd, rfl, fun z => hp2 z, fun _ _ => ⟨EN.exm, rfl, ?_⟩, fun _ _ n _ h1 z => nob h1 z⟩
    refine da_cons <| de_cls EN <| da_nil <| dcall_isE EN ?_
    refine da_cons ?_
    refine de_callB call_isX (by rfl) m1 boot_isinstance <| da_cons ?_
    refine de_caught (kk := 4) (T := TV T0) CF scCaught hC rfl rfl rfl rfl TB rfl (memTV T0) (allTV T0) hr hT (fun A' outer' s' H' H0' E' f' c' A'' hr' tk' => ?_)
    refine dc_call C7 (hr'.mono (by decide)) tk' ?_
    refine da_cons <| dv 3 ?_
    refine da_nil fun A3 => ⟨bd, rfl, fun _ => ⟨EN.exm, rfl, ?_⟩, fun n h1 z => nob h1 z⟩
    refine da_cons <| de_cls EN <| da_nil <| dcall_isE EN ?_
    refine da_cons ?_
    refine de_callB call_isX (by rfl) m1 boot_isinstance <| da_cons ?_
    refine de_caught (kk := 4) (T := TV T0) CF scCaught hC rfl rfl rfl rfl TB rfl (memTV T0) (allTV T0) hr hT (fun A' outer' s' H' H0' E' f' c' A'' hr' tk' => ?_)
    refine dc_call C8 (hr'.mono (by decide)) tk' ?_
    refine da_cons <| dv 3 ?_
    refine da_nil fun A3 => ⟨bd, rfl, fun n z => ?_, fun _ => ⟨EN.exm, rfl, ?_⟩, fun n h1 z => nob h1 z⟩
    · by_cases h1 : n = 0
      · rw [h1]
        exact Nat.pow_pos (by decide)
      · exact nob h1 z
    refine da_cons <| de_cls EN <| da_nil <| dcall_isE EN ?_
    refine da_nil ⟨[.bool true, .bool true, .bool true], .dat (.dat (.dat .nil)), by simp, fun p3 => ?_⟩
    refine db_one (ds_ret <| de_cmp (op_eqD hr.units) (nomark _) <| dv 4 ?_)
    refine de_bin op_rep <| de_lst ?_
    refine da_cons ?_
    refine de_bl ?_
    refine da_nil ⟨_, .dat .nil, by simp, fun p4 => de_int ?_⟩
    refine dop_rep (n := 3) (.own p4 _) (by decide) (by simp) fun p5 => dop_eqD (.ref p3 _ 4 rfl) (.own p5 _) (by decide) (by decide) ⟨_, .dat _, ?_⟩
    exact h _
end
end K00

namespace K00
open PySem PySem.Spec PyProof.Rows L2 DL LH LamX
abbrev sLaw : Stmt := topS 33
theorem scLaw : FnScope ["script", "draw", "lap"] ["script"] (defScope sLaw) := ⟨rfl, rfl, rfl, by decide +kernel, rfl, by decide +kernel, by decide +kernel⟩
section
variable {P : Program} {w : World} {K : PySem.W.Frag} {mg : Str → Option Value} {base : Heap}
def spLaw (T0 : Addr) (K : PySem.W.Frag) : Sp := fun vs H Q _ => ∃ (a : Addr) (ns : List Int), vs = [.ref a] ∧ SqL K H a (ns.map V.int) ∧ ns.length ≤ 63 ∧ H T0 = some (.tbl #[]) ∧ ∀ H', Q (.bl true) H'
theorem e360 : prsD (-360) = [.int 2, .int 3, .int 5] := by
  have : prs 360 = [2, 3, 5] := by decide +kernel
  unfold prsD
  rw [show (-360 : Int).natAbs = 360 by rfl, this]
  rfl
theorem e1212 : restN 1212 = 101 := by decide +kernel
theorem e1 : restN 1 = 1 := by decide +kernel
theorem e48 : mu 2 48 = 4 := by decide +kernel
theorem ok_law {CP CN T0 fB : Addr} {f : Addr} {fd fdB : FuncData} (F : L2.Fun K "law" "law" sLaw f fd) (FB : L2.Fun K "_law_begun" "_law_begun" sBegun fB fdB) (mB' : mg "_law_begun" = some (.ref fB)) (bB : Binds K fdB ["script"] [])
    (C1 : Cal P w K mg base "_law_right" sRight ["draw"] 5 fRight) (C2 : Cal P w K mg base "_law_values_right" sValues ["draw"] 7 (fValues (TV T0))) (C6 : Cal P w K mg base "_law_says" sSays ["told", "due"] 2 fSays)
    (C7 : Cal P w K mg base "primes_in" sPrimesIn ["number"] 3 (fPrimesIn CN)) (C8 : Cal P w K mg base "rest_of" sRestOf ["number"] 3 (fRestOf CN)) (C9 : Cal P w K mg base "power_in" sPowerIn ["prime", "number"] 4 (fPowerIn CP CN)) (m1 : mg "abs" = none) (m2 : mg "range" = none) (m3 : mg "min" = none) (m4 : mg "len" = none) :
    FnOk P w K mg base (L2.CX P w) 8 f fd ["script"] (spLaw T0 K) := by
  refine F.okX scLaw (fun vs H Q E h => by obtain ⟨a, ns, rfl, _⟩ := h; rfl) fun cdv A outer s H vs Q E hr h => ?_
  obtain ⟨a, ns, rfl, hS, hlen, hT, q⟩ := h
  refine ⟨WB _ (defBody sLaw), pss_w, ?_⟩
  have hr' : Room 7 (cxOf (L2.CX P w) P w K mg base ["script", "draw", "lap"] "law" (defScope sLaw) f cdv A outer s H E).A := hr
  have hp : PassesOwn (model P w) (cxOf (L2.CX P w) P w K mg base ["script", "draw", "lap"] "law" (defScope sLaw) f cdv A outer s H E).A (cxOf (L2.CX P w) P w K mg base ["script", "draw", "lap"] "law" (defScope sLaw) f cdv A outer s H E).env (cxOf (L2.CX P w) P w K mg base ["script", "draw", "lap"] "law" (defScope sLaw) f cdv A outer s H E).xe := passes_of rfl
  refine wb_of (pss_cons (ps_set (i := 1) scLaw.nd rfl (.inl rfl) (pe_callS (E := L2.WE (fun _ _ _ _ => False)) (ok_begun (Ts := [T0]) (P := P) (w := w) (base := base) FB m1) (hr'.mono (by decide)) rfl mB' FB.kp bB (fun σ => passAt LamX.takes0 σ) (pa_cons (pe_var (i := 0) rfl (.inl rfl)) pa_nil))) pss_w) ?_
  refine ⟨.ref a, rfl, a, ns, rfl, hS, hlen, fun p hp => by rw [List.mem_singleton.mp hp]; exact hT, fun dr la ca cs d H1 hS1 hT1 hD => ?_⟩
  have hTabs : Tabs (TV T0) H1 := fun p hp => by
    rw [List.mem_singleton.mp hp]
    exact TabS.nil (hT1 T0 (List.mem_singleton.mpr rfl))
  show WB (cxOf (L2.CX P w) P w K mg base ["script", "draw", "lap"] "law" (defScope sLaw) f cdv A outer s H E) ((defBody sLaw).drop 1) _ [some (.ref a), some (.ref dr), none] H1
  have main : DB (cxOf (L2.CX P w) P w K mg base ["script", "draw", "lap"] "law" (defScope sLaw) f cdv A outer s H E) ⟨fun _ _ _ _ => False, mL (TV T0) dr la ca cs, H1, fun _ _ => False⟩ ((defBody sLaw).drop 1) [.dat (.list (ns.map .int)), .raw (.ref dr), .any] d ⟨fun _ _ => False, fun s _ => s = .dat (.bool true), fun _ _ => False, fun _ _ => False⟩ := by
    have tk : Takes (cxOf (L2.CX P w) P w K mg base ["script", "draw", "lap"] "law" (defScope sLaw) f cdv A outer s H E) (fun _ _ _ _ => False) := LamX.takes0
    refine db_cons (ds_for hp rfl <| di_range1 m2 <| de_bin op_add <| de_int <| de_callB (call_min2 rfl) (by rfl) m3 boot_min <| da_cons <| de_callB call_len_seq (by rfl) m4 boot_len <| da_cons <| dv 0 <| da_nil <| dcall_len (.dat _) (.lst _) <| da_cons <| de_int <| da_nil <| dcall_min2 <| dop_I0 rfl ⟨_, rfl, ?_, ?_, fun i ρ s => ∃ s2, ρ = [.dat (.list (ns.map .int)), .raw (.ref dr), s2], ⟨_, rfl⟩, ?_, ?_⟩)
    · omega
    · omega
    · rintro i d ρ s' _ ⟨s2, rfl⟩
      refine dgn 2 scLaw.nd ?_
      refine db_one (ds_if <| dt_w <| dw_or <| dt_not <| dt_val <| dc_call C1 (hr'.mono (by decide)) tk <| da_cons <| dv 1 <| da_nil fun A => ⟨dr, la, ca, cs, hdL.avoid A, rfl, fun st' => ⟨true, rfl, ⟨fun z => absurd z (by decide), fun _ => ?_⟩⟩⟩)
      exact dw_or1 <| dt_not <| dt_val <| dc_call C2 hr' tk <| da_cons <| dv 1 <| da_nil fun A => ⟨dr, la, ca, cs, hdL.avoid A, htL.avoid A, rfl, fun st' => ⟨true, rfl, ⟨fun z => absurd z (by decide), fun _ => db_nil ⟨_, rfl⟩⟩⟩⟩
    · rintro ρ s' ⟨s2, rfl⟩
      obtain ⟨L, eL⟩ : ∃ L : List PyData, L = [.tuple [.int 2, .int 3, .int 5], .int 1, .int 4, .int 101] := ⟨_, rfl⟩
      refine db_one (ds_ret <| dc_call C6 (hr'.mono (by decide)) tk ?_)
      refine da_cons <| de_lst ?_
      refine da_cons ?_
      refine dc_call C7 (hr'.mono (by decide)) tk <| da_cons <| de_neg <| de_int ⟨_, rfl, da_nil fun A => ⟨.int (-360), rfl, fun z => (by cases z), fun n _ e => ?_⟩⟩
      cases e
      rw [e360]
      refine da_cons ?_
      refine dc_call C8 (hr'.mono (by decide)) tk <| da_cons <| de_int <| da_nil fun A => ⟨.int 1, rfl, fun n e => ?_, fun z => (by cases z), fun n _ e => ?_⟩
      · cases e
        exact Nat.lt_of_lt_of_le (show 1 < 2 ^ 1 by decide) (Nat.pow_le_pow_right (by decide) (by decide))
      cases e
      rw [show (1 : Int).natAbs = 1 by rfl, e1]
      refine da_cons ?_
      refine dc_call C9 (hr'.mono (by decide)) tk <| da_cons <| de_int <| da_cons <| de_neg <| de_int ⟨_, rfl, da_nil fun A => ⟨.int 2, .int (-48), rfl, fun z => ?_, fun _ z => (by cases z), fun p hp n e _ e2 => ?_⟩⟩
      · rw [show PyData.int 2 = nD 2 by rfl, isPr_mem (by decide)] at z
        cases z
      cases e2
      have ep : 2 = p := Int.ofNat.inj (PyData.int.inj e)
      subst ep
      rw [show (-48 : Int).natAbs = 48 by rfl, e48]
      refine da_cons ?_
      refine dc_call C8 (hr'.mono (by decide)) tk <| da_cons <| de_bin op_mul <| de_int <| de_int <| dop_I rfl (.inr (by decide)) <| da_nil fun A => ⟨.int 1212, rfl, fun n e => ?_, fun z => (by cases z), fun n _ e => ?_⟩
      · cases e
        exact Nat.lt_of_lt_of_le (show 1212 < 2 ^ 11 by decide) (Nat.pow_le_pow_right (by decide) (by decide))
      cases e
      rw [show (1212 : Int).natAbs = 1212 by rfl, e1212]
      refine da_nil ⟨L, by subst eL; exact .dat (.dat (.dat (.dat .nil))), by subst eL; simp, fun p1 => ?_⟩
      refine da_cons <| de_lst ?_
      refine da_cons ?_
      refine de_tup <| da_cons <| de_int <| da_cons <| de_int <| da_cons <| de_int <| da_nil ⟨_, .dat (.dat (.dat .nil)), by simp, ?_⟩
      refine da_cons ?_
      refine de_int ?_
      refine da_cons ?_
      refine de_int ?_
      refine da_cons ?_
      refine de_int ?_
      refine da_nil ⟨L, by subst eL; exact .dat (.dat (.dat (.dat .nil))), by subst eL; simp, fun p2 => da_nil fun A => ⟨.list L, rfl, by subst eL; exact ⟨by decide, by decide⟩, by subst eL; decide, _, .dat _, rfl⟩⟩
  refine main [] _ H1 _ ⟨⟨hD, hTabs⟩, Kp.refl _ _, List.nodup_nil, fun p hp => (nomatch hp), ?_⟩ rfl ⟨fun _ _ _ _ h => h.elim, fun _ _ _ _ h => h.elim, fun _ _ _ _ h => h.elim, fun s' _ v H' e _ _ b => ?_⟩ fun _ _ _ _ _ h => h.elim
  · intro e he
    rcases List.mem_cons.mp (show e ∈ [(some (V.ref a), DL.Slot.dat (.list (ns.map .int))), (some (V.ref dr), .raw (.ref dr)), (none, .any)] from he) with rfl | he
    · exact ⟨_, rfl, hS1.move fun a o n t e => ⟨fun z => z.elim n fun z => (nomatch z), e⟩⟩
    · rcases List.mem_cons.mp he with rfl | he
      · rfl
      · rcases List.mem_cons.mp he with rfl | he
        · trivial
        · cases he
  · subst e
    have ev : v = .bl true := da_flat (w := .bl true) rfl b
    rw [ev]
    exact q H'
end
end K00

namespace DL
open PySem PySem.Spec PyProof.Rows L2 LamX
/-! ### what the top has written -/
section
variable {K : PySem.W.Frag} {h : Heap} {mg : Str → Option Value}
theorem df_mk {x : Str} {s : Stmt} {ps : List Str} {f : Addr} {oc : Value} {od an : Option Addr} {osl : Array (Option Value)} {kV doc pm cdv ct : Value} (X : K.In h) (G : h.Ns mainGlobals mg)
    (hb : ∀ (kV doc pm : Value) (an : Option Addr) (cdv ct : Value) (us : List Value), us.length = ps.length → bindArgs (PySem.W.fnOf x x (defArgs s) (defBody s) (defScope s) .none kV doc pm an cdv ct) ⟨us, []⟩ = pure (ps.zip us))
    (a : PySem.W.nsIn K mainGlobals x = some (some (.ref f))) (l : K.lookup f = some ⟨oc, od, .func (PySem.W.fnOf x x (defArgs s) (defBody s) (defScope s) .none kV doc pm an cdv ct), osl⟩) (c : PySem.W.codeIn K cdv x = true) (k : PySem.W.keepIn K (.ref f) = true) : Df K mg x s ps :=
  ⟨f, _, fun_mk l c k, PySem.W.mg_of X G a, (fun_mk l c k).binds hb⟩
theorem dfC_mk {x : Str} {s : Stmt} {ps : List Str} {f c0 : Addr} {oc : Value} {od an : Option Addr} {osl : Array (Option Value)} {kV doc pm ct : Value} (X : K.In h) (G : h.Ns mainGlobals mg)
    (hb : ∀ (kV doc pm : Value) (an : Option Addr) (cdv ct : Value) (us : List Value), us.length = ps.length → bindArgs (PySem.W.fnOf x x (defArgs s) (defBody s) (defScope s) .none kV doc pm an cdv ct) ⟨us, []⟩ = pure (ps.zip us))
    (a : PySem.W.nsIn K mainGlobals x = some (some (.ref f))) (l : K.lookup f = some ⟨oc, od, .func (PySem.W.fnOf x x (defArgs s) (defBody s) (defScope s) .none kV doc pm an (.ref c0) ct), osl⟩) (c : PySem.W.codeIn K (.ref c0) x = true) (k : PySem.W.keepIn K (.ref f) = true) : DfC K mg x s ps c0 :=
  ⟨f, _, _, _, _, _, _, _, _, l, c, k, PySem.W.mg_of X G a, (fun_mk l c k).binds hb⟩
theorem cau_mk {s : Stmt} {f CS : Addr} {oc : Value} {od an : Option Addr} {osl : Array (Option Value)} {kV doc pm cdv ct : Value} (X : K.In h) (G : h.Ns mainGlobals mg)
    (hb : ∀ (kV doc pm : Value) (an : Option Addr) (cdv ct : Value) (us : List Value), us.length = (["work"] : List Str).length → bindArgs (PySem.W.fnOf "_law_caught" "_law_caught" (defArgs s) (defBody s) (defScope s) .none kV doc pm an cdv ct) ⟨us, []⟩ = pure ((["work"] : List Str).zip us))
    (a : PySem.W.nsIn K mainGlobals "_law_caught" = some (some (.ref f))) (l : K.lookup f = some ⟨oc, od, .func (PySem.W.fnOf "_law_caught" "_law_caught" (defArgs s) (defBody s) (defScope s) .none kV doc pm an cdv ct), osl⟩) (c : PySem.W.codeIn K cdv "_law_caught" = true) (k : PySem.W.keepIn K (.ref f) = true)
    (e : PySem.W.nsIn K mainGlobals "ShapeError" = some (some (.ref CS))) : CauF K mg s CS :=
  ⟨⟨f, _, _, _, _, _, _, _, _, _, l, c, k, PySem.W.mg_of X G a, (fun_mk l c k).binds hb⟩, PySem.W.mg_of X G e⟩
theorem code_mk {c P : Addr} {dd : Option Addr} {vs : Array Value} {sl : Array (Option Value)} (X : K.In h) (l : K.lookup c = some ⟨.type "code", dd, .fields vs, sl⟩) (e11 : (vs[11]? : Option Value) = some (.ref P))
    (r1 : (match vs.getD 18 .none with | .str _ _ => true | _ => false) = true) (r2 : (match vs.getD 7 .none with | .int _ _ => true | _ => false) = true) (r3 : (match vs.getD 9 .none with | .bool _ => true | _ => false) = true) (r4 : (match vs.getD 10 .none with | .int _ _ => true | _ => false) = true) (ne : (c != P) = true)
    (t : h.get? P = some { cls := .none, data := .fields #[] }) : PySem.W.CodeHd h c P ∧ h.get? P = some { cls := .none, data := .fields #[] } := by
  refine ⟨PySem.W.codeHd_of_K X ?_, t⟩
  unfold PySem.W.codeHdIn
  rw [l]
  show ((match (vs[11]? : Option Value) with | some (.ref P') => P' == P | _ => false) && _ && _ && _ && _ && _) = true
  rw [e11]
  show ((P == P) && _ && _ && _ && _ && _) = true
  rw [Bool.and_eq_true, Bool.and_eq_true, Bool.and_eq_true, Bool.and_eq_true, Bool.and_eq_true]
  exact ⟨⟨⟨⟨⟨by simp, r1⟩, r2⟩, r3⟩, r4⟩, ne⟩
/-- what is asked of the base of the errors -/
structure BaseC (K : PySem.W.Frag) (CS : Addr) : Prop where
  sub : PySem.W.subIn K (.ref CS) (.type "BaseException") = some true
  hd : PySem.W.hasDictIn K CS = true
  ty : PySem.W.typeIn K (.ref CS) = some (.type "type")
theorem err_mk {x : Str} {C CS : Addr} (X : K.In h) (G : h.Ns mainGlobals mg) (B : BaseC K CS) (a : PySem.W.nsIn K mainGlobals x = some (some (.ref C)))
    (q : PySem.W.excIn K C [.type "ValueError", .type "Exception", .type "BaseException", .type "object"] "ValueError.__new__" = true) (k : PySem.W.keepIn K (.ref C) = true) (ty : PySem.W.typeIn K (.ref C) = some (.type "type")) (sC : PySem.W.subIn K (.ref C) (.ref CS) = some true)
    (hg : PySem.W.findIn K (.ref C) "__getattribute__" = some (some (.builtin "BaseException.__getattribute__"))) (hk : PySem.W.findIn K (.ref C) "__getattr__" = some none) (hs : PySem.W.subIn K (.ref C) (.type "BaseException") = some true) (hd : PySem.W.hasDictIn K C = true)
    (ha : PySem.W.findIn K (.ref C) "__class__" = some (some (.builtin "object.__class__"))) (hn : PySem.W.specialIn K (.builtin "object.__class__") "__get__" = some (some (.builtin "getset_descriptor.__get__"))) (ht : PySem.W.takesIn K (.builtin "object.__class__") = some true) (hm : PySem.W.mroIn K C (.type "object") = some true) : ErrC K mg x C CS :=
  ⟨q, PySem.W.mg_of X G a, k, hs, ty, PySem.W.exm_ref B.sub B.hd B.ty sC, ⟨hg, hk, hs, hd, ha, hn, ht, hm⟩⟩
end
end DL
namespace K00
open PySem PySem.Spec PyProof.Rows L2 DL LH LamX
theorem con_mk {K : PySem.W.Frag} {h : Heap} {mg : Str → Option Value} {aP : Addr} {od : Option Addr} {its : Array Value} {n : Nat} {sl : Array (Option Value)} (X : K.In h) (G : h.Ns mainGlobals mg) (a : PySem.W.nsIn K mainGlobals "PRIMES" = some (some (.ref aP)))
    (l : K.lookup aP = some ⟨.type "tuple", od, .seq its n, sl⟩) (hz : its.size ≤ 100000) (hv : Vals (PR.map fun n : Nat => V.int n) its.toList) : ConP K mg := by
  refine ⟨_, .ref aP, PySem.W.mg_of X G a, rfl, fun N H => .tup (xs := PR.map fun n : Nat => V.int n) (.inr ⟨_, its, n, l, rfl, rfl, Nat.le_trans hz (by decide), hv⟩) ?_⟩
  have go : ∀ l : List Nat, DaAll N K H (l.map fun n : Nat => V.int n) (l.map nD) := by
    intro l
    induction l with
    | nil => exact .nil
    | cons x l ih => exact .cons (.int _) ih
  exact go PR
theorem all_mk {l : PySem.W.OpenLaw} {w : World} {K : PySem.W.Frag} {h : Heap} {mg : Str → Option Value} {fa CP CN CS c0 T0 : Addr} (X : K.In h) (G : h.Ns mainGlobals mg) (hfa : mg "law" = some (.ref fa))
    (tab : PySem.W.CodeHd h c0 T0 ∧ h.get? T0 = some { cls := .none, data := .fields #[] }) (hn : K.lookup T0 = none)
    (d1 : Df K mg "is_number" sIsNumber ["thing"]) (d2 : Df K mg "is_prime_of" sIsPrimeOf ["thing"]) (d3 : Df K mg "need_prime" sNeedPrime ["prime"]) (d4 : Df K mg "need_number" sNeedNumber ["number"]) (d5 : Df K mg "power_by" sPowerBy ["prime", "number"]) (d6 : Df K mg "raised" sRaised ["prime", "power"])
    (d7 : Df K mg "is_prime" sIsPrime ["thing"]) (d8 : Df K mg "power_in" sPowerIn ["prime", "number"]) (d9 : Df K mg "primes_by" sPrimesBy ["number"]) (d10 : Df K mg "primes_in" sPrimesIn ["number"]) (d11 : Df K mg "rest_of" sRestOf ["number"])
    (b1 : Df K mg "_law_begun" sBegun ["script"]) (b2 : Df K mg "_law_mixed" sMixed ["draw"]) (b3 : Df K mg "_law_take" sTake ["draw", "amount"]) (b4 : Df K mg "_law_pick" sPick ["draw", "some"]) (b5 : Df K mg "_law_kinds" sKinds ["thing"]) (b6 : Df K mg "_law_says" sSays ["told", "due"]) (b7 : Df K mg "_law_odd" sOdd ["draw"])
    (e1 : Df K mg "_law_is_number" sLIsNumber ["thing"]) (e2 : Df K mg "_law_raised" sLRaised ["prime", "power"]) (e3 : Df K mg "_law_power" sLPower ["prime", "number"]) (e4 : Df K mg "_law_primes" sLPrimes []) (e5 : Df K mg "_law_number_of" sNumberOf ["draw"]) (e6 : Df K mg "_law_right" sRight ["draw"]) (e7 : DfC K mg "_law_values_right" sValues ["draw"] c0) (e8 : Df K mg "law" sLaw ["script"])
    (cf : CauF K mg sCaught CS) (ep : ErrC K mg "BadPrime" CP CS) (en : ErrC K mg "BadNumber" CN CS) (cp : ConP K mg)
    (z1 : mg "isinstance" = none) (z2 : mg "int" = none) (z3 : mg "bool" = none) (z4 : mg "tuple" = none) (z5 : mg "list" = none) (z6 : mg "dict" = none) (z7 : mg "abs" = none) (z8 : mg "range" = none) (z9 : mg "len" = none) (z10 : mg "min" = none) :
    LawAtS l w K (L2.CX l.prog w) 8 63 "script" mg fa h := by
  obtain ⟨f, fd, F, hm, hb⟩ := e8.ex
  rw [hfa] at hm
  cases hm
  obtain ⟨fB, fdB, FB, hmB, hbB⟩ := b1.ex
  obtain ⟨oc, od, kV, doc, pm, an, cdv, ct, osl, rfl, _, _⟩ := id F.ex
  refine ⟨PySem.W.fnOf "law" "law" (defArgs sLaw) (defBody sLaw) (defScope sLaw) .none kV doc pm an cdv ct, [(c0, T0)], spLaw T0 K, fun p hp => by rw [List.mem_singleton.mp hp]; exact tab.2, fun p hp => by rw [List.mem_singleton.mp hp]; exact hn, fun p hp => by rw [List.mem_singleton.mp hp]; exact tab.1, fun s u => .of_eq rfl,
    fun H a ns hl _ hT hS => ⟨a, ns, rfl, hS, hl, hT (c0, T0) (List.mem_singleton.mpr rfl), fun _ => rfl⟩, fun base _ _ TB => ?_⟩
  have TB0 := TB (c0, T0) (List.mem_singleton.mpr rfl)
  have P1 := ok_is_number (P := l.prog) (w := w) (base := base) d1 z1 z2 z3
  have P2 := ok_is_prime_of d2 P1 cp
  have P3 := ok_need_prime d3 P2 ep
  have P4 := ok_need_number d4 P1 en
  have P5 := ok_power_by (P := l.prog) (w := w) (base := base) d5 z7
  have P6 := ok_raised (P := l.prog) (w := w) (base := base) d6 z8
  have P7 := ok_is_prime d7 P2
  have P8 := ok_power_in d8 P3 P4 P5
  have P9 := ok_primes_by (P := l.prog) (w := w) (base := base) d9 cp z4
  have P10 := ok_primes_in d10 P4 P9
  have P11 := ok_rest_of d11 P4 P9 P5 P6 z7
  have B2 := ok_mixed (P := l.prog) (w := w) (base := base) b2 z2
  have B3 := ok_take b3 B2 z2
  have B4 := ok_pick b4 B3 z9
  have B5 := ok_kinds (P := l.prog) (w := w) (base := base) b5 z1 z4 z5 z6 z3
  have B6 := ok_says b6 B5
  have B7 := ok_odd b7 B4
  have E1 := ok_lis_number (P := l.prog) (w := w) (base := base) e1 z1 z2 z3
  have E2 := ok_lraised (P := l.prog) (w := w) (base := base) e2 z8
  have E3 := ok_lpower (P := l.prog) (w := w) (base := base) e3 z7 z2
  have E4 := ok_lprimes (P := l.prog) (w := w) (base := base) e4 z8
  have E5 := ok_number_of e5 B4 B3 E2 E4 z8
  have E6 := ok_right e6 B4 E5 E2 E4 E3 B6 P10 P11 P8 z4 z7 z5
  have E7 := ok_values e7 TB0 cf ep en B4 B3 B7 E4 E1 B6 P10 P11 P8 P7 z1
  exact ok_law F FB hmB hbB E6 E7 B6 P10 P11 P8 z7 z8 z10 z9
end K00

open PySem PySem.W PyProof.Rows
set_option maxHeartbeats 0 in
theorem PySem.Challenge.cw_carryshapes_k00_whole_primes_holds : PySem.Challenge.rw_carryshapes_k00_whole_primes.Holds := by
  w_on; o_law; k_head; (case hw => w_witness2)
  k_fill
  refine LamX.walk_ofTs (l := PySem.Challenge.rw_carryshapes_k00_whole_primes) (n := 63) (k := 8) (x := "script") (CX := fun w => L2.CX PySem.Challenge.rw_carryshapes_k00_whole_primes.prog w) rfl (by decide) rfl ⟨rfl, by decide, by decide⟩ (fun w h Y => PySem.W.km_in_of Y) ?F (fun w H s e s' h => by obtain ⟨_, _, _, _, _, _, _, _, _, _, _, _, z⟩ := h; exact z)
  case F =>
    intro w mg fa h Y KX G hmg
    refine' K00.all_mk KX G hmg (DL.code_mk KX ?tl ?te ?t1 ?t2 ?t3 ?t4 ?t5 (PySem.W.km_tabs_of Y _ ?tm)) ?tn
      (DL.df_mk KX G (fun _ _ _ _ _ _ us hl => match us, hl with | [_], _ => rfl) ?a0 ?l0 ?c0 ?k0)
      (DL.df_mk KX G (fun _ _ _ _ _ _ us hl => match us, hl with | [_], _ => rfl) ?a1 ?l1 ?c1 ?k1)
      (DL.df_mk KX G (fun _ _ _ _ _ _ us hl => match us, hl with | [_], _ => rfl) ?a2 ?l2 ?c2 ?k2)
      (DL.df_mk KX G (fun _ _ _ _ _ _ us hl => match us, hl with | [_], _ => rfl) ?a3 ?l3 ?c3 ?k3)
      (DL.df_mk KX G (fun _ _ _ _ _ _ us hl => match us, hl with | [_, _], _ => rfl) ?a4 ?l4 ?c4 ?k4)
      (DL.df_mk KX G (fun _ _ _ _ _ _ us hl => match us, hl with | [_, _], _ => rfl) ?a5 ?l5 ?c5 ?k5)
      (DL.df_mk KX G (fun _ _ _ _ _ _ us hl => match us, hl with | [_], _ => rfl) ?a6 ?l6 ?c6 ?k6)
      (DL.df_mk KX G (fun _ _ _ _ _ _ us hl => match us, hl with | [_, _], _ => rfl) ?a7 ?l7 ?c7 ?k7)
      (DL.df_mk KX G (fun _ _ _ _ _ _ us hl => match us, hl with | [_], _ => rfl) ?a8 ?l8 ?c8 ?k8)
      (DL.df_mk KX G (fun _ _ _ _ _ _ us hl => match us, hl with | [_], _ => rfl) ?a9 ?l9 ?c9 ?k9)
      (DL.df_mk KX G (fun _ _ _ _ _ _ us hl => match us, hl with | [_], _ => rfl) ?a10 ?l10 ?c10 ?k10)
      (DL.df_mk KX G (fun _ _ _ _ _ _ us hl => match us, hl with | [_], _ => rfl) ?a11 ?l11 ?c11 ?k11)
      (DL.df_mk KX G (fun _ _ _ _ _ _ us hl => match us, hl with | [_], _ => rfl) ?a12 ?l12 ?c12 ?k12)
      (DL.df_mk KX G (fun _ _ _ _ _ _ us hl => match us, hl with | [_, _], _ => rfl) ?a13 ?l13 ?c13 ?k13)
      (DL.df_mk KX G (fun _ _ _ _ _ _ us hl => match us, hl with | [_, _], _ => rfl) ?a14 ?l14 ?c14 ?k14)
      (DL.df_mk KX G (fun _ _ _ _ _ _ us hl => match us, hl with | [_], _ => rfl) ?a15 ?l15 ?c15 ?k15)
      (DL.df_mk KX G (fun _ _ _ _ _ _ us hl => match us, hl with | [_, _], _ => rfl) ?a16 ?l16 ?c16 ?k16)
      (DL.df_mk KX G (fun _ _ _ _ _ _ us hl => match us, hl with | [_], _ => rfl) ?a17 ?l17 ?c17 ?k17)
      (DL.df_mk KX G (fun _ _ _ _ _ _ us hl => match us, hl with | [_], _ => rfl) ?a18 ?l18 ?c18 ?k18)
      (DL.df_mk KX G (fun _ _ _ _ _ _ us hl => match us, hl with | [_, _], _ => rfl) ?a19 ?l19 ?c19 ?k19)
      (DL.df_mk KX G (fun _ _ _ _ _ _ us hl => match us, hl with | [_, _], _ => rfl) ?a20 ?l20 ?c20 ?k20)
      (DL.df_mk KX G (fun _ _ _ _ _ _ us hl => match us, hl with | [], _ => rfl) ?a21 ?l21 ?c21 ?k21)
      (DL.df_mk KX G (fun _ _ _ _ _ _ us hl => match us, hl with | [_], _ => rfl) ?a22 ?l22 ?c22 ?k22)
      (DL.df_mk KX G (fun _ _ _ _ _ _ us hl => match us, hl with | [_], _ => rfl) ?a23 ?l23 ?c23 ?k23)
      (DL.dfC_mk KX G (fun _ _ _ _ _ _ us hl => match us, hl with | [_], _ => rfl) ?a24 ?l24 ?c24 ?k24)
      (DL.df_mk KX G (fun _ _ _ _ _ _ us hl => match us, hl with | [_], _ => rfl) ?a25 ?l25 ?c25 ?k25)
      (DL.cau_mk KX G (fun _ _ _ _ _ _ us hl => match us, hl with | [_], _ => rfl) ?ca ?cl ?cc ?ck ?cs)
      (DL.err_mk KX G ⟨?bs, ?bh, ?bt⟩ ?pa ?pq ?pk ?pt ?ps ?pg ?ph ?pi ?pd ?pc ?pn ?px ?pm)
      (DL.err_mk KX G ⟨?es, ?eh, ?et⟩ ?na ?nq ?nk ?nt ?ns ?ng ?nh ?ni ?nd ?nc ?nn ?nx ?nm)
      (K00.con_mk KX G ?oa ?ol ?oz ?ov)
      (PySem.W.mg_none_of KX G ?z0)
      (PySem.W.mg_none_of KX G ?z1)
      (PySem.W.mg_none_of KX G ?z2)
      (PySem.W.mg_none_of KX G ?z3)
      (PySem.W.mg_none_of KX G ?z4)
      (PySem.W.mg_none_of KX G ?z5)
      (PySem.W.mg_none_of KX G ?z6)
      (PySem.W.mg_none_of KX G ?z7)
      (PySem.W.mg_none_of KX G ?z8)
      (PySem.W.mg_none_of KX G ?z9)
    case a0 => k_is
    case l0 => k_is
    case c0 => k_is
    case k0 => k_is
    case a1 => k_is
    case l1 => k_is
    case c1 => k_is
    case k1 => k_is
    case a2 => k_is
    case l2 => k_is
    case c2 => k_is
    case k2 => k_is
    case a3 => k_is
    case l3 => k_is
    case c3 => k_is
    case k3 => k_is
    case a4 => k_is
    case l4 => k_is
    case c4 => k_is
    case k4 => k_is
    case a5 => k_is
    case l5 => k_is
    case c5 => k_is
    case k5 => k_is
    case a6 => k_is
    case l6 => k_is
    case c6 => k_is
    case k6 => k_is
    case a7 => k_is
    case l7 => k_is
    case c7 => k_is
    case k7 => k_is
    case a8 => k_is
    case l8 => k_is
    case c8 => k_is
    case k8 => k_is
    case a9 => k_is
    case l9 => k_is
    case c9 => k_is
    case k9 => k_is
    case a10 => k_is
    case l10 => k_is
    case c10 => k_is
    case k10 => k_is
    case a11 => k_is
    case l11 => k_is
    case c11 => k_is
    case k11 => k_is
    case a12 => k_is
    case l12 => k_is
    case c12 => k_is
    case k12 => k_is
    case a13 => k_is
    case l13 => k_is
    case c13 => k_is
    case k13 => k_is
    case a14 => k_is
    case l14 => k_is
    case c14 => k_is
    case k14 => k_is
    case a15 => k_is
    case l15 => k_is
    case c15 => k_is
    case k15 => k_is
    case a16 => k_is
    case l16 => k_is
    case c16 => k_is
    case k16 => k_is
    case a17 => k_is
    case l17 => k_is
    case c17 => k_is
    case k17 => k_is
    case a18 => k_is
    case l18 => k_is
    case c18 => k_is
    case k18 => k_is
    case a19 => k_is
    case l19 => k_is
    case c19 => k_is
    case k19 => k_is
    case a20 => k_is
    case l20 => k_is
    case c20 => k_is
    case k20 => k_is
    case a21 => k_is
    case l21 => k_is
    case c21 => k_is
    case k21 => k_is
    case a22 => k_is
    case l22 => k_is
    case c22 => k_is
    case k22 => k_is
    case a23 => k_is
    case l23 => k_is
    case c23 => k_is
    case k23 => k_is
    case a24 => k_is
    case l24 => k_is
    case c24 => k_is
    case k24 => k_is
    case a25 => k_is
    case l25 => k_is
    case c25 => k_is
    case k25 => k_is
    case ca => k_is
    case cl => k_is
    case cc => k_is
    case ck => k_is
    case cs => k_is
    case tl => k_is
    case te => rfl
    case t1 => rfl
    case t2 => rfl
    case t3 => rfl
    case t4 => rfl
    case t5 => rfl
    case tm => exact List.mem_singleton.mpr rfl
    case tn => kernel_rfl
    case bs => k_is
    case bh => k_is
    case bt => k_is
    case es => k_is
    case eh => k_is
    case et => k_is
    case pa => k_is
    case pq => kernel_rfl
    case pk => k_is
    case pt => k_is
    case ps => k_is
    case pg => k_is
    case ph => k_is
    case pi => k_is
    case pd => k_is
    case pc => k_is
    case pn => k_is
    case px => k_is
    case pm => k_is
    case na => k_is
    case nq => kernel_rfl
    case nk => k_is
    case nt => k_is
    case ns => k_is
    case ng => k_is
    case nh => k_is
    case ni => k_is
    case nd => k_is
    case nc => k_is
    case nn => k_is
    case nx => k_is
    case nm => k_is
    case oa => k_is
    case ol => k_is
    case oz => decide
    case ov => repeat (first | exact .nil | refine .cons ⟨_, rfl⟩ ?_)
    case z0 => k_is
    case z1 => k_is
    case z2 => k_is
    case z3 => k_is
    case z4 => k_is
    case z5 => k_is
    case z6 => k_is
    case z7 => k_is
    case z8 => k_is
    case z9 => k_is

