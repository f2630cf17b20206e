import PyProof.Rows.All
import Wide.All
import OpenK.AllK
import Wide.FinOn
import Open.SpecLaws
import KE.OsGo
import HandS.ForSpec
import HandS.Comp
import HandS.Iter
import HandS.Zip
import HandS.Wide
import HandS.Deep
import HandS.Style
import HandS.Lambda
import HandS.HeadHook1
import HandS.HeadHook2
import HandS.HeadHook3
import HandS.HeadHook4
import PySem.Challenge.RW_indexmargins_s01_answers
import HandS.Head0
import HandS.Head1
import HandS.Head2
import KE.SortKeyHeap
import HandS.Nested
import HandS.SortKw
import KE.OsHead
import HandS.NestedK

section
set_option Elab.async false
set_option linter.all false
set_option maxRecDepth 100000
set_option maxHeartbeats 2000000
/-! # the calculus: an expression stands for a datum, whatever the heap; a block falls through or hands back -/
namespace IX
open PySem PySem.Spec PyProof.Rows L2

/-! ### known parts of the heap -/
def Sub (A B : Hp) : Prop := ∀ b o, A b = some o → B b = some o
theorem Sub.refl (A : Hp) : Sub A A := fun _ _ h => h
theorem Sub.trans {A B C : Hp} (a : Sub A B) (b : Sub B C) : Sub A C := fun c o h => b c o (a c o h)
/-- a predicate on values that leans on known objects alone -/
structure Pm where
  p : Hp → V → Prop
  up : ∀ {A B : Hp} {v : V}, Sub A B → p A v → p B v
inductive All2 {α β : Type} (R : α → β → Prop) : List α → List β → Prop
  | nil : All2 R [] []
  | cons {a : α} {b : β} {as : List α} {bs : List β} : R a b → All2 R as bs → All2 R (a :: as) (b :: bs)
section
variable {α β : Type} {R S : α → β → Prop}
theorem All2.len : ∀ {as : List α} {bs : List β}, All2 R as bs → as.length = bs.length
  | _, _, .nil => rfl
  | _, _, .cons _ t => congrArg (· + 1) t.len
theorem All2.imp (f : ∀ a b, R a b → S a b) : ∀ {as : List α} {bs : List β}, All2 R as bs → All2 S as bs
  | _, _, .nil => .nil
  | _, _, .cons r t => .cons (f _ _ r) (t.imp f)
theorem All2.get : ∀ {as : List α} {bs : List β} {i : Nat} {b : β}, All2 R as bs → bs[i]? = some b → ∃ a, as[i]? = some a ∧ R a b
  | _, _, 0, b, .cons r _, h => by
    have e := Option.some.inj h
    subst e
    exact ⟨_, rfl, r⟩
  | _, _, i + 1, b, .cons _ t, h => t.get (i := i) h
  | _, _, i, b, .nil, h => by simp at h
theorem All2.getL : ∀ {as : List α} {bs : List β} {i : Nat} {a : α}, All2 R as bs → as[i]? = some a → ∃ b, bs[i]? = some b ∧ R a b
  | _, _, 0, b, .cons r _, h => by
    have e := Option.some.inj h
    subst e
    exact ⟨_, rfl, r⟩
  | _, _, i + 1, b, .cons _ t, h => t.getL (i := i) h
  | _, _, i, b, .nil, h => by simp at h
theorem All2.app : ∀ {as as' : List α} {bs bs' : List β}, All2 R as bs → All2 R as' bs' → All2 R (as ++ as') (bs ++ bs')
  | _, _, _, _, .nil, s => s
  | _, _, _, _, .cons r t, s => .cons r (t.app s)
theorem All2.one {a : α} {b : β} (r : R a b) : All2 R [a] [b] := .cons r .nil
theorem All2.set {a : α} {b : β} (r : R a b) : ∀ {as : List α} {bs : List β} (i : Nat), All2 R as bs → All2 R (as.set i a) (bs.set i b)
  | _, _, _, .nil => .nil
  | _, _, 0, .cons _ t => .cons r t
  | _, _, i + 1, .cons q t => .cons q (t.set r i)
theorem All2.take : ∀ {as : List α} {bs : List β} (n : Nat), All2 R as bs → All2 R (as.take n) (bs.take n)
  | _, _, 0, _ => .nil
  | _, _, _ + 1, .nil => .nil
  | _, _, n + 1, .cons r t => .cons r (t.take n)
theorem All2.drop : ∀ {as : List α} {bs : List β} (n : Nat), All2 R as bs → All2 R (as.drop n) (bs.drop n)
  | _, _, 0, r => r
  | _, _, _ + 1, .nil => .nil
  | _, _, n + 1, .cons _ t => t.drop n
theorem All2.rev {as : List α} {bs : List β} (t : All2 R as bs) : All2 R as.reverse bs.reverse := by
  induction t with
  | nil => exact .nil
  | cons r t ih =>
    rw [List.reverse_cons, List.reverse_cons]
    exact ih.app (.one r)
end
/-- the values stand for the data -/
abbrev Vs (A : Hp) : List V → List Pm → Prop := All2 fun v P => P.p A v
theorem Vs.up {A B : Hp} (h : Sub A B) {vs : List V} {ps : List Pm} (t : Vs A vs ps) : Vs B vs ps := t.imp fun _ P q => P.up h q
/-! ### kinds of data -/
def pN : Pm := ⟨fun _ v => v = .non, fun _ q => q⟩
def pI (i : Int) : Pm := ⟨fun _ v => v = .int i, fun _ q => q⟩
def pB (b : Bool) : Pm := ⟨fun _ v => v = .bl b, fun _ q => q⟩
abbrev pZ (n : Nat) : Pm := pI (n : Int)
def pL (ps : List Pm) : Pm := ⟨fun A v => ∃ a vs, v = .ref a ∧ A a = some (.lst vs) ∧ Vs A vs ps, fun h ⟨a, vs, e, q, t⟩ => ⟨a, vs, e, h _ _ q, t.up h⟩⟩
def pT (ps : List Pm) : Pm := ⟨fun A v => ∃ a vs, v = .ref a ∧ A a = some (.tup vs) ∧ Vs A vs ps, fun h ⟨a, vs, e, q, t⟩ => ⟨a, vs, e, h _ _ q, t.up h⟩⟩
/-- an object of the class at C, its fields by name -/
def pO (C : Addr) (fs : List (Str × Pm)) : Pm := ⟨fun A v => ∃ a dx us, v = .ref a ∧ A a = some (.ins C dx us) ∧ All2 (fun (u : Str × V) (f : Str × Pm) => u.1 = f.1 ∧ f.2.p A u.2) us fs,
  fun h ⟨a, dx, us, e, q, t⟩ => ⟨a, dx, us, e, h _ _ q, t.imp fun _ f z => ⟨z.1, f.2.up h z.2⟩⟩⟩
/-- something, or None -/
def pOpt {α : Type} (R : α → Pm) : Option α → Pm
  | none => pN
  | some x => R x
abbrev pLs {α : Type} (R : α → Pm) (xs : List α) : Pm := pL (xs.map R)
abbrev pIs (xs : List Int) : Pm := pLs pI xs
abbrev pZs (xs : List Nat) : Pm := pLs pZ xs
theorem vs_ints {A : Hp} : ∀ {vs : List V} {ns : List Int}, Vs A vs (ns.map pI) → vs = ns.map V.int
  | _, [], .nil => rfl
  | _, n :: ns, .cons r t => by
    rw [vs_ints t, show _ = V.int n from r]
    rfl
theorem vs_nats {A : Hp} : ∀ {vs : List V} {ns : List Nat}, Vs A vs (ns.map pZ) → vs = (ns.map fun n => ((n : Nat) : Int)).map V.int
  | _, [], .nil => rfl
  | _, n :: ns, .cons r t => by
    rw [vs_nats t, show _ = V.int n from r]
    rfl
theorem vs_bls {A : Hp} : ∀ {vs : List V} {bs : List Bool}, Vs A vs (bs.map pB) → vs = bs.map V.bl
  | _, [], .nil => rfl
  | _, n :: ns, .cons r t => by
    rw [vs_bls t, show _ = V.bl n from r]
    rfl
theorem ints_vs {A : Hp} : ∀ ns : List Int, Vs A (ns.map V.int) (ns.map pI)
  | [] => .nil
  | _ :: r => .cons rfl (ints_vs r)

/-! ### steps -/
/-- what stands well: the known part stands, so do the tables of code objects -/
structure Wf (T : List (Addr × Str)) (A H : Hp) : Prop where
  ah : Sub A H
  tb : LamX.Tabs T H
  nt : ∀ p ∈ T, A p.1 = none
/-- from (A, H) to (A', H'): nothing that was tracked is changed (tables may grow), what is newly known is new -/
structure Stp (T : List (Addr × Str)) (A H A' H' : Hp) : Prop where
  wf : Wf T A' H'
  aa : Sub A A'
  hh : LamX.ExtN H H'
  nn : ∀ b, H b ≠ none → H' b ≠ none
  fr : ∀ b, H b ≠ none → A' b = A b
section
variable {T : List (Addr × Str)} {A H A1 H1 A2 H2 : Hp}
theorem Stp.refl (h : Wf T A H) : Stp T A H A H := ⟨h, Sub.refl _, LamX.ExtN.refl _, fun _ h => h, fun _ _ => rfl⟩
theorem Stp.trans (a : Stp T A H A1 H1) (b : Stp T A1 H1 A2 H2) : Stp T A H A2 H2 :=
  ⟨b.wf, a.aa.trans b.aa, a.hh.trans b.hh, fun c h => b.nn c (a.nn c h), fun c h => (b.fr c (a.nn c h)).trans (a.fr c h)⟩
/-- a change of the tracked heap that leaves the tables and code objects -/
theorem tabs_upd {p : Addr} {o : HO} (t : LamX.Tabs T H) (h1 : ∀ ps, H p ≠ some (.tbl ps)) (h2 : ∀ φ, H p ≠ some (.ext φ)) : LamX.Tabs T (upd H p o) := fun q hq => by
  obtain ⟨ps, e1, e2, e3⟩ := t q hq
  have n1 : q.1 ≠ p := fun z => h1 ps (by rw [← z]; exact e1)
  refine ⟨ps, by rw [upd_ne n1]; exact e1, e2, fun pos cv hc => ?_⟩
  obtain ⟨c, e4, e5⟩ := e3 pos cv hc
  exact ⟨c, e4, by rw [upd_ne (fun z => h2 _ (by rw [← z]; exact e5))]; exact e5⟩
theorem sub_new {p : Addr} {o : HO} (h : H p = none) : Sub H (upd H p o) := fun b u e => by
  rw [upd_ne (ne_of_none e h)]
  exact e
theorem sub_none {p : Addr} (s : Sub A H) (h : H p = none) : A p = none := by
  cases q : A p with
  | none => rfl
  | some o =>
    rw [s p o q] at h
    cases h
theorem sub_updn {p : Addr} {o : HO} (s : Sub A H) (h : H p = none) : Sub A (L2.upd H p o) := s.trans (sub_new h)
theorem sub_upd2 {p : Addr} {o : HO} (s : Sub A H) : Sub (L2.upd A p o) (L2.upd H p o) := fun b u e => by
  by_cases hb : b = p
  · subst hb
    rw [upd_same] at e ⊢
    exact e
  · rw [upd_ne hb] at e ⊢
    exact s b u e
theorem nn_new {p : Addr} {o : HO} (b : Addr) (h : H b ≠ none) : L2.upd H p o b ≠ none := by
  by_cases hb : b = p
  · subst hb
    rw [upd_same]
    exact fun z => by cases z
  · rw [upd_ne hb]
    exact h
theorem wf_new {p : Addr} {o : HO} (w : Wf T A H) (h : H p = none) : LamX.Tabs T (L2.upd H p o) := tabs_upd w.tb (fun _ z => by rw [h] at z; cases z) fun _ z => by rw [h] at z; cases z
theorem nt_upd {p : Addr} {o : HO} (w : Wf T A H) (h : ∀ ps, H p ≠ some (.tbl ps)) : ∀ q ∈ T, L2.upd A p o q.1 = none := fun q hq => by
  obtain ⟨ps, e, _⟩ := w.tb q hq
  rw [upd_ne fun z => h ps (by rw [← z]; exact e)]
  exact w.nt q hq
/-- a new object, known from now on -/
theorem Stp.new {p : Addr} (o : HO) (w : Wf T A H) (h : H p = none) : Stp T A H (L2.upd A p o) (L2.upd H p o) :=
  ⟨⟨sub_upd2 w.ah, wf_new w h, nt_upd w fun _ z => by rw [h] at z; cases z⟩, sub_new (sub_none w.ah h), LamX.ExtN.of (sub_new h), fun b => nn_new b, fun b hb => upd_ne fun z => hb (by rw [z]; exact h)⟩
/-- a new object that may be changed -/
theorem Stp.newM {p : Addr} (o : HO) (w : Wf T A H) (h : H p = none) : Stp T A H A (L2.upd H p o) :=
  ⟨⟨sub_updn w.ah h, wf_new w h, w.nt⟩, Sub.refl _, LamX.ExtN.of (sub_new h), fun b => nn_new b, fun _ _ => rfl⟩
end

/-! ### slots -/
/-- what is known of a slot: nothing; a datum; a list of the def's own that may still grow -/
inductive Slot where
  | un
  | im (P : Pm)
  | mu (ps : List Pm)
def SlOk (H0 A H : Hp) : Option V → Slot → Prop
  | _, .un => True
  | some v, .im P => P.p A v
  | some v, .mu ps => ∃ a vs, v = .ref a ∧ H0 a = none ∧ A a = none ∧ H a = some (.lst vs) ∧ Vs A vs ps
  | none, _ => False
abbrev Sls (H0 A H : Hp) : L2.St → List Slot → Prop := All2 (SlOk H0 A H)
section
variable {T : List (Addr × Str)} {H0 A H A' H' : Hp}
theorem SlOk.up (s : Stp T A H A' H') : ∀ {v : Option V} {x : Slot}, SlOk H0 A H v x → SlOk H0 A' H' v x
  | none, .un, _ => trivial
  | some _, .un, _ => trivial
  | some v, .im P, q => P.up s.aa q
  | some v, .mu ps, q => by
    obtain ⟨a, vs, e, h0, h1, h2, h3⟩ := q
    exact ⟨a, vs, e, h0, (s.fr a (by rw [h2]; exact fun z => by cases z)).trans h1, s.hh a _ h2 (fun ps z => by cases z), h3.up s.aa⟩
  | none, .im _, q => q.elim
  | none, .mu _, q => q.elim
theorem Sls.up (s : Stp T A H A' H') {σ : L2.St} {Γ : List Slot} (t : Sls H0 A H σ Γ) : Sls H0 A' H' σ Γ := t.imp fun _ _ q => SlOk.up s q
theorem Sls.im {σ : L2.St} {Γ : List Slot} {i : Nat} {P : Pm} (t : Sls H0 A H σ Γ) (h : Γ[i]? = some (.im P)) : ∃ v, σ[i]? = some (some v) ∧ P.p A v := by
  obtain ⟨a, e, q⟩ := All2.get t h
  cases a with
  | none => exact q.elim
  | some v => exact ⟨v, e, q⟩
theorem Sls.mu {σ : L2.St} {Γ : List Slot} {i : Nat} {ps : List Pm} (t : Sls H0 A H σ Γ) (h : Γ[i]? = some (.mu ps)) :
    ∃ a vs, σ[i]? = some (some (.ref a)) ∧ H0 a = none ∧ A a = none ∧ H a = some (.lst vs) ∧ Vs A vs ps := by
  obtain ⟨x, e, q⟩ := All2.get t h
  cases x with
  | none => exact q.elim
  | some v =>
    obtain ⟨a, vs, rfl, h0, h1, h2, h3⟩ := q
    exact ⟨a, vs, e, h0, h1, h2, h3⟩
end

/-! ### readings as they are -/
section
variable (X : Cx)
def cE (e : Expr) : TE := fun σ H Q => ∀ pins s, Inv X pins σ H s → wpAny (model X.prog X.w) X.A (eval e X.env) (EP X pins σ Q) X.xe s
def cT (e : Expr) : TT := fun σ H Q => ∀ pins s, Inv X pins σ H s → wpAny (model X.prog X.w) X.A (isTrue e X.env (eval e X.env)) (TP X pins σ Q) X.xe s
def cA (es : List Expr) : TA := fun σ H Q => ∀ pos pins s, Inv X pins σ H s → wpAny (model X.prog X.w) X.A (spliced (backTo pos (starEach es X.env))) (AP X pins σ Q) X.xe s
def cS (st : Stmt) : TS := fun D σ H => ∀ pins s, Inv X pins σ H s → wpAny (model X.prog X.w) X.A (exec st X.env) (SP X pins D) X.xe s
def cSs (sts : List Stmt) : TS := fun D σ H => ∀ pins s, Inv X pins σ H s → wpAny (model X.prog X.w) X.A (execs sts X.env) (SP X pins D) X.xe s
def cG (tg : Expr) : TG := fun v σ H Q => ∀ pins s u, Inv X pins σ H s → RelV v u → wpAny (model X.prog X.w) X.A (assign tg X.env u) (fun _ s' => ∃ σ' H', Inv X pins σ' H' s' ∧ Q σ' H') X.xe s
def cI (tg iter : Expr) : TI := fun σ H R => ∀ pins s, Inv X pins σ H s → wpAny (model X.prog X.w) X.A (eval iter X.env) (fun v s1 => wpAny (model X.prog X.w) X.A (pyIter v) (PIE X pins σ tg R) X.xe s1) X.xe s
end
section
variable {X : Cx}
theorem canE {e : Expr} : PE X e (cE X e) := ⟨fun pins s σ H Q I h => h pins s I⟩
theorem canT {e : Expr} : PT X e (cT X e) := ⟨fun pins s σ H Q I h => h pins s I⟩
theorem canA {es : List Expr} : PA X es (cA X es) := ⟨fun pos pins s σ H Q I h => h pos pins s I⟩
theorem canS {st : Stmt} : PS X st (cS X st) := ⟨fun pins s σ H D I h => h pins s I⟩
theorem canSs {sts : List Stmt} : PSs X sts (cSs X sts) := ⟨fun pins s σ H D I h => h pins s I⟩
theorem canG {tg : Expr} : PG X tg (cG X tg) := ⟨fun pins s σ H v u Q I r h => h pins s u I r⟩
theorem canI {tg iter : Expr} : PI X tg iter (cI X tg iter) := ⟨fun pins s σ H R I h => h pins s I⟩
theorem ofE {e : Expr} {t : TE} (h : PE X e t) {σ : L2.St} {H : Hp} {Q : VK} (q : t σ H Q) : cE X e σ H Q := fun pins s I => h.run pins s σ H Q I q
theorem ofT {e : Expr} {t : TT} (h : PT X e t) {σ : L2.St} {H : Hp} {Q : Bool → Hp → Prop} (q : t σ H Q) : cT X e σ H Q := fun pins s I => h.run pins s σ H Q I q
theorem ofA {es : List Expr} {t : TA} (h : PA X es t) {σ : L2.St} {H : Hp} {Q : List V → Hp → Prop} (q : t σ H Q) : cA X es σ H Q := fun pos pins s I => h.run pos pins s σ H Q I q
theorem ofS {st : Stmt} {t : TS} (h : PS X st t) {σ : L2.St} {H : Hp} {D : Ends} (q : t D σ H) : cS X st D σ H := fun pins s I => h.run pins s σ H D I q
theorem ofSs {sts : List Stmt} {t : TS} (h : PSs X sts t) {σ : L2.St} {H : Hp} {D : Ends} (q : t D σ H) : cSs X sts D σ H := fun pins s I => h.run pins s σ H D I q
theorem ofG {tg : Expr} {t : TG} (h : PG X tg t) {v : V} {σ : L2.St} {H : Hp} {Q : L2.St → Hp → Prop} (q : t v σ H Q) : cG X tg v σ H Q := fun pins s u I r => h.run pins s σ H v u Q I r q
theorem ofI {tg iter : Expr} {t : TI} (h : PI X tg iter t) {σ : L2.St} {H : Hp} {R : It → Hp → Prop} (q : t σ H R) : cI X tg iter σ H R := fun pins s I => h.run pins s σ H R I q
end
end IX
end

section
set_option Elab.async false
set_option linter.all false
set_option maxRecDepth 100000
set_option maxHeartbeats 2000000
namespace IX
open PySem PySem.Spec PyProof.Rows L2

/-- where code runs: N its names by slot, sc its scope -/
structure XF (P : Program) (w : World) (K : PySem.W.Frag) (mg : Str → Option Value) (base : Heap) (k : Nat) (N : List Str) (sc : Scope) (X : Cx) : Prop where
  eP : X.prog = P
  ew : X.w = w
  eK : X.K = K
  em : X.mg = mg
  eb : X.base = base
  eN : X.N = N
  es : X.env.scope = sc
  calm : X.calm = true
  xe : X.xe = fun _ _ => False
  room : Room k X.A
  nd : N.Nodup

/-- e stands for P -/
def EV (X : Cx) (T : List (Addr × Str)) (H0 : Hp) (e : Expr) (Γ : List Slot) (P : Pm) : Prop :=
  ∀ σ A H, Sls H0 A H σ Γ → Wf T A H → ∀ Q : VK, (∀ v A' H', Stp T A H A' H' → P.p A' v → Q v H') → cE X e σ H Q
/-- the test e has the answer b -/
def EVT (X : Cx) (T : List (Addr × Str)) (H0 : Hp) (e : Expr) (Γ : List Slot) (b : Bool) : Prop :=
  ∀ σ A H, Sls H0 A H σ Γ → Wf T A H → ∀ Q : Bool → Hp → Prop, (∀ A' H', Stp T A H A' H' → Q b H') → cT X e σ H Q
def EVs (X : Cx) (T : List (Addr × Str)) (H0 : Hp) (es : List Expr) (Γ : List Slot) (ps : List Pm) : Prop :=
  ∀ σ A H, Sls H0 A H σ Γ → Wf T A H → ∀ Q : List V → Hp → Prop, (∀ vs A' H', Stp T A H A' H' → Vs A' vs ps → Q vs H') → cA X es σ H Q

section
variable {P : Program} {w : World} {K : PySem.W.Frag} {mg : Str → Option Value} {base : Heap} {k : Nat} {N : List Str} {sc : Scope} {X : Cx} {T : List (Addr × Str)} {H0 : Hp} {Γ : List Slot}
variable {a b c e o : Expr} {es rest : List Expr} {pos p : Pos} {R R1 R2 : Pm} {ps qs : List Pm}

theorem EV.eq (h : EV X T H0 e Γ R) {R' : Pm} (q : R = R') : EV X T H0 e Γ R' := q ▸ h
theorem EVT.eq {x y : Bool} (h : EVT X T H0 e Γ x) (q : x = y) : EVT X T H0 e Γ y := q ▸ h

/-! ### names, constants -/
theorem ev_var (hx : XF P w K mg base k N sc X) (i : Nat) {x : Str} (h1 : N[i]? = some x := by rfl) (h2 : Vis sc x := by first | exact Or.inl rfl | exact Or.inr (Or.inl rfl) | exact Or.inr (Or.inr rfl))
    (hg : Γ[i]? = some (.im R) := by rfl) (hd : (x == ("__debug__" : Str)) = false := by decide) (hcd : (x == ("__classdict__" : Str)) = false := by decide) : EV X T H0 (.Name x pos) Γ R := by
  intro σ A H sl wf Q q
  obtain ⟨v, e1, e2⟩ := sl.im hg
  exact ofE (pe_var (i := i) (by rw [hx.eN]; exact h1) (by rw [hx.es]; exact h2) hd hcd) ⟨v, e1, q v A H (.refl wf) e2⟩
theorem ev_int {i : Int} {j : Nat} : EV X T H0 (.Constant (.int i) j pos) Γ (pI i) := fun σ A H sl wf Q q => ofE pe_int (q _ A H (.refl wf) rfl)
theorem ev_bl {x : Bool} {j : Nat} : EV X T H0 (.Constant (.bool x) j pos) Γ (pB x) := fun σ A H sl wf Q q => ofE pe_bl (q _ A H (.refl wf) rfl)
theorem ev_non {j : Nat} : EV X T H0 (.Constant .none j pos) Γ pN := fun σ A H sl wf Q q => ofE pe_non (q _ A H (.refl wf) rfl)
theorem gl_of (hx : XF P w K mg base k N sc X) {x : Str} (h : sc.names.lookup x = some .globalImplicit) : Gl X x := by
  show X.env.scope.names.lookup x = _
  rw [hx.es]
  exact h
/-- a module's whole number -/
theorem ev_gint (hx : XF P w K mg base k N sc X) {x : Str} {i : Int} (hm : ∃ t, mg x = some (.int i t)) (hg : sc.names.lookup x = some .globalImplicit := by rfl) (hd : (x == ("__debug__" : Str)) = false := by decide) : EV X T H0 (.Name x pos) Γ (pI i) := by
  intro σ A H sl wf Q q
  obtain ⟨t, hm⟩ := hm
  exact ofE (pe_glob (v := .int i) (gl_of hx hg) (by rw [hx.em]; exact hm) ⟨t, rfl⟩ hd) (q _ A H (.refl wf) rfl)

/-! ### operators -/
theorem ev_opI {op : Operator} {g : Int → Int → Int} (ho : OpR X (binaryOp op) (rI0 fun i j => .int (g i j))) {x y : Int} (ha : EV X T H0 a Γ (pI x)) (hb : EV X T H0 b Γ (pI y)) : EV X T H0 (.BinOp a op b pos) Γ (pI (g x y)) := by
  intro σ A H sl wf Q q
  refine ofE (pe_op ho canE canE) (ha σ A H sl wf _ fun v A1 H1 s1 p1 => hb σ A1 H1 (sl.up s1) s1.wf _ fun u A2 H2 s2 p2 => ?_)
  exact ⟨x, y, p1, p2, q _ A2 H2 (s1.trans s2) rfl⟩
theorem ev_add {x y : Int} (ha : EV X T H0 a Γ (pI x)) (hb : EV X T H0 b Γ (pI y)) : EV X T H0 (.BinOp a .Add b pos) Γ (pI (x + y)) := ev_opI op_add ha hb
theorem ev_sub {x y : Int} (ha : EV X T H0 a Γ (pI x)) (hb : EV X T H0 b Γ (pI y)) : EV X T H0 (.BinOp a .Sub b pos) Γ (pI (x - y)) := ev_opI op_sub ha hb
theorem ev_mul {x y : Int} (hc : CMulW x y) (ha : EV X T H0 a Γ (pI x)) (hb : EV X T H0 b Γ (pI y)) : EV X T H0 (.BinOp a .Mult b pos) Γ (pI (x * y)) := by
  intro σ A H sl wf Q q
  refine ofE (pe_op op_mulW canE canE) (ha σ A H sl wf _ fun v A1 H1 s1 p1 => hb σ A1 H1 (sl.up s1) s1.wf _ fun u A2 H2 s2 p2 => ?_)
  exact ⟨x, y, p1, p2, hc, q _ A2 H2 (s1.trans s2) rfl⟩
theorem ev_fdiv {x y : Int} (hc : CDivW x y) (ha : EV X T H0 a Γ (pI x)) (hb : EV X T H0 b Γ (pI y)) : EV X T H0 (.BinOp a .FloorDiv b pos) Γ (pI (x / y)) := by
  intro σ A H sl wf Q q
  refine ofE (pe_op op_fdivW canE canE) (ha σ A H sl wf _ fun v A1 H1 s1 p1 => hb σ A1 H1 (sl.up s1) s1.wf _ fun u A2 H2 s2 p2 => ?_)
  exact ⟨x, y, p1, p2, hc, q _ A2 H2 (s1.trans s2) rfl⟩
theorem ev_neg {x : Int} (ha : EV X T H0 a Γ (pI x)) : EV X T H0 (.UnaryOp .USub a pos) Γ (pI (-x)) := by
  intro σ A H sl wf Q q
  refine ofE (pe_un un_neg canE) (ha σ A H sl wf _ fun v A1 H1 s1 p1 => ?_)
  exact ⟨x, p1, q _ A1 H1 s1 rfl⟩
/-- lists, one behind the other -/
theorem ev_cat (hz : ps.length + qs.length ≤ sizeLine) (ha : EV X T H0 a Γ (pL ps)) (hb : EV X T H0 b Γ (pL qs)) : EV X T H0 (.BinOp a .Add b pos) Γ (pL (ps ++ qs)) := by
  intro σ A H sl wf Q q
  refine ofE (pe_op op_cat canE canE) (ha σ A H sl wf _ fun v A1 H1 s1 p1 => hb σ A1 H1 (sl.up s1) s1.wf _ fun u A2 H2 s2 p2 => ?_)
  obtain ⟨l, vs, rfl, h1, h2⟩ := (pL ps).up s2.aa p1
  obtain ⟨l', us, rfl, h3, h4⟩ := p2
  refine ⟨l, l', vs, us, rfl, rfl, s2.wf.ah _ _ h1, s2.wf.ah _ _ h3, by rw [h2.len, h4.len]; exact hz, fun p np => ?_⟩
  have s3 := Stp.new (.lst (vs ++ us)) s2.wf np
  exact q _ _ _ ((s1.trans s2).trans s3) ⟨p, _, rfl, upd_same, Vs.up s3.aa (h2.app h4)⟩

/-! ### comparisons -/
theorem ev_cmp {op : CmpOp} {g : Int → Int → Bool} (ho : OpR X (compareOp op) (rI0 fun i j => .bl (g i j))) {x y : Int} (hm : behindInMarks op b = false) (ha : EV X T H0 a Γ (pI x)) (hb : EV X T H0 b Γ (pI y)) : EV X T H0 (.Compare a [op] [b] pos) Γ (pB (g x y)) := by
  intro σ A H sl wf Q q
  refine ofE (pe_cmpR ho canE canE hm) (ha σ A H sl wf _ fun v A1 H1 s1 p1 => hb σ A1 H1 (sl.up s1) s1.wf _ fun u A2 H2 s2 p2 => ?_)
  exact ⟨x, y, p1, p2, q _ A2 H2 (s1.trans s2) rfl⟩
theorem evt_cmp {op : CmpOp} {g : Int → Int → Bool} (ho : OpR X (compareOp op) (rI0 fun i j => .bl (g i j))) {x y : Int} (hm : behindInMarks op b = false) (ha : EV X T H0 a Γ (pI x)) (hb : EV X T H0 b Γ (pI y)) : EVT X T H0 (.Compare a [op] [b] pos) Γ (g x y) := by
  intro σ A H sl wf Q q
  refine ofT (pt_cmpR ho canE canE hm) (ha σ A H sl wf _ fun v A1 H1 s1 p1 => hb σ A1 H1 (sl.up s1) s1.wf _ fun u A2 H2 s2 p2 => ?_)
  exact ⟨x, y, p1, p2, _, rfl, q A2 H2 (s1.trans s2)⟩
theorem ev_lt {x y : Int} (ha : EV X T H0 a Γ (pI x)) (hb : EV X T H0 b Γ (pI y)) : EV X T H0 (.Compare a [.Lt] [b] pos) Γ (pB (decide (x < y))) := ev_cmp op_lt (nomark _) ha hb
theorem ev_le {x y : Int} (ha : EV X T H0 a Γ (pI x)) (hb : EV X T H0 b Γ (pI y)) : EV X T H0 (.Compare a [.LtE] [b] pos) Γ (pB (decide (x ≤ y))) := ev_cmp op_le (nomark _) ha hb
theorem ev_gt {x y : Int} (ha : EV X T H0 a Γ (pI x)) (hb : EV X T H0 b Γ (pI y)) : EV X T H0 (.Compare a [.Gt] [b] pos) Γ (pB (decide (y < x))) := ev_cmp op_gt (nomark _) ha hb
theorem ev_ge {x y : Int} (ha : EV X T H0 a Γ (pI x)) (hb : EV X T H0 b Γ (pI y)) : EV X T H0 (.Compare a [.GtE] [b] pos) Γ (pB (decide (y ≤ x))) := ev_cmp op_ge (nomark _) ha hb
theorem evt_lt {x y : Int} (ha : EV X T H0 a Γ (pI x)) (hb : EV X T H0 b Γ (pI y)) : EVT X T H0 (.Compare a [.Lt] [b] pos) Γ (decide (x < y)) := evt_cmp op_lt (nomark _) ha hb
theorem evt_le {x y : Int} (ha : EV X T H0 a Γ (pI x)) (hb : EV X T H0 b Γ (pI y)) : EVT X T H0 (.Compare a [.LtE] [b] pos) Γ (decide (x ≤ y)) := evt_cmp op_le (nomark _) ha hb
theorem evt_gt {x y : Int} (ha : EV X T H0 a Γ (pI x)) (hb : EV X T H0 b Γ (pI y)) : EVT X T H0 (.Compare a [.Gt] [b] pos) Γ (decide (y < x)) := evt_cmp op_gt (nomark _) ha hb
theorem evt_ge {x y : Int} (ha : EV X T H0 a Γ (pI x)) (hb : EV X T H0 b Γ (pI y)) : EVT X T H0 (.Compare a [.GtE] [b] pos) Γ (decide (y ≤ x)) := evt_cmp op_ge (nomark _) ha hb
theorem dec_int (x y : Int) : decide (V.int x = V.int y) = decide (x = y) := by
  by_cases h : x = y
  · rw [decide_eq_true h, h, decide_eq_true rfl]
  · rw [decide_eq_false h, decide_eq_false (fun z => h (V.int.inj z))]
theorem ev_eq {x y : Int} (ha : EV X T H0 a Γ (pI x)) (hb : EV X T H0 b Γ (pI y)) : EV X T H0 (.Compare a [.Eq] [b] pos) Γ (pB (decide (x = y))) := by
  intro σ A H sl wf Q q
  refine ofE (pe_cmpR op_eq canE canE (nomark _)) (ha σ A H sl wf _ fun v A1 H1 s1 p1 => hb σ A1 H1 (sl.up s1) s1.wf _ fun u A2 H2 s2 p2 => ?_)
  cases p1
  cases p2
  exact ⟨rfl, by rw [dec_int]; exact q _ A2 H2 (s1.trans s2) rfl⟩
theorem evt_eq {x y : Int} (ha : EV X T H0 a Γ (pI x)) (hb : EV X T H0 b Γ (pI y)) : EVT X T H0 (.Compare a [.Eq] [b] pos) Γ (decide (x = y)) := by
  intro σ A H sl wf Q q
  refine ofT (pt_cmpR op_eq canE canE (nomark _)) (ha σ A H sl wf _ fun v A1 H1 s1 p1 => hb σ A1 H1 (sl.up s1) s1.wf _ fun u A2 H2 s2 p2 => ?_)
  cases p1
  cases p2
  exact ⟨rfl, _, rfl, by rw [dec_int]; exact q A2 H2 (s1.trans s2)⟩
theorem evt_ne {x y : Int} (ha : EV X T H0 a Γ (pI x)) (hb : EV X T H0 b Γ (pI y)) : EVT X T H0 (.Compare a [.NotEq] [b] pos) Γ (!decide (x = y)) := by
  intro σ A H sl wf Q q
  refine ofT (pt_cmpR op_ne canE canE (nomark _)) (ha σ A H sl wf _ fun v A1 H1 s1 p1 => hb σ A1 H1 (sl.up s1) s1.wf _ fun u A2 H2 s2 p2 => ?_)
  cases p1
  cases p2
  exact ⟨rfl, _, rfl, by rw [dec_int]; exact q A2 H2 (s1.trans s2)⟩
/-- e is None -/
theorem evt_isN {α : Type} {S : α → Pm} {x : Option α} {j : Nat} {p' : Pos} (hS : ∀ y A v, (S y).p A v → v ≠ .non) (ha : EV X T H0 a Γ (pOpt S x)) : EVT X T H0 (.Compare a [.Is] [.Constant .none j p'] pos) Γ x.isNone := by
  intro σ A H sl wf Q q
  refine ofT (pt_cmp (pc_isN canE)) (ha σ A H sl wf _ fun v A1 H1 s1 p1 => ?_)
  refine ⟨_, rfl, ?_⟩
  have e : decide (v = .non) = x.isNone := by
    cases x with
    | none => exact decide_eq_true p1
    | some y => exact decide_eq_false (hS y A1 v p1)
  rw [e]
  exact q A1 H1 s1

/-! ### and, or, not -/
theorem evt_val {x : Bool} (h : EV X T H0 e Γ (pB x)) (he : ∀ whole, isTrue e X.env whole = (do let v ← whole; standAt e.pos; holding [v] (truthy v)) := by intro _; rfl) : EVT X T H0 e Γ x := by
  intro σ A H sl wf Q q
  refine ofT (pt_val canE he) (h σ A H sl wf _ fun v A1 H1 s1 p1 => ⟨x, p1, q A1 H1 s1⟩)
theorem evt_and {x y : Bool} (ha : EVT X T H0 a Γ x) (hb : x = true → EVT X T H0 b Γ y) : EVT X T H0 (.BoolOp .And [a, b] pos) Γ (x && y) := by
  intro σ A H sl wf Q q
  refine ofT (PW.pt (pw_and canT (pw_and1 canT))) (ha σ A H sl wf _ fun A1 H1 s1 => ?_)
  cases x with
  | true => exact iteT (hb rfl σ A1 H1 (sl.up s1) s1.wf _ fun A2 H2 s2 => q A2 H2 (s1.trans s2))
  | false => exact iteF (q A1 H1 s1)
theorem evt_and3 {x y z : Bool} (ha : EVT X T H0 a Γ x) (hb : x = true → EVT X T H0 b Γ y) (hc : x = true → y = true → EVT X T H0 c Γ z) : EVT X T H0 (.BoolOp .And [a, b, c] pos) Γ (x && (y && z)) := by
  intro σ A H sl wf Q q
  refine ofT (PW.pt (pw_and canT (pw_and canT (pw_and1 canT)))) (ha σ A H sl wf _ fun A1 H1 s1 => ?_)
  cases x with
  | true =>
    refine iteT (hb rfl σ A1 H1 (sl.up s1) s1.wf _ fun A2 H2 s2 => ?_)
    cases y with
    | true => exact iteT (hc rfl rfl σ A2 H2 (sl.up (s1.trans s2)) s2.wf _ fun A3 H3 s3 => q A3 H3 ((s1.trans s2).trans s3))
    | false => exact iteF (q A2 H2 (s1.trans s2))
  | false => exact iteF (q A1 H1 s1)
theorem evt_or {x y : Bool} (ha : EVT X T H0 a Γ x) (hb : x = false → EVT X T H0 b Γ y) : EVT X T H0 (.BoolOp .Or [a, b] pos) Γ (x || y) := by
  intro σ A H sl wf Q q
  refine ofT (PW.pt (pw_or canT (pw_or1 canT))) (ha σ A H sl wf _ fun A1 H1 s1 => ?_)
  cases x with
  | false => exact iteF (hb rfl σ A1 H1 (sl.up s1) s1.wf _ fun A2 H2 s2 => q A2 H2 (s1.trans s2))
  | true => exact iteT (q A1 H1 s1)
theorem evt_not {x : Bool} (ha : EVT X T H0 a Γ x) : EVT X T H0 (.UnaryOp .Not a pos) Γ (!x) := by
  intro σ A H sl wf Q q
  exact ofT (pt_not canT) (ha σ A H sl wf _ fun A1 H1 s1 => q A1 H1 s1)
theorem ev_and {x y : Bool} (ha : EV X T H0 a Γ (pB x)) (hb : x = true → EV X T H0 b Γ (pB y)) : EV X T H0 (.BoolOp .And [a, b] pos) Γ (pB (x && y)) := by
  intro σ A H sl wf Q q
  refine ofE (pe_and canE (pe_one canE)) (ha σ A H sl wf _ fun v A1 H1 s1 p1 => ⟨x, p1, ?_⟩)
  cases x with
  | true => exact iteT (hb rfl σ A1 H1 (sl.up s1) s1.wf _ fun u A2 H2 s2 p2 => q u A2 H2 (s1.trans s2) p2)
  | false => exact iteF (q _ A1 H1 s1 rfl)
theorem ev_and3 {x y z : Bool} (ha : EV X T H0 a Γ (pB x)) (hb : x = true → EV X T H0 b Γ (pB y)) (hc : x = true → y = true → EV X T H0 c Γ (pB z)) : EV X T H0 (.BoolOp .And [a, b, c] pos) Γ (pB (x && (y && z))) := by
  intro σ A H sl wf Q q
  refine ofE (pe_and canE (pe_and canE (pe_one canE))) (ha σ A H sl wf _ fun v A1 H1 s1 p1 => ⟨x, p1, ?_⟩)
  cases x with
  | true =>
    refine iteT (hb rfl σ A1 H1 (sl.up s1) s1.wf _ fun u A2 H2 s2 p2 => ⟨y, p2, ?_⟩)
    cases y with
    | true => exact iteT (hc rfl rfl σ A2 H2 (sl.up (s1.trans s2)) s2.wf _ fun r A3 H3 s3 p3 => q r A3 H3 ((s1.trans s2).trans s3) p3)
    | false => exact iteF (q _ A2 H2 (s1.trans s2) rfl)
  | false => exact iteF (q _ A1 H1 s1 rfl)
theorem ev_not {x : Bool} (ha : EV X T H0 a Γ (pB x)) : EV X T H0 (.UnaryOp .Not a pos) Γ (pB (!x)) := by
  intro σ A H sl wf Q q
  exact ofE (pe_not canE) (ha σ A H sl wf _ fun v A1 H1 s1 p1 => ⟨x, p1, q _ A1 H1 s1 rfl⟩)
theorem ev_if {x : Bool} (hc : EVT X T H0 c Γ x) (ha : x = true → EV X T H0 a Γ R) (hb : x = false → EV X T H0 b Γ R) : EV X T H0 (.IfExp c a b pos) Γ R := by
  intro σ A H sl wf Q q
  refine ofE (pe_ifExp canT canE canE) (hc σ A H sl wf _ fun A1 H1 s1 => ?_)
  cases x with
  | true => exact iteT (ha rfl σ A1 H1 (sl.up s1) s1.wf _ fun u A2 H2 s2 p2 => q u A2 H2 (s1.trans s2) p2)
  | false => exact iteF (hb rfl σ A1 H1 (sl.up s1) s1.wf _ fun u A2 H2 s2 p2 => q u A2 H2 (s1.trans s2) p2)

/-! ### several, displays -/
theorem evs_nil : EVs X T H0 [] Γ [] := fun σ A H sl wf Q q => ofA pa_nil (q [] A H (.refl wf) .nil)
theorem evs_cons (ha : EV X T H0 e Γ R) (hr : EVs X T H0 es Γ ps) (hs : starEach (e :: es) X.env = (false, eval e X.env) :: starEach es X.env := by rfl) : EVs X T H0 (e :: es) Γ (R :: ps) := by
  intro σ A H sl wf Q q
  refine ofA (pa_cons canE canA hs) (ha σ A H sl wf _ fun v A1 H1 s1 p1 => hr σ A1 H1 (sl.up s1) s1.wf _ fun vs A2 H2 s2 p2 => ?_)
  exact q _ A2 H2 (s1.trans s2) (.cons (R.up s2.aa p1) p2)
theorem ev_lst (h : EVs X T H0 es Γ ps) (hz : ps.length ≤ sizeLine := by exact Nat.le_of_ble_eq_true rfl) : EV X T H0 (.List es pos) Γ (pL ps) := by
  intro σ A H sl wf Q q
  refine ofE (pe_lst canA) (h σ A H sl wf _ fun vs A1 H1 s1 p1 => ⟨by rw [p1.len]; exact hz, fun p np => ?_⟩)
  have s3 := Stp.new (.lst vs) s1.wf np
  exact q _ _ _ (s1.trans s3) ⟨p, _, rfl, upd_same, p1.up s3.aa⟩
theorem ev_tup {n : Nat} (h : EVs X T H0 es Γ ps) (hz : ps.length ≤ sizeLine := by exact Nat.le_of_ble_eq_true rfl) : EV X T H0 (.Tuple es n pos) Γ (pT ps) := by
  intro σ A H sl wf Q q
  refine ofE (pe_tup canA) (h σ A H sl wf _ fun vs A1 H1 s1 p1 => ⟨by rw [p1.len]; exact hz, fun p np => ?_⟩)
  have s3 := Stp.new (.tup vs) s1.wf np
  exact q _ _ _ (s1.trans s3) ⟨p, _, rfl, upd_same, p1.up s3.aa⟩

/-! ### fields, items, slices -/
theorem look2 {A : Hp} {f : Str} {S : Pm} : ∀ {us : List (Str × V)} {fs : List (Str × Pm)}, All2 (fun (u : Str × V) (f : Str × Pm) => u.1 = f.1 ∧ f.2.p A u.2) us fs → fs.lookup f = some S → ∃ v, us.lookup f = some v ∧ S.p A v
  | _, _, .nil, h => by cases h
  | (x, v) :: us, (y, S') :: fs, .cons r t, h => by
    obtain ⟨e, q⟩ := r
    have e : x = y := e
    subst e
    have h : (match f == x with | true => some S' | false => fs.lookup f) = some S := h
    show ∃ v', (match f == x with | true => some v | false => us.lookup f) = some v' ∧ S.p A v'
    cases hb : f == x with
    | true =>
      rw [hb] at h
      have e2 : S' = S := Option.some.inj h
      exact ⟨v, rfl, e2 ▸ q⟩
    | false =>
      rw [hb] at h
      exact look2 t h
theorem ev_fld {C : Addr} {fs : List (Str × Pm)} {f : Str} (hc : Cls X.K C) (hn : NoAttr X.K C f) (hf : fs.lookup f = some R) (h : EV X T H0 e Γ (pO C fs)) (hb : attributeBase e f X.env (eval e X.env) = eval e X.env := by rfl) : EV X T H0 (.Attribute e f pos) Γ R := by
  intro σ A H sl wf Q q
  refine ofE (pe_fld canE hb) (h σ A H sl wf _ fun v A1 H1 s1 p1 => ?_)
  obtain ⟨x, dx, us, rfl, h1, h2⟩ := p1
  obtain ⟨v, e1, e2⟩ := look2 h2 hf
  exact ⟨x, C, dx, us, v, rfl, s1.wf.ah _ _ h1, hc, hn, e1, q v A1 H1 s1 e2⟩
theorem atI_all2 {vs : List V} {ps : List Pm} {A : Hp} {i : Int} (h : Vs A vs ps) (hi : atI ps i = some R) : ∃ v, atI vs i = some v ∧ R.p A v := by
  unfold atI at hi ⊢
  rw [h.len]
  cases e : ixN ps.length i with
  | none =>
    rw [e] at hi
    cases hi
  | some j =>
    rw [e] at hi
    exact h.get (i := j) hi
theorem ev_ixL {i : Int} (h : EV X T H0 e Γ (pL ps)) (hi : EV X T H0 a Γ (pI i)) (hat : atI ps i = some R) (hs : PlainIx a := by exact fun _ _ => rfl) : EV X T H0 (.Subscript e a pos) Γ R := by
  intro σ A H sl wf Q q
  refine ofE (pe_ix ix_list canE canE hs) (h σ A H sl wf _ fun v A1 H1 s1 p1 => hi σ A1 H1 (sl.up s1) s1.wf _ fun u A2 H2 s2 p2 => ?_)
  obtain ⟨x, vs, rfl, h1, h2⟩ := (pL ps).up s2.aa p1
  obtain ⟨v, e1, e2⟩ := atI_all2 h2 hat
  exact ⟨x, vs, i, v, rfl, p2, SqL.of (s2.wf.ah _ _ h1), e1, q v A2 H2 (s1.trans s2) e2⟩
theorem ev_ixT {i : Int} (h : EV X T H0 e Γ (pT ps)) (hi : EV X T H0 a Γ (pI i)) (hat : atI ps i = some R) (hs : PlainIx a := by exact fun _ _ => rfl) : EV X T H0 (.Subscript e a pos) Γ R := by
  intro σ A H sl wf Q q
  refine ofE (pe_ix ix_tup canE canE hs) (h σ A H sl wf _ fun v A1 H1 s1 p1 => hi σ A1 H1 (sl.up s1) s1.wf _ fun u A2 H2 s2 p2 => ?_)
  obtain ⟨x, vs, rfl, h1, h2⟩ := (pT ps).up s2.aa p1
  obtain ⟨v, e1, e2⟩ := atI_all2 h2 hat
  exact ⟨x, vs, i, v, rfl, p2, SqT.of (s2.wf.ah _ _ h1), e1, q v A2 H2 (s1.trans s2) e2⟩
/-- the part of a slice: left out, or a number -/
inductive EVO (X : Cx) (T : List (Addr × Str)) (H0 : Hp) (Γ : List Slot) : Option Expr → Option Int → Prop
  | no : EVO X T H0 Γ none none
  | yes {e : Expr} {i : Int} : EV X T H0 e Γ (pI i) → EVO X T H0 Γ (some e) (some i)
def cutP (ps : List Pm) (lo hi : Option Int) : List Pm := (ps.drop (HT.sIx ps.length 0 lo)).take (HT.sIx ps.length ps.length hi - HT.sIx ps.length 0 lo)
theorem cut_all2 {vs : List V} {A : Hp} {lo hi : Option Int} (h : Vs A vs ps) : Vs A (cutV vs lo hi) (cutP ps lo hi) := by
  unfold cutV cutP
  rw [h.len]
  exact (h.drop _).take _
theorem EVO.run {eo : Option Expr} {io : Option Int} (h : EVO X T H0 Γ eo io) : ∃ t : TO, PO X eo t ∧ ∀ σ A H, Sls H0 A H σ Γ → Wf T A H → ∀ Q : Option Int → Hp → Prop, (∀ A' H', Stp T A H A' H' → Q io H') → t σ H Q := by
  cases h with
  | no => exact ⟨_, po_none, fun σ A H sl wf Q q => q A H (.refl wf)⟩
  | yes h => exact ⟨_, po_some canE, fun σ A H sl wf Q q => h σ A H sl wf _ fun v A1 H1 s1 p1 => ⟨_, p1, q A1 H1 s1⟩⟩
theorem ev_slice {lo hi : Option Expr} {i j : Option Int} {p2 : Pos} (h : EV X T H0 e Γ (pL ps)) (hl : EVO X T H0 Γ lo i) (hh : EVO X T H0 Γ hi j) : EV X T H0 (.Subscript e (.Slice lo hi none p2) pos) Γ (pL (cutP ps i j)) := by
  obtain ⟨t1, r1, q1⟩ := hl.run
  obtain ⟨t2, r2, q2⟩ := hh.run
  intro σ A H sl wf Q q
  refine ofE (pe_slice sl_list canE r1 r2) (h σ A H sl wf _ fun v A1 H1 s1 p1 => q1 σ A1 H1 (sl.up s1) s1.wf _ fun A2 H2 s2 => q2 σ A2 H2 (sl.up (s1.trans s2)) s2.wf _ fun A3 H3 s3 => ?_)
  obtain ⟨x, vs, rfl, h1, h2⟩ := (pL ps).up (s2.trans s3).aa p1
  refine ⟨x, vs, rfl, SqL.of (s3.wf.ah _ _ h1), fun p np => ?_⟩
  have s4 := Stp.new (.lst (cutV vs i j)) s3.wf np
  exact q _ _ _ (((s1.trans s2).trans s3).trans s4) ⟨p, _, rfl, upd_same, Vs.up s4.aa (cut_all2 h2)⟩

/-! ### built-ins -/
theorem ev_blt {x : Str} {id : String} {r : List V → Hp → VK → Prop} (hx : XF P w K mg base k N sc X) (hc : CallR X (.builtin id) r) (hm : mg x = none) (hv : bootBuiltins x = some (.builtin id)) (h : EVs X T H0 (e :: es) Γ ps)
    (hr : ∀ vs A H, Wf T A H → Vs A vs ps → ∀ Q : VK, (∀ v A' H', Stp T A H A' H' → R.p A' v → Q v H') → r vs H Q)
    (hg : sc.names.lookup x = some .globalImplicit := by rfl) (hn : x ≠ "__name__" := by decide) (hdb : (x == ("__debug__" : Str)) = false := by decide)
    (he : starEach (e :: es) X.env = (false, eval e X.env) :: starEach es X.env := by rfl) (hpl : (backTo pos (starEach es X.env)).any (·.1) = false := by rfl) :
    EV X T H0 (.Call (.Name x p) (e :: es) [] pos) Γ R := by
  intro σ A H sl wf Q q
  refine ofE (pe_callB hc (gl_of hx hg) (by rw [hx.em]; exact hm) hv canA hn hdb he hpl) (h σ A H sl wf _ fun vs A1 H1 s1 p1 => ?_)
  exact hr vs A1 H1 s1.wf p1 Q fun v A2 H2 s2 p2 => q v A2 H2 (s1.trans s2) p2
end
end IX
end

section
set_option Elab.async false
set_option linter.all false
set_option maxRecDepth 100000
set_option maxHeartbeats 2000000
namespace IX
open PySem PySem.Spec PyProof.Rows L2
section
variable {P : Program} {w : World} {K : PySem.W.Frag} {mg : Str → Option Value} {base : Heap} {k : Nat} {N : List Str} {sc : Scope} {X : Cx} {T : List (Addr × Str)} {H0 : Hp} {Γ : List Slot}
variable {a b c e o : Expr} {es rest : List Expr} {pos p : Pos} {R R1 R2 : Pm} {ps qs : List Pm}

/-! ### len, sum, min, all, list -/
theorem ev_len (hx : XF P w K mg base k N sc X) (hm : mg "len" = none) (h : EV X T H0 a Γ (pL ps)) (hg : sc.names.lookup ("len" : Str) = some .globalImplicit := by rfl)
    (he : starEach [a] X.env = (false, eval a X.env) :: starEach [] X.env := by rfl) : EV X T H0 (.Call (.Name "len" p) [a] [] pos) Γ (pZ ps.length) := by
  refine ev_blt hx call_len_seq hm boot_len (evs_cons h evs_nil he) (fun vs A H wf q Q k => ?_) hg (by decide) (by decide) he rfl
  cases q with
  | cons q t =>
    cases t
    obtain ⟨l, us, rfl, h1, h2⟩ := q
    refine ⟨l, us, rfl, .inl (SqL.of (wf.ah _ _ h1)), k _ A H (.refl wf) ?_⟩
    rw [h2.len]
    rfl
/-- len of a list of the def's own that may still grow -/
theorem ev_lenM (hx : XF P w K mg base k N sc X) (hm : mg "len" = none) (i : Nat) {x : Str} {p' : Pos} (h1 : N[i]? = some x := by rfl) (h2 : Vis sc x := by first | exact Or.inl rfl | exact Or.inr (Or.inl rfl) | exact Or.inr (Or.inr rfl))
    (hg' : Γ[i]? = some (.mu ps) := by rfl) (hd : (x == ("__debug__" : Str)) = false := by decide) (hcd : (x == ("__classdict__" : Str)) = false := by decide) (hg : sc.names.lookup ("len" : Str) = some .globalImplicit := by rfl) :
    EV X T H0 (.Call (.Name "len" p) [.Name x p'] [] pos) Γ (pZ ps.length) := by
  intro σ A H sl wf Q q
  obtain ⟨l, vs, e1, _, _, e2, e3⟩ := sl.mu hg'
  refine ofE (pe_callB call_len_seq (gl_of hx hg) (by rw [hx.em]; exact hm) boot_len (pa_cons (pe_var (i := i) (by rw [hx.eN]; exact h1) (by rw [hx.es]; exact h2) hd hcd) pa_nil)) ⟨_, e1, l, vs, rfl, .inl (SqL.of e2), q _ A H (.refl wf) ?_⟩
  rw [e3.len]
  rfl
theorem ev_sum (hx : XF P w K mg base k N sc X) (hm : mg "sum" = none) {ns : List Int} (h : EV X T H0 a Γ (pIs ns)) (hg : sc.names.lookup ("sum" : Str) = some .globalImplicit := by rfl)
    (he : starEach [a] X.env = (false, eval a X.env) :: starEach [] X.env := by rfl) : EV X T H0 (.Call (.Name "sum" p) [a] [] pos) Γ (pI ns.sum) := by
  refine ev_blt hx (cr_sum hx.calm) hm boot_sum (evs_cons h evs_nil he) (fun vs A H wf q Q k => ?_) hg (by decide) (by decide) he rfl
  cases q with
  | cons q t =>
    cases t
    obtain ⟨l, us, rfl, h1, h2⟩ := q
    rw [vs_ints h2] at h1
    exact ⟨l, ns, rfl, SqL.of (wf.ah _ _ h1), k _ A H (.refl wf) rfl⟩
theorem ev_all (hx : XF P w K mg base k N sc X) (hm : mg "all" = none) {bs : List Bool} (h : EV X T H0 a Γ (pL (bs.map pB))) (hg : sc.names.lookup ("all" : Str) = some .globalImplicit := by rfl)
    (he : starEach [a] X.env = (false, eval a X.env) :: starEach [] X.env := by rfl) : EV X T H0 (.Call (.Name "all" p) [a] [] pos) Γ (pB (bs.all id)) := by
  refine ev_blt hx (cr_all hx.calm) hm (by decide +kernel) (evs_cons h evs_nil he) (fun vs A H wf q Q k => ?_) hg (by decide) (by decide) he rfl
  cases q with
  | cons q t =>
    cases t
    obtain ⟨l, us, rfl, h1, h2⟩ := q
    rw [vs_bls h2] at h1
    exact ⟨l, bs, rfl, SqL.of (wf.ah _ _ h1), k _ A H (.refl wf) rfl⟩
theorem ev_min2 (hx : XF P w K mg base k N sc X) (hm : mg "min" = none) {x y : Int} (ha : EV X T H0 a Γ (pI x)) (hb : EV X T H0 b Γ (pI y)) (hg : sc.names.lookup ("min" : Str) = some .globalImplicit := by rfl)
    (he : starEach [a, b] X.env = (false, eval a X.env) :: starEach [b] X.env := by rfl) (he2 : starEach [b] X.env = (false, eval b X.env) :: starEach [] X.env := by rfl) (hpl : (backTo pos (starEach [b] X.env)).any (·.1) = false := by rfl) :
    EV X T H0 (.Call (.Name "min" p) [a, b] [] pos) Γ (pI (min x y)) := by
  refine ev_blt hx (call_min2 hx.calm) hm boot_min (evs_cons ha (evs_cons hb evs_nil he2) he) (fun vs A H wf q Q k => ?_) hg (by decide) (by decide) he hpl
  cases q with
  | cons q t =>
    cases t with
    | cons q2 t =>
      cases t
      cases q
      cases q2
      refine ⟨x, y, rfl, k _ A H (.refl wf) ?_⟩
      show V.int _ = V.int (min x y)
      congr 1
      split <;> omega
theorem ev_minL (hx : XF P w K mg base k N sc X) (hm : mg "min" = none) {ns : List Int} {m : Int} (h1 : m ∈ ns) (h2 : ∀ y ∈ ns, m ≤ y) (h : EV X T H0 a Γ (pIs ns)) (hg : sc.names.lookup ("min" : Str) = some .globalImplicit := by rfl)
    (he : starEach [a] X.env = (false, eval a X.env) :: starEach [] X.env := by rfl) : EV X T H0 (.Call (.Name "min" p) [a] [] pos) Γ (pI m) := by
  refine ev_blt hx (cr_min hx.calm) hm boot_min (evs_cons h evs_nil he) (fun vs A H wf q Q k => ?_) hg (by decide) (by decide) he rfl
  cases q with
  | cons q t =>
    cases t
    obtain ⟨l, us, rfl, g1, g2⟩ := q
    rw [vs_ints g2] at g1
    refine ⟨l, ns, rfl, SqL.of (wf.ah _ _ g1), List.length_pos_of_mem h1, fun m' hm' hle => ?_⟩
    have e : m' = m := Int.le_antisymm (hle m h1) (h2 m' hm')
    rw [e]
    exact k _ A H (.refl wf) rfl
theorem ev_listOf (hx : XF P w K mg base k N sc X) (hm : mg "list" = none) (h : EV X T H0 a Γ (pL ps)) (hg : sc.names.lookup ("list" : Str) = some .globalImplicit := by rfl)
    (he : starEach [a] X.env = (false, eval a X.env) :: starEach [] X.env := by rfl) : EV X T H0 (.Call (.Name "list" p) [a] [] pos) Γ (pL ps) := by
  intro σ A H sl wf Q q
  refine ofE (pe_callTy call_list_of (gl_of hx hg) (by rw [hx.em]; exact hm) (by decide +kernel) canA (by decide) (by decide) he rfl) (evs_cons h evs_nil he σ A H sl wf _ fun vs A1 H1 s1 p1 => ?_)
  cases p1 with
  | cons p1 t =>
    cases t
    obtain ⟨l, us, rfl, g1, g2⟩ := p1
    refine ⟨l, us, rfl, .inl (SqL.of (s1.wf.ah _ _ g1)), fun l' hl => ?_⟩
    have s3 := Stp.new (.lst us) s1.wf hl
    exact q _ _ _ (s1.trans s3) ⟨l', us, rfl, upd_same, Vs.up s3.aa g2⟩
theorem ev_rev {n : Nat} {p1 p2 p3 : Pos} (h : EV X T H0 e Γ (pL ps)) : EV X T H0 (.Subscript e (.Slice none none (some (.UnaryOp .USub (.Constant (.int 1) n p1) p2)) p3) pos) Γ (pL ps.reverse) := by
  intro σ A H sl wf Q q
  refine ofE (pe_revL canE) (h σ A H sl wf _ fun v A1 H1 s1 p1 => ?_)
  obtain ⟨l, us, rfl, g1, g2⟩ := p1
  refine ⟨l, us, rfl, SqL.of (s1.wf.ah _ _ g1), fun l' hl => ?_⟩
  have s3 := Stp.new (.lst us.reverse) s1.wf hl
  exact q _ _ _ (s1.trans s3) ⟨l', _, rfl, upd_same, Vs.up s3.aa g2.rev⟩

/-! ### in, not in, ==, < of what is not a number -/
theorem in_ints (x : Int) (ns : List Int) : inV (.int x) (ns.map V.int) = decide (x ∈ ns) := by
  unfold inV
  induction ns with
  | nil => rfl
  | cons n r ih =>
    rw [List.map_cons, List.any_cons, ih]
    have e : eqV (.int n) (.int x) = decide (n = x) := rfl
    rw [e]
    by_cases h : n = x
    · simp [h]
    · have h' : ¬ x = n := fun z => h z.symm
      simp [h, h']
theorem flat_ints (ns : List Int) : (ns.map V.int).all flatV = true := by
  induction ns with
  | nil => rfl
  | cons n r ih =>
    rw [List.map_cons, List.all_cons, ih]
    rfl
theorem evt_in {x : Int} {ns : List Int} (ha : EV X T H0 a Γ (pI x)) (hb : EV X T H0 b Γ (pIs ns)) (hm : behindInMarks .In b = false := by rfl) : EVT X T H0 (.Compare a [.In] [b] pos) Γ (decide (x ∈ ns)) := by
  intro σ A H sl wf Q q
  refine ofT (pt_cmpR op_in_seq canE canE hm) (ha σ A H sl wf _ fun v A1 H1 s1 p1 => hb σ A1 H1 (sl.up s1) s1.wf _ fun u A2 H2 s2 p2 => ?_)
  cases p1
  obtain ⟨l, us, rfl, g1, g2⟩ := p2
  rw [vs_ints g2] at g1
  exact ⟨l, _, rfl, .inl (SqL.of (s2.wf.ah _ _ g1)), rfl, flat_ints ns, _, rfl, by rw [in_ints]; exact q A2 H2 (s1.trans s2)⟩
theorem evt_notIn {x : Int} {ns : List Int} (ha : EV X T H0 a Γ (pI x)) (hb : EV X T H0 b Γ (pIs ns)) (hm : behindInMarks .NotIn b = false := by rfl) : EVT X T H0 (.Compare a [.NotIn] [b] pos) Γ (!decide (x ∈ ns)) := by
  intro σ A H sl wf Q q
  refine ofT (pt_cmpR op_notIn_seq canE canE hm) (ha σ A H sl wf _ fun v A1 H1 s1 p1 => hb σ A1 H1 (sl.up s1) s1.wf _ fun u A2 H2 s2 p2 => ?_)
  cases p1
  obtain ⟨l, us, rfl, g1, g2⟩ := p2
  rw [vs_ints g2] at g1
  exact ⟨l, _, rfl, .inl (SqL.of (s2.wf.ah _ _ g1)), rfl, flat_ints ns, _, rfl, by rw [in_ints]; exact q A2 H2 (s1.trans s2)⟩
/-- .. where the list may still grow -/
theorem evt_notInM (hx : XF P w K mg base k N sc X) (i : Nat) {y : Str} {p' : Pos} {x : Int} {ns : List Int} (ha : EV X T H0 a Γ (pI x)) (h1 : N[i]? = some y := by rfl) (h2 : Vis sc y := by first | exact Or.inl rfl | exact Or.inr (Or.inl rfl) | exact Or.inr (Or.inr rfl))
    (hg' : Γ[i]? = some (.mu (ns.map pI)) := by rfl) (hd : (y == ("__debug__" : Str)) = false := by decide) (hcd : (y == ("__classdict__" : Str)) = false := by decide) : EVT X T H0 (.Compare a [.NotIn] [.Name y p'] pos) Γ (!decide (x ∈ ns)) := by
  intro σ A H sl wf Q q
  refine ofT (pt_cmpR op_notIn_seq canE (pe_var (i := i) (by rw [hx.eN]; exact h1) (by rw [hx.es]; exact h2) hd hcd) (by rfl)) (ha σ A H sl wf _ fun v A1 H1 s1 p1 => ?_)
  obtain ⟨l, vs, e1, _, _, e2, e3⟩ := (sl.up s1).mu hg'
  cases p1
  rw [vs_ints e3] at e2
  exact ⟨_, e1, l, _, rfl, .inl (SqL.of e2), rfl, flat_ints ns, _, rfl, by rw [in_ints]; exact q A1 H1 s1⟩

/-- P is the datum d, lists and tuples all the way -/
def DpOf (P : Pm) (d : PyData) : Prop := ∀ A v, P.p A v → ∀ K H, Sub A H → Dp K H v d
theorem dp_int {i : Int} : DpOf (pI i) (.int i) := fun A v h K H s => by
  cases h
  exact .int i
theorem dpAll : ∀ {ps : List Pm} {ds : List PyData} {A : Hp} {vs : List V}, All2 DpOf ps ds → Vs A vs ps → ∀ K H, Sub A H → DpAll K H vs ds
  | _, _, _, _, .nil, .nil, _, _, _ => .nil
  | _, _, _, _, .cons h t, .cons q r, K, H, s => .cons (h _ _ q K H s) (dpAll t r K H s)
theorem dp_L {ps : List Pm} {ds : List PyData} (h : All2 DpOf ps ds) : DpOf (pL ps) (.list ds) := fun A v ⟨l, us, e, g1, g2⟩ K H s => by
  subst e
  exact .lst (SqL.of (s _ _ g1)) (dpAll h g2 K H s)
theorem dp_T {ps : List Pm} {ds : List PyData} (h : All2 DpOf ps ds) : DpOf (pT ps) (.tuple ds) := fun A v ⟨l, us, e, g1, g2⟩ K H s => by
  subst e
  exact .tup (SqT.of (s _ _ g1)) (dpAll h g2 K H s)
theorem all2_map {α : Type} {R : α → Pm} {d : α → PyData} (h : ∀ x, DpOf (R x) (d x)) : ∀ xs : List α, All2 DpOf (xs.map R) (xs.map d)
  | [] => .nil
  | x :: r => .cons (h x) (all2_map h r)
def dIs (xs : List Int) : PyData := .list (xs.map .int)
theorem dp_ints (xs : List Int) : DpOf (pIs xs) (dIs xs) := dp_L (all2_map (fun _ => dp_int) xs)
theorem eqvAll_ints : ∀ xs ys : List Int, PyData.eqvAll (xs.map .int) (ys.map .int) = decide (xs = ys)
  | [], [] => by simp [PyData.eqvAll]
  | [], y :: ys => by simp [PyData.eqvAll]
  | x :: xs, [] => by simp [PyData.eqvAll]
  | x :: xs, y :: ys => by
    simp only [List.map_cons, PyData.eqvAll, PyData.eqv, eqvAll_ints xs ys]
    by_cases h : x = y <;> by_cases h2 : xs = ys <;> simp [h, h2]
theorem eqv_ints (xs ys : List Int) : PyData.eqv (dIs xs) (dIs ys) = decide (xs = ys) := by
  simp only [dIs, PyData.eqv]
  exact eqvAll_ints xs ys
theorem lay_ints : ∀ xs : List Int, PyData.canLayAll0 (xs.map .int) = true
  | [] => by simp [PyData.canLayAll0]
  | x :: r => by simp [PyData.canLayAll0, PyData.canLay0, lay_ints r]
theorem depth_int0 : ∀ xs : List Int, PyData.depthAll (xs.map .int) = 0
  | [] => by simp [PyData.depthAll]
  | x :: r => by simp [PyData.depthAll, PyData.depth, depth_int0 r]
theorem dIs_lay (xs : List Int) : (dIs xs).canLay0 = true := by simp only [dIs, PyData.canLay0]; exact lay_ints xs
theorem dIs_depth (xs : List Int) : (dIs xs).depth = 1 := by simp [dIs, PyData.depth, depth_int0 xs]
theorem shaped_of {d : PyData} (h1 : d.canLay0 = true) (h2 : d.depth ≤ 64) : SeqAt.shaped d = true := by
  show (d.canLay0 && decide (d.depth ≤ 64)) = true
  rw [h1, decide_eq_true h2]
  rfl
theorem dIs_shaped (xs : List Int) : SeqAt.shaped (dIs xs) = true := shaped_of (dIs_lay xs) (by rw [dIs_depth]; decide)
/-- lists of data of depth n -/
theorem lay_map {α : Type} {d : α → PyData} (h : ∀ x, (d x).canLay0 = true) : ∀ xs : List α, PyData.canLayAll0 (xs.map d) = true
  | [] => by simp [PyData.canLayAll0]
  | x :: r => by simp [PyData.canLayAll0, h x, lay_map h r]
theorem depth_map {α : Type} {d : α → PyData} {n : Nat} (h : ∀ x, (d x).depth ≤ n) : ∀ xs : List α, PyData.depthAll (xs.map d) ≤ n
  | [] => by simp [PyData.depthAll]
  | x :: r => by
    have h1 := h x
    have h2 := depth_map h r
    simp only [List.map_cons, PyData.depthAll]
    omega
theorem shaped_list {α : Type} {d : α → PyData} {n : Nat} (h1 : ∀ x, (d x).canLay0 = true) (h2 : ∀ x, (d x).depth ≤ n) (hn : n ≤ 60) (xs : List α) : SeqAt.shaped (.list (xs.map d)) = true := by
  refine shaped_of (by simp only [PyData.canLay0]; exact lay_map h1 xs) ?_
  have := depth_map h2 xs
  simp only [PyData.depth]
  omega
theorem ev_eqD {d d' : PyData} {x : Bool} (hx : XF P w K mg base k N sc X) (hR : DpOf R1 d) (hS : DpOf R2 d') (h1 : SeqAt.shaped d = true) (h2 : SeqAt.shaped d' = true) (hq : PyData.eqv d d' = x) (ha : EV X T H0 a Γ R1) (hb : EV X T H0 b Γ R2) : EV X T H0 (.Compare a [.Eq] [b] pos) Γ (pB x) := by
  intro σ A H sl wf Q q
  refine ofE (pe_cmpR (op_eqD (Nat.lt_of_le_of_lt (by omega) hx.room.un)) canE canE (nomark _)) (ha σ A H sl wf _ fun v A1 H1 s1 p1 => hb σ A1 H1 (sl.up s1) s1.wf _ fun u A2 H2 s2 p2 => ?_)
  exact ⟨d, d', hR _ _ (R1.up s2.aa p1) _ _ s2.wf.ah, hS _ _ p2 _ _ s2.wf.ah, h1, h2, q _ A2 H2 (s1.trans s2) (by rw [hq]; rfl)⟩
theorem evt_inD {d : PyData} {ds : List PyData} {x : Bool} (hx : XF P w K mg base k N sc X) (hR : DpOf R1 d) (hS : DpOf R2 (.list ds)) (h1 : SeqAt.shaped d = true) (h2 : SeqAt.shaped (.list ds) = true) (hq : (ds.any fun z => PyData.eqv z d) = x) (ha : EV X T H0 a Γ R1) (hb : EV X T H0 b Γ R2)
    (hm : behindInMarks .In b = false := by rfl) : EVT X T H0 (.Compare a [.In] [b] pos) Γ x := by
  intro σ A H sl wf Q q
  refine ofT (pt_cmpR (op_inD (Nat.lt_of_le_of_lt (by omega) hx.room.un)) canE canE hm) (ha σ A H sl wf _ fun v A1 H1 s1 p1 => hb σ A1 H1 (sl.up s1) s1.wf _ fun u A2 H2 s2 p2 => ?_)
  exact ⟨d, ds, hR _ _ (R1.up s2.aa p1) _ _ s2.wf.ah, hS _ _ p2 _ _ s2.wf.ah, h1, h2, x, by rw [hq], q A2 H2 (s1.trans s2)⟩
/-- x not in a list of the def's own -/
theorem evt_notInDM {d : PyData} {ds : List PyData} {x : Bool} (hx : XF P w K mg base k N sc X) (i : Nat) {y : Str} {p' : Pos} (hR : DpOf R1 d) (hS : All2 DpOf ps ds) (g1 : SeqAt.shaped d = true) (g2 : SeqAt.shaped (.list ds) = true) (hq : (ds.any fun z => PyData.eqv z d) = x) (ha : EV X T H0 a Γ R1)
    (h1 : N[i]? = some y := by rfl) (h2 : Vis sc y := by first | exact Or.inl rfl | exact Or.inr (Or.inl rfl) | exact Or.inr (Or.inr rfl))
    (hg' : Γ[i]? = some (.mu ps) := by rfl) (hd : (y == ("__debug__" : Str)) = false := by decide) (hcd : (y == ("__classdict__" : Str)) = false := by decide) : EVT X T H0 (.Compare a [.NotIn] [.Name y p'] pos) Γ (!x) := by
  intro σ A H sl wf Q q
  refine ofT (pt_cmpR (op_notInD (Nat.lt_of_le_of_lt (by omega) hx.room.un)) canE (pe_var (i := i) (by rw [hx.eN]; exact h1) (by rw [hx.es]; exact h2) hd hcd) (by rfl)) (ha σ A H sl wf _ fun v A1 H1 s1 p1 => ?_)
  obtain ⟨l, vs, e1, _, _, e2, e3⟩ := (sl.up s1).mu hg'
  exact ⟨_, e1, d, ds, hR _ _ p1 _ _ s1.wf.ah, .lst (SqL.of e2) (dpAll hS e3 _ _ s1.wf.ah), g1, g2, _, by rw [hq], q A1 H1 s1⟩
/-- pairs of whole numbers in their order -/
theorem evt_ltT {x y : List Int} (hx : XF P w K mg base k N sc X) (ha : EV X T H0 a Γ (pT (x.map pI))) (hb : EV X T H0 b Γ (pT (y.map pI))) : EVT X T H0 (.Compare a [.Lt] [b] pos) Γ (HT.lexLt x y) := by
  intro σ A H sl wf Q q
  refine ofT (pt_cmpR (op_ltT (Nat.lt_of_le_of_lt (by omega) hx.room.un)) canE canE (nomark _)) (ha σ A H sl wf _ fun v A1 H1 s1 p1 => hb σ A1 H1 (sl.up s1) s1.wf _ fun u A2 H2 s2 p2 => ?_)
  obtain ⟨l, us, rfl, g1, g2⟩ := (pT (x.map pI)).up s2.aa p1
  obtain ⟨l', us', rfl, g3, g4⟩ := p2
  rw [vs_ints g2] at g1
  rw [vs_ints g4] at g3
  exact ⟨l, l', x, y, rfl, rfl, SqT.of (s2.wf.ah _ _ g1), SqT.of (s2.wf.ah _ _ g3), _, rfl, q A2 H2 (s1.trans s2)⟩

/-! ### defs called by what they promise -/
/-- a def that changes nothing: the data that it takes, the datum that it gives -/
def FSp (T : List (Addr × Str)) (S : List Pm → Pm → Prop) : Sp := fun vs H Q _ => ∃ A ps R, Wf T A H ∧ Vs A vs ps ∧ S ps R ∧ ∀ v A' H', Stp T A H A' H' → R.p A' v → Q v H'
/-- the def of this name keeps its promise -/
structure DefOk (P : Program) (w : World) (K : PySem.W.Frag) (mg : Str → Option Value) (base : Heap) (T : List (Addr × Str)) (k : Nat) (x : Str) (ns : List Str) (S : List Pm → Pm → Prop) : Prop where
  ex : ∃ f fd, mg x = some (.ref f) ∧ PySem.W.keepIn K (.ref f) = true ∧ Binds K fd ns [] ∧ FnOk P w K mg base CX0 k f fd ns (FSp T S)
theorem ev_call {S : List Pm → Pm → Prop} {j : Nat} {x : Str} {ns : List Str} (hx : XF P w K mg base k N sc X) (F : DefOk P w K mg base T j x ns S) (h : EVs X T H0 (e :: es) Γ ps) (hS : S ps R) (hj : j ≤ k := by decide) (hg : sc.names.lookup x = some .globalImplicit := by rfl) (hdb : (x == ("__debug__" : Str)) = false := by decide)
    (he : starEach (e :: es) X.env = (false, eval e X.env) :: starEach es X.env := by rfl) (hpl : (backTo pos (starEach es X.env)).any (·.1) = false := by rfl) : EV X T H0 (.Call (.Name x p) (e :: es) [] pos) Γ R := by
  intro σ A H sl wf Q q
  obtain ⟨f, fd, hm, hk, hb, hF⟩ := F.ex
  have hg' := gl_of hx hg
  have hroom : Room j X.A := hx.room.mono hj
  obtain ⟨eP, ew, eK, em, eb, _⟩ := hx
  subst eP ew eK em eb
  refine ofE (pe_call hF hroom hg' hm hk hb .nil pass0 canA hdb he hpl) (h σ A H sl wf _ fun vs A1 H1 s1 p1 => ?_)
  rw [List.append_nil]
  exact ⟨A1, ps, R, s1.wf, p1, hS, fun v A2 H2 s2 p2 => q v A2 H2 (s1.trans s2) p2⟩
/-- a method that changes nothing -/
structure MethOk (P : Program) (w : World) (K : PySem.W.Frag) (mg : Str → Option Value) (base : Heap) (T : List (Addr × Str)) (k : Nat) (C : Addr) (x : Str) (ns : List Str) (S : List Pm → Pm → Prop) : Prop where
  ex : ∃ f fd, Meth K C x f ∧ Binds K fd ns [] ∧ FnOk P w K mg base CX0 k f fd ns (FSp T S)
end
end IX
end

section
set_option Elab.async false
set_option linter.all false
set_option maxRecDepth 100000
set_option maxHeartbeats 2000000
namespace IX
open PySem PySem.Spec PyProof.Rows L2

/-- how a block ends: it falls through with these slots, or hands back this datum -/
inductive Out where
  | nx (Γ : List Slot)
  | rt (R : Pm)
def Goes (T : List (Addr × Str)) (A0 H0 A : Hp) (o : Out) (D : Ends) : Prop := match o with
  | .nx Γ => ∀ σ A' H, Stp T A0 H0 A' H → Sub A A' → Sls H0 A' H σ Γ → D.nx σ H
  | .rt R => ∀ v A H, Stp T A0 H0 A H → R.p A v → D.rt v H
theorem Goes.up {T : List (Addr × Str)} {A0 H0 A A1 : Hp} {o : Out} {D : Ends} (g : Goes T A0 H0 A o D) (u : Sub A A1) : Goes T A0 H0 A1 o D := by
  cases o with
  | nx Γ => exact fun σ A2 H s u2 sl => g σ A2 H s (u.trans u2) sl
  | rt R => exact g
/-- a block of a def that was entered over (A0, H0) -/
def ST (X : Cx) (T : List (Addr × Str)) (A0 H0 : Hp) (sts : List Stmt) (Γ : List Slot) (o : Out) : Prop :=
  ∀ σ A H, Stp T A0 H0 A H → Sls H0 A H σ Γ → ∀ D : Ends, Goes T A0 H0 A o D → cSs X sts D σ H
/-- the target takes a datum; vs: the slots that it stores -/
def TGo (X : Cx) (T : List (Addr × Str)) (H0 : Hp) (tg : Expr) (vs : List Nat) (Γ : List Slot) (R : Pm) (Γ' : List Slot) : Prop :=
  ∀ v σ A H, Sls H0 A H σ Γ → Wf T A H → R.p A v → ∀ Q : L2.St → Hp → Prop, (∀ σ', Sls H0 A H σ' Γ' → wipe σ' vs = wipe σ vs → Q σ' H) → cG X tg v σ H Q
/-- forgetting -/
abbrev Fg : List Slot → List Slot → Prop := All2 fun a b => b = a ∨ b = .un
theorem Fg.refl : ∀ Γ : List Slot, Fg Γ Γ
  | [] => .nil
  | _ :: r => .cons (.inl rfl) (Fg.refl r)
section
variable {P : Program} {w : World} {K : PySem.W.Frag} {mg : Str → Option Value} {base : Heap} {k : Nat} {N : List Str} {sc : Scope} {X : Cx} {T : List (Addr × Str)} {A0 H0 A H : Hp} {Γ Γ1 Γ2 : List Slot}
variable {a b c e o : Expr} {es : List Expr} {rest body orelse : List Stmt} {st : Stmt} {pos p : Pos} {R R1 R2 : Pm} {ps qs : List Pm} {out : Out}
theorem Sls.fg {σ : L2.St} (s : Sls H0 A H σ Γ) : Fg Γ Γ1 → Sls H0 A H σ Γ1 := by
  intro f
  induction s generalizing Γ1 with
  | nil => cases f; exact .nil
  | cons r t ih =>
    cases f with
    | cons q f =>
      refine .cons ?_ (ih f)
      rcases q with rfl | rfl
      · exact r
      · trivial
theorem EV.fg (h : EV X T H0 e Γ1 R) (f : Fg Γ Γ1) : EV X T H0 e Γ R := fun σ A H sl wf Q q => h σ A H (sl.fg f) wf Q q
theorem ST.fg (h : ST X T A0 H0 body Γ1 out) (f : Fg Γ Γ1) : ST X T A0 H0 body Γ out := fun σ A H s sl D g => h σ A H s (sl.fg f) D g
theorem ST.rt (h : ST X T A0 H0 body Γ (.rt R)) {R' : Pm} (q : R = R') : ST X T A0 H0 body Γ (.rt R') := q ▸ h
theorem Sls.set {σ : L2.St} (s : Sls H0 A H σ Γ) (i : Nat) {v : V} (h : R.p A v) : Sls H0 A H (σ.set i (some v)) (Γ.set i (.im R)) := All2.set (show SlOk H0 A H (some v) (.im R) from h) i s

/-! ### blocks -/
theorem st_nil : ST X T A0 H0 [] Γ (.nx Γ) := fun σ A H s sl D g => ofSs pss_nil (g σ A H s (Sub.refl A) sl)
theorem st_end (f : Fg Γ Γ1) : ST X T A0 H0 [] Γ (.nx Γ1) := fun σ A H s sl D g => ofSs pss_nil (g σ A H s (Sub.refl A) (sl.fg f))
/-- one statement -/
def SS (X : Cx) (T : List (Addr × Str)) (A0 H0 : Hp) (st : Stmt) (Γ : List Slot) (o : Out) : Prop :=
  ∀ σ A H, Stp T A0 H0 A H → Sls H0 A H σ Γ → ∀ D : Ends, Goes T A0 H0 A o D → cS X st D σ H
theorem st_seq (h1 : SS X T A0 H0 st Γ (.nx Γ1)) (h2 : ST X T A0 H0 rest Γ1 out) : ST X T A0 H0 (st :: rest) Γ out := fun σ A H s sl D g =>
  ofSs (pss_cons canS canSs) (h1 σ A H s sl { D with nx := cSs X rest D } fun σ1 A1 H1 s1 u1 sl1 => h2 σ1 A1 H1 s1 sl1 D (by
    cases out with
    | nx Γ3 => exact fun σ2 A2 H2 s2 u2 sl2 => g σ2 A2 H2 s2 (u1.trans u2) sl2
    | rt R3 => exact g))
theorem st_last (h1 : SS X T A0 H0 st Γ (.rt R)) : ST X T A0 H0 (st :: rest) Γ (.rt R) := fun σ A H s sl D g =>
  ofSs (pss_cons canS canSs) (h1 σ A H s sl { D with nx := cSs X rest D } g)
theorem SS.fgo (h : SS X T A0 H0 st Γ (.nx Γ1)) (f : Fg Γ1 Γ2) : SS X T A0 H0 st Γ (.nx Γ2) := fun σ A H s sl D g => h σ A H s sl D fun σ1 A1 H1 s1 u1 sl1 => g σ1 A1 H1 s1 u1 (sl1.fg f)
theorem ST.fgo (h : ST X T A0 H0 body Γ (.nx Γ1)) (f : Fg Γ1 Γ2) : ST X T A0 H0 body Γ (.nx Γ2) := fun σ A H s sl D g => h σ A H s sl D fun σ1 A1 H1 s1 u1 sl1 => g σ1 A1 H1 s1 u1 (sl1.fg f)

/-! ### targets -/
theorem loc_of (hx : XF P w K mg base k N sc X) {x : Str} (h : Loc sc x) : Loc X.env.scope x := by
  rw [hx.es]
  exact h
theorem wipe_set (σ : L2.St) (i : Nat) (v : Option V) : ∀ vs : List Nat, i ∈ vs → wipe (σ.set i v) vs = wipe σ vs
  | [], h => by cases h
  | j :: vs, h => by
    show (wipe (σ.set i v) vs).set j none = (wipe σ vs).set j none
    by_cases hi : i ∈ vs
    · rw [wipe_set σ i v vs hi]
    · have e : i = j := by
        rcases List.mem_cons.mp h with e | e
        · exact e
        · exact absurd e hi
      subst e
      have key : ∀ vs : List Nat, i ∉ vs → wipe (σ.set i v) vs = (wipe σ vs).set i v := by
        intro vs
        induction vs with
        | nil => intro _; rfl
        | cons j r ih =>
          intro hn
          show (wipe (σ.set i v) r).set j none = ((wipe σ r).set j none).set i v
          rw [ih (fun z => hn (List.mem_cons_of_mem _ z)), List.set_comm]
          exact fun z => hn (by rw [z]; exact List.mem_cons_self)
      rw [key vs hi, List.set_set]
theorem tg_name (hx : XF P w K mg base k N sc X) (i : Nat) {x : Str} (h1 : N[i]? = some x := by rfl) (h2 : sc.names.lookup x = some .local := by rfl) : TGo X T H0 (.Name x pos) [i] Γ R (Γ.set i (.im R)) := by
  intro v σ A H sl wf r Q q
  refine ofG (pg_name (i := i) (by rw [hx.eN]; exact hx.nd) (by rw [hx.eN]; exact h1) (loc_of hx (.inl h2)) (.inr (by rw [hx.es]; exact h2))) ?_
  exact q _ (sl.set i r) (wipe_set σ i _ [i] (List.mem_cons_self))
theorem tg_nameC (hx : XF P w K mg base k N sc X) (hf : ∀ x, X.fn x = true) (i : Nat) {x : Str} (h1 : N[i]? = some x := by rfl) (h2 : Loc sc x := by first | exact .inl rfl | exact .inr rfl) : TGo X T H0 (.Name x pos) [i] Γ R (Γ.set i (.im R)) := by
  intro v σ A H sl wf r Q q
  refine ofG (pg_name (i := i) (by rw [hx.eN]; exact hx.nd) (by rw [hx.eN]; exact h1) (loc_of hx h2) (.inl (hf x))) ?_
  exact q _ (sl.set i r) (wipe_set σ i _ [i] (List.mem_cons_self))
/-- (x, y) -/
theorem tg_tup2 (hx : XF P w K mg base k N sc X) (i j : Nat) {x y : Str} {px py : Pos} {n : Nat} (hi : N[i]? = some x := by rfl) (hj : N[j]? = some y := by rfl) (h1 : sc.names.lookup x = some .local := by rfl) (h2 : sc.names.lookup y = some .local := by rfl)
    (hn : (assignEach [.Name x px, .Name y py] X.env).length = 2 := by rfl) (hst : (assignEach [.Name x px, .Name y py] X.env).findIdx? (·.1) = none := by rfl)
    (hs1 : (assignEach [.Name x px, .Name y py] X.env).map (·.2) = assign (.Name x px) X.env :: (assignEach [.Name y py] X.env).map (·.2) := by rfl) (hs2 : (assignEach [.Name y py] X.env).map (·.2) = assign (.Name y py) X.env :: (assignEach [] X.env).map (·.2) := by rfl) :
    TGo X T H0 (.Tuple [.Name x px, .Name y py] n pos) [i, j] Γ (pT [R1, R2]) ((Γ.set i (.im R1)).set j (.im R2)) := by
  intro v σ A H sl wf r Q q
  have g1 : PG X (.Name x px) (gName i) := pg_name (i := i) (by rw [hx.eN]; exact hx.nd) (by rw [hx.eN]; exact hi) (loc_of hx (.inl h1)) (.inr (by rw [hx.es]; exact h1))
  have g2 : PG X (.Name y py) (gName j) := pg_name (i := j) (by rw [hx.eN]; exact hx.nd) (by rw [hx.eN]; exact hj) (loc_of hx (.inl h2)) (.inr (by rw [hx.es]; exact h2))
  obtain ⟨a, us, rfl, e1, e2⟩ := r
  cases e2 with
  | cons r1 e2 =>
    cases e2 with
    | cons r2 e2 =>
      cases e2
      refine ofG (pg_tup hx.calm (pgs_cons g1 (pgs_cons g2 pgs_nil hs2) hs1) hn hst) ⟨a, _, rfl, SqT.of (wf.ah _ _ e1), rfl, _, _, rfl, _, _, rfl, rfl, ?_⟩
      refine q _ ((sl.set i r1).set j r2) ?_
      rw [wipe_set _ j _ _ (by simp), wipe_set _ i _ _ (by simp)]
/-- (x, y, z) -/
theorem tg_tup3 (hx : XF P w K mg base k N sc X) (i j l : Nat) {R3 : Pm} {x y z : Str} {px py pz : Pos} {n : Nat} (hi : N[i]? = some x := by rfl) (hj : N[j]? = some y := by rfl) (hl : N[l]? = some z := by rfl) (h1 : sc.names.lookup x = some .local := by rfl) (h2 : sc.names.lookup y = some .local := by rfl) (h3 : sc.names.lookup z = some .local := by rfl)
    (hn : (assignEach [.Name x px, .Name y py, .Name z pz] X.env).length = 3 := by rfl) (hst : (assignEach [.Name x px, .Name y py, .Name z pz] X.env).findIdx? (·.1) = none := by rfl)
    (hs1 : (assignEach [.Name x px, .Name y py, .Name z pz] X.env).map (·.2) = assign (.Name x px) X.env :: (assignEach [.Name y py, .Name z pz] X.env).map (·.2) := by rfl)
    (hs2 : (assignEach [.Name y py, .Name z pz] X.env).map (·.2) = assign (.Name y py) X.env :: (assignEach [.Name z pz] X.env).map (·.2) := by rfl) (hs3 : (assignEach [.Name z pz] X.env).map (·.2) = assign (.Name z pz) X.env :: (assignEach [] X.env).map (·.2) := by rfl) :
    TGo X T H0 (.Tuple [.Name x px, .Name y py, .Name z pz] n pos) [i, j, l] Γ (pT [R1, R2, R3]) (((Γ.set i (.im R1)).set j (.im R2)).set l (.im R3)) := by
  intro v σ A H sl wf r Q q
  have g1 : PG X (.Name x px) (gName i) := pg_name (i := i) (by rw [hx.eN]; exact hx.nd) (by rw [hx.eN]; exact hi) (loc_of hx (.inl h1)) (.inr (by rw [hx.es]; exact h1))
  have g2 : PG X (.Name y py) (gName j) := pg_name (i := j) (by rw [hx.eN]; exact hx.nd) (by rw [hx.eN]; exact hj) (loc_of hx (.inl h2)) (.inr (by rw [hx.es]; exact h2))
  have g3 : PG X (.Name z pz) (gName l) := pg_name (i := l) (by rw [hx.eN]; exact hx.nd) (by rw [hx.eN]; exact hl) (loc_of hx (.inl h3)) (.inr (by rw [hx.es]; exact h3))
  obtain ⟨a, us, rfl, e1, e2⟩ := r
  cases e2 with
  | cons r1 e2 =>
    cases e2 with
    | cons r2 e2 =>
      cases e2 with
      | cons r3 e2 =>
        cases e2
        refine ofG (pg_tup hx.calm (pgs_cons g1 (pgs_cons g2 (pgs_cons g3 pgs_nil hs3) hs2) hs1) hn hst) ⟨a, _, rfl, SqT.of (wf.ah _ _ e1), rfl, _, _, rfl, _, _, rfl, _, _, rfl, rfl, ?_⟩
        refine q _ (((sl.set i r1).set j r2).set l r3) ?_
        rw [wipe_set _ l _ _ (by simp), wipe_set _ j _ _ (by simp), wipe_set _ i _ _ (by simp)]

/-! ### statements -/
/-- target = e -/
theorem ss_asg {tg : Expr} {vs : List Nat} (h : EV X T H0 e Γ R) (g : TGo X T H0 tg vs Γ R Γ1) (hs : swapsWithSole [tg] e pos.line X.env = pure false := by rfl) (hw : swappedStores [tg] e X.env = pure none := by rfl)
    (h1 : (assignEach [tg] X.env).map (·.2) = [assign tg X.env] := by rfl) : SS X T A0 H0 (.Assign [tg] e pos) Γ (.nx Γ1) := by
  intro σ A H s sl D q
  refine ofS (ps_asg canE canG hs hw h1) (h σ A H sl s.wf _ fun v A1 H1 s1 p1 => g v σ A1 H1 (sl.up s1) s1.wf p1 _ fun σ' sl' _ => q σ' A1 H1 (s.trans s1) s1.aa sl')
/-- x = e -/
theorem ss_set (hx : XF P w K mg base k N sc X) (hf : ∀ x, X.fn x = true) (i : Nat) {x : Str} {p' : Pos} (h : EV X T H0 e Γ R) (h1 : N[i]? = some x := by rfl) (h2 : Loc sc x := by first | exact .inl rfl | exact .inr rfl)
    (hs : swapsWith e (some (.Name x p')) pos.line X.env = pure false := by rfl) : SS X T A0 H0 (.Assign [.Name x p'] e pos) Γ (.nx (Γ.set i (.im R))) := by
  intro σ A H s sl D q
  refine ofS (ps_set (i := i) (by rw [hx.eN]; exact hx.nd) (by rw [hx.eN]; exact h1) (loc_of hx h2) canE hs (.inl (hf x))) (h σ A H sl s.wf _ fun v A1 H1 s1 p1 => q _ A1 H1 (s.trans s1) s1.aa ((sl.up s1).set i p1))
/-- x = [..], a list that is still to grow -/
theorem ss_setM (hx : XF P w K mg base k N sc X) (hf : ∀ x, X.fn x = true) (i : Nat) {x : Str} {p' p2 : Pos} (h : EVs X T H0 es Γ ps) (hz : ps.length ≤ sizeLine := by exact Nat.le_of_ble_eq_true rfl) (h1 : N[i]? = some x := by rfl) (h2 : Loc sc x := by first | exact .inl rfl | exact .inr rfl)
    (hs : swapsWith (.List es p2) (some (.Name x p')) pos.line X.env = pure false := by rfl) : SS X T A0 H0 (.Assign [.Name x p'] (.List es p2) pos) Γ (.nx (Γ.set i (.mu ps))) := by
  intro σ A H s sl D q
  refine ofS (ps_set (i := i) (by rw [hx.eN]; exact hx.nd) (by rw [hx.eN]; exact h1) (loc_of hx h2) (pe_lst canA) hs (.inl (hf x))) (h σ A H sl s.wf _ fun vs A1 H1 s1 p1 => ⟨by rw [p1.len]; exact hz, fun l nl => ?_⟩)
  have s2 := Stp.newM (.lst vs) s1.wf nl
  have s3 := (s.trans s1).trans s2
  refine q _ A1 _ s3 s1.aa (All2.set (show SlOk H0 A1 (upd H1 l (.lst vs)) (some (.ref l)) (.mu ps) from ⟨l, vs, rfl, ?_, sub_none s1.wf.ah nl, upd_same, p1⟩) i ((sl.up s1).up s2))
  cases z : H0 l with
  | none => rfl
  | some u => exact absurd nl ((s.trans s1).nn l (by rw [z]; exact fun y => by cases y))
theorem ss_ret (h : EV X T H0 e Γ R) : SS X T A0 H0 (.Return (some e) pos) Γ (.rt R) := by
  intro σ A H s sl D q
  exact ofS (ps_ret canE) (h σ A H sl s.wf _ fun v A1 H1 s1 p1 => q v A1 H1 (s.trans s1) p1)
/-- the list of the def's own is handed back -/
theorem ss_retM (hx : XF P w K mg base k N sc X) (i : Nat) {x : Str} {p' : Pos} (h1 : N[i]? = some x := by rfl) (h2 : Vis sc x := by first | exact Or.inl rfl | exact Or.inr (Or.inl rfl) | exact Or.inr (Or.inr rfl))
    (hg : Γ[i]? = some (.mu ps) := by rfl) (hd : (x == ("__debug__" : Str)) = false := by decide) (hcd : (x == ("__classdict__" : Str)) = false := by decide) : SS X T A0 H0 (.Return (some (.Name x p')) pos) Γ (.rt (pL ps)) := by
  intro σ A H s sl D q
  obtain ⟨l, vs, e1, n0, nA, e2, e3⟩ := sl.mu hg
  refine ofS (ps_ret (pe_var (i := i) (by rw [hx.eN]; exact h1) (by rw [hx.es]; exact h2) hd hcd)) ⟨_, e1, ?_⟩
  refine q _ (upd A l (.lst vs)) H ⟨⟨fun b o eb => ?_, s.wf.tb, nt_upd s.wf fun _ z => by rw [e2] at z; cases z⟩, s.aa.trans (sub_new nA), s.hh, s.nn, fun b hb => ?_⟩ ⟨l, vs, rfl, upd_same, Vs.up (sub_new nA) e3⟩
  · by_cases hbl : b = l
    · subst hbl
      rw [upd_same] at eb
      rw [e2]
      exact eb
    · rw [upd_ne hbl] at eb
      exact s.wf.ah b o eb
  · by_cases hbl : b = l
    · subst hbl
      exact absurd n0 hb
    · rw [upd_ne hbl]
      exact s.fr b hb
theorem ss_if {x : Bool} (hc : EVT X T H0 c Γ x) (ht : x = true → ST X T A0 H0 body Γ out) (he : x = false → ST X T A0 H0 orelse Γ out) : SS X T A0 H0 (.If c body orelse pos) Γ out := by
  intro σ A H s sl D q
  refine ofS (ps_if canT canSs canSs) (hc σ A H sl s.wf _ fun A1 H1 s1 => ?_)
  cases x with
  | true => exact iteT (ht rfl σ A1 H1 (s.trans s1) (sl.up s1) D (q.up s1.aa))
  | false => exact iteF (he rfl σ A1 H1 (s.trans s1) (sl.up s1) D (q.up s1.aa))
/-- if c: return .. -/
theorem st_if {x : Bool} (hc : EVT X T H0 c Γ x) (ht : x = true → ST X T A0 H0 body Γ out) (he : x = false → ST X T A0 H0 rest Γ out) (hr : x = true → ∃ R, out = .rt R) : ST X T A0 H0 (.If c body [] pos :: rest) Γ out := by
  cases x with
  | true =>
    obtain ⟨R, rfl⟩ := hr rfl
    exact st_last (ss_if hc (fun _ => ht rfl) fun z => by cases z)
  | false => exact st_seq (ss_if (out := .nx Γ) hc (fun z => by cases z) fun _ => st_nil) (he rfl)
theorem st_ifr {x : Bool} (hc : EVT X T H0 c Γ x) (ht : x = true → ST X T A0 H0 body Γ (.rt R)) (he : x = false → ST X T A0 H0 rest Γ (.rt R)) : ST X T A0 H0 (.If c body [] pos :: rest) Γ (.rt R) :=
  st_if hc ht he fun _ => ⟨_, rfl⟩
/-- no other slot holds a list that may grow -/
def oneMu (i : Nat) (Γ : List Slot) : Prop := ∀ (j : Nat) (ps : List Pm), Γ[j]? = some (Slot.mu ps) → j = i
theorem sls_upd {σ : L2.St} {i : Nat} {l : Addr} {vs vs' : List V} {qs : List Pm} (sl : Sls H0 A H σ Γ) (e0 : σ[i]? = some (some (.ref l))) (n0 : H0 l = none) (nA : A l = none) (e2 : H l = some (.lst vs)) (hv : Vs A vs' qs) (h1 : oneMu i Γ) :
    Sls H0 A (upd H l (.lst vs')) σ (Γ.set i (.mu qs)) := by
  have key : ∀ {σ : L2.St} {Γ : List Slot} (i : Nat), Sls H0 A H σ Γ → σ[i]? = some (some (.ref l)) → (∀ (j : Nat) (ps : List Pm), Γ[j]? = some (Slot.mu ps) → j = i) → Sls H0 A (upd H l (.lst vs')) σ (Γ.set i (.mu qs)) := by
    intro σ Γ i sl
    have flat : ∀ {σ : L2.St} {Γ : List Slot}, Sls H0 A H σ Γ → (∀ (j : Nat) (ps : List Pm), Γ[j]? ≠ some (Slot.mu ps)) → Sls H0 A (upd H l (.lst vs')) σ Γ := by
      intro σ Γ sl
      induction sl with
      | nil => intro _; exact .nil
      | @cons a b as bs r t ih =>
        intro hn
        refine .cons ?_ (ih fun j ps z => hn (j + 1) ps z)
        cases a with
        | none => cases b with
          | un => trivial
          | im _ => exact r.elim
          | mu _ => exact r.elim
        | some v => cases b with
          | un => trivial
          | im _ => exact r
          | mu ps => exact absurd rfl (hn 0 ps)
    induction sl generalizing i with
    | nil => intro e _; simp at e
    | @cons a b as bs r t ih =>
      intro e hn
      cases i with
      | zero =>
        have e' : a = some (.ref l) := Option.some.inj e
        subst e'
        exact .cons ⟨l, vs', rfl, n0, nA, upd_same, hv⟩ (flat t fun j ps z => absurd (hn (j + 1) ps z) (by omega))
      | succ i =>
        refine .cons ?_ (ih i e fun j ps z => by have := hn (j + 1) ps z; omega)
        cases a with
        | none => cases b with
          | un => trivial
          | im _ => exact r.elim
          | mu _ => exact r.elim
        | some v => cases b with
          | un => trivial
          | im _ => exact r
          | mu ps => exact absurd (hn 0 ps rfl) (by omega)
  exact key i sl e0 h1
theorem stp_upd {l : Addr} {vs vs' : List V} (s : Stp T A0 H0 A H) (n0 : H0 l = none) (nA : A l = none) (e2 : H l = some (.lst vs)) : Stp T A0 H0 A (upd H l (.lst vs')) := by
  refine ⟨⟨fun b o eb => ?_, tabs_upd s.wf.tb (fun ps z => by rw [e2] at z; cases z) (fun φ z => by rw [e2] at z; cases z), s.wf.nt⟩, s.aa, fun b o eb n => ?_, fun b hb => nn_new b (s.nn b hb), s.fr⟩
  · rw [upd_ne (ne_of_none eb nA)]
    exact s.wf.ah b o eb
  · rw [upd_ne (ne_of_none eb n0)]
    exact s.hh b o eb n
/-- x.append(e) -/
theorem ss_app (hx : XF P w K mg base k N sc X) (i : Nat) {x : Str} {p1 p2 p3 : Pos} (h : EV X T H0 e Γ R) (h0 : oneMu i Γ) (hz : ps.length < sizeLine) (hg : Γ[i]? = some (.mu ps) := by rfl) (h1 : N[i]? = some x := by rfl) (h2 : Vis sc x := by first | exact Or.inl rfl | exact Or.inr (Or.inl rfl) | exact Or.inr (Or.inr rfl))
    (hd : (x == ("__debug__" : Str)) = false := by decide) (hcd : (x == ("__classdict__" : Str)) = false := by decide) (hs : starEach [e] X.env = (false, eval e X.env) :: starEach [] X.env := by rfl)
    (hsw : swapsWith (.Call (.Attribute (.Name x p1) "append" p2) [e] [] p3) none pos.line X.env = pure false := by rfl) 
    (hfew : ((backTo p3 (starEach [e] X.env)).all (fun x => !x.1) && (backToKw p3 (keywordEach [] X.env)).all (fun x => x.1.isSome) && decide (([e] : List Expr).length + ([] : List Keyword).length + (if ([] : List Keyword).isEmpty then 0 else 1) < 30)) = true := by rfl)
    (hline : (p2.endLine == p3.line) = true := by rfl) (hba : attributeBase (.Name x p1) "append" X.env (eval (.Name x p1) X.env) = eval (.Name x p1) X.env := by rfl) :
    SS X T A0 H0 (.Expr (.Call (.Attribute (.Name x p1) "append" p2) [e] [] p3) pos) Γ (.nx (Γ.set i (.mu (ps ++ [R])))) := by
  intro σ A H s sl D q
  have hv : PE X (.Name x p1) (tVar i) := pe_var (i := i) (by rw [hx.eN]; exact h1) (by rw [hx.es]; exact h2) hd hcd
  obtain ⟨l, vs, e1, n0, nA, e2, e3⟩ := sl.mu hg
  refine ofS (ps_expr (pe_bm PySem.F.plainAttrs_list PySem.F.slot_list_append PySem.F.type_list_append mt_append hv (pa_cons canE pa_nil hs) hba hfew hline hs rfl) hsw) ⟨_, e1, .inl ⟨rfl, _, SqL.of e2⟩, ?_⟩
  refine h σ A H sl s.wf _ fun v A1 H1 s1 p1 => ?_
  obtain ⟨l', vs', e1', n0', nA', e2', e3'⟩ := (sl.up s1).mu hg
  rw [e1] at e1'
  cases e1'
  refine ⟨l, vs', v, rfl, rfl, e2', by rw [e3'.len]; exact hz, ?_⟩
  exact q σ A1 _ (stp_upd (s.trans s1) n0' nA' e2') s1.aa (sls_upd (sl.up s1) e1 n0' nA' e2' (e3'.app (.one p1)) h0)
end
end IX
end

section
set_option Elab.async false
set_option linter.all false
set_option maxRecDepth 100000
set_option maxHeartbeats 2000000
namespace IX
open PySem PySem.Spec PyProof.Rows L2
section
variable {P : Program} {w : World} {K : PySem.W.Frag} {mg : Str → Option Value} {base : Heap} {k : Nat} {N : List Str} {sc : Scope} {X : Cx} {T : List (Addr × Str)} {A0 H0 A H : Hp} {Γ Γ1 Γ2 : List Slot}
variable {a b c e o tg iter elt : Expr} {es : List Expr} {rest body orelse : List Stmt} {st : Stmt} {pos p : Pos} {R R1 R2 : Pm} {ps qs xs : List Pm} {out : Out}

theorem never_of (hx : XF P w K mg base k N sc X) : PassesOwn (model X.prog X.w) X.A X.env X.xe := by
  rw [hx.xe]
  exact PassesOwn.never
theorem get_len {α : Type} {l : List α} {i : Nat} (h : i < l.length) : l[i]? = some l[i] := List.getElem?_eq_getElem h
/-! ### for -/
theorem ss_for (hx : XF P w K mg base k N sc X) (G : Nat → List Slot) (hi : EV X T H0 iter Γ (pL xs)) (h0 : Fg Γ (G 0))
    (turn : ∀ i R, xs[i]? = some R → ∃ Γ1 vs, TGo X T H0 tg vs (G i) R Γ1 ∧ ST X T A0 H0 body Γ1 (.nx (G (i + 1))))
    (hs : ∀ x, foldedSetIterable iter X.env x = pure x := by intro _; rfl) : SS X T A0 H0 (.For tg iter body [] pos) Γ (.nx (G xs.length)) := by
  intro σ A H s sl D q
  refine ofS (ps_for (never_of hx) hx.calm (pi_list canE) canG canSs hs) (hi σ A H sl s.wf _ fun v A1 H1 s1 p1 => ?_)
  obtain ⟨l, us, rfl, e1, e2⟩ := p1
  refine ⟨l, rfl, ⟨us, SqL.of (s1.wf.ah _ _ e1)⟩, for_list (K := X.K) (a := l) (xs := us) (fun i σ H => ∃ A2, Stp T A0 H0 A2 H ∧ Sub A1 A2 ∧ Sls H0 A2 H σ (G i)) ⟨A1, s.trans s1, Sub.refl _, (sl.up s1).fg h0⟩ ?_ ?_ ?_⟩
  · rintro i σ2 H2 _ ⟨A2, s2, u2, _⟩
    exact SqL.of (s2.wf.ah _ _ (u2 _ _ e1))
  · rintro i x σ2 H2 hix ⟨A2, s2, u2, sl2⟩
    obtain ⟨R, hR, hp⟩ := e2.getL hix
    obtain ⟨Γ1, vs, g, hb⟩ := turn i R hR
    refine g x σ2 A2 H2 sl2 s2.wf (R.up u2 hp) _ fun σ3 sl3 _ => hb σ3 A2 H2 s2 sl3 _ fun σ4 A4 H4 s4 u4 sl4 => ⟨A4, s4, u2.trans u4, sl4⟩
  · rintro σ2 H2 ⟨A2, s2, u2, sl2⟩
    rw [e2.len] at sl2
    exact q σ2 A2 H2 s2 (s1.aa.trans u2) sl2
/-- .. left by a return in the turn j -/
theorem ss_for_rt (hx : XF P w K mg base k N sc X) (G : Nat → List Slot) (j : Nat) (hj : j < xs.length) (hi : EV X T H0 iter Γ (pL xs)) (h0 : Fg Γ (G 0))
    (turn : ∀ i R, i < j → xs[i]? = some R → ∃ Γ1 vs, TGo X T H0 tg vs (G i) R Γ1 ∧ ST X T A0 H0 body Γ1 (.nx (G (i + 1))))
    (last : ∀ R, xs[j]? = some R → ∃ Γ1 vs, TGo X T H0 tg vs (G j) R Γ1 ∧ ST X T A0 H0 body Γ1 (.rt R2))
    (hs : ∀ x, foldedSetIterable iter X.env x = pure x := by intro _; rfl) : SS X T A0 H0 (.For tg iter body [] pos) Γ (.rt R2) := by
  intro σ A H s sl D q
  refine ofS (ps_for (never_of hx) hx.calm (pi_list canE) canG canSs hs) (hi σ A H sl s.wf _ fun v A1 H1 s1 p1 => ?_)
  obtain ⟨l, us, rfl, e1, e2⟩ := p1
  refine ⟨l, rfl, ⟨us, SqL.of (s1.wf.ah _ _ e1)⟩, for_list (K := X.K) (a := l) (xs := us) (fun i σ H => i ≤ j ∧ ∃ A2, Stp T A0 H0 A2 H ∧ Sub A1 A2 ∧ Sls H0 A2 H σ (G i)) ⟨Nat.zero_le _, A1, s.trans s1, Sub.refl _, (sl.up s1).fg h0⟩ ?_ ?_ ?_⟩
  · rintro i σ2 H2 _ ⟨_, A2, s2, u2, _⟩
    exact SqL.of (s2.wf.ah _ _ (u2 _ _ e1))
  · rintro i x σ2 H2 hix ⟨hij, A2, s2, u2, sl2⟩
    obtain ⟨R, hR, hp⟩ := e2.getL hix
    by_cases h : i < j
    · obtain ⟨Γ1, vs, g, hb⟩ := turn i R h hR
      exact g x σ2 A2 H2 sl2 s2.wf (R.up u2 hp) _ fun σ3 sl3 _ => hb σ3 A2 H2 s2 sl3 _ fun σ4 A4 H4 s4 u4 sl4 => ⟨h, A4, s4, u2.trans u4, sl4⟩
    · obtain rfl : i = j := by omega
      obtain ⟨Γ1, vs, g, hb⟩ := last R hR
      exact g x σ2 A2 H2 sl2 s2.wf (R.up u2 hp) _ fun σ3 sl3 _ => hb σ3 A2 H2 s2 sl3 _ q
  · rintro σ2 H2 ⟨h, _⟩
    rw [e2.len] at h
    omega
theorem ss_for_range2 (hx : XF P w K mg base k N sc X) (hm : mg "range" = none) (G : Nat → List Slot) (lo hi : Int) (b1 : -(2 ^ 62) ≤ lo ∧ lo < 2 ^ 62 ∧ -(2 ^ 62) ≤ hi ∧ hi < 2 ^ 62) (ha : EV X T H0 a Γ (pI lo)) (hb : EV X T H0 b Γ (pI hi)) (h0 : Fg Γ (G 0))
    (turn : ∀ i, i < (hi - lo).toNat → ∃ Γ1 vs, TGo X T H0 tg vs (G i) (pI (lo + i)) Γ1 ∧ ST X T A0 H0 body Γ1 (.nx (G (i + 1))))
    (hg : sc.names.lookup ("range" : Str) = some .globalImplicit := by rfl) (hs : ∀ x, foldedSetIterable (.Call (.Name "range" p) [a, b] [] pos) X.env x = pure x := by intro _; rfl)
    (he : starEach [a, b] X.env = [(false, eval a X.env), (false, eval b X.env)] := by rfl) (he2 : starEach [b] X.env = [(false, eval b X.env)] := by rfl) {pos' : Pos} :
    SS X T A0 H0 (.For tg (.Call (.Name "range" p) [a, b] [] pos) body [] pos') Γ (.nx (G (hi - lo).toNat)) := by
  intro σ A H s sl D q
  have es : EVs X T H0 [a, b] Γ [pI lo, pI hi] := evs_cons ha (evs_cons hb evs_nil (by rw [he2]; rfl)) (by rw [he, he2])
  refine ofS (ps_for (never_of hx) hx.calm (pi_range2 (gl_of hx hg) (by rw [hx.em]; exact hm) canA he he2) canG canSs hs) (es σ A H sl s.wf _ fun vs A1 H1 s1 p1 => ?_)
  cases p1 with
  | cons r1 p1 =>
    cases p1 with
    | cons r2 p1 =>
      cases p1
      cases r1
      cases r2
      refine ⟨lo, hi, rfl, b1, for_range (lo := lo) (n := (hi - lo).toNat) (fun i σ H => ∃ A2, Stp T A0 H0 A2 H ∧ Sub A1 A2 ∧ Sls H0 A2 H σ (G i)) ⟨A1, s.trans s1, Sub.refl _, (sl.up s1).fg h0⟩ ?_ ?_⟩
      · rintro i σ2 H2 hi ⟨A2, s2, u2, sl2⟩
        obtain ⟨Γ1, vs, g, hb⟩ := turn i hi
        exact g _ σ2 A2 H2 sl2 s2.wf rfl _ fun σ3 sl3 _ => hb σ3 A2 H2 s2 sl3 _ fun σ4 A4 H4 s4 u4 sl4 => ⟨A4, s4, u2.trans u4, sl4⟩
      · rintro σ2 H2 ⟨A2, s2, u2, sl2⟩
        exact q σ2 A2 H2 s2 (s1.aa.trans u2) sl2
theorem ss_for_range1 (hx : XF P w K mg base k N sc X) (hm : mg "range" = none) (G : Nat → List Slot) (n : Nat) (b1 : (n : Int) < 2 ^ 62) (ha : EV X T H0 a Γ (pZ n)) (h0 : Fg Γ (G 0))
    (turn : ∀ i, i < n → ∃ Γ1 vs, TGo X T H0 tg vs (G i) (pZ i) Γ1 ∧ ST X T A0 H0 body Γ1 (.nx (G (i + 1))))
    (hg : sc.names.lookup ("range" : Str) = some .globalImplicit := by rfl) (hs : ∀ x, foldedSetIterable (.Call (.Name "range" p) [a] [] pos) X.env x = pure x := by intro _; rfl)
    (he : starEach [a] X.env = [(false, eval a X.env)] := by rfl) {pos' : Pos} :
    SS X T A0 H0 (.For tg (.Call (.Name "range" p) [a] [] pos) body [] pos') Γ (.nx (G n)) := by
  intro σ A H s sl D q
  have es : EVs X T H0 [a] Γ [pZ n] := evs_cons ha evs_nil (by rw [he]; rfl)
  refine ofS (ps_for (never_of hx) hx.calm (pi_range1 (gl_of hx hg) (by rw [hx.em]; exact hm) canA he) canG canSs hs) (es σ A H sl s.wf _ fun vs A1 H1 s1 p1 => ?_)
  cases p1 with
  | cons r1 p1 =>
    cases p1
    cases r1
    refine ⟨n, rfl, by omega, b1, for_range (lo := 0) (n := ((n : Int)).toNat) (fun i σ H => ∃ A2, Stp T A0 H0 A2 H ∧ Sub A1 A2 ∧ Sls H0 A2 H σ (G i)) ⟨A1, s.trans s1, Sub.refl _, (sl.up s1).fg h0⟩ ?_ ?_⟩
    · rintro i σ2 H2 hi ⟨A2, s2, u2, sl2⟩
      obtain ⟨Γ1, vs, g, hb⟩ := turn i (by omega)
      exact g _ σ2 A2 H2 sl2 s2.wf (by show V.int _ = V.int _; congr 1; omega) _ fun σ3 sl3 _ => hb σ3 A2 H2 s2 sl3 _ fun σ4 A4 H4 s4 u4 sl4 => ⟨A4, s4, u2.trans u4, sl4⟩
    · rintro σ2 H2 ⟨A2, s2, u2, sl2⟩
      rw [Int.toNat_natCast] at sl2
      exact q σ2 A2 H2 s2 (s1.aa.trans u2) sl2
theorem ss_for_range1_rt (hx : XF P w K mg base k N sc X) (hm : mg "range" = none) (G : Nat → List Slot) (n j : Nat) (hj : j < n) (b1 : (n : Int) < 2 ^ 62) (ha : EV X T H0 a Γ (pZ n)) (h0 : Fg Γ (G 0))
    (turn : ∀ i, i < j → ∃ Γ1 vs, TGo X T H0 tg vs (G i) (pZ i) Γ1 ∧ ST X T A0 H0 body Γ1 (.nx (G (i + 1))))
    (last : ∃ Γ1 vs, TGo X T H0 tg vs (G j) (pZ j) Γ1 ∧ ST X T A0 H0 body Γ1 (.rt R2))
    (hg : sc.names.lookup ("range" : Str) = some .globalImplicit := by rfl) (hs : ∀ x, foldedSetIterable (.Call (.Name "range" p) [a] [] pos) X.env x = pure x := by intro _; rfl)
    (he : starEach [a] X.env = [(false, eval a X.env)] := by rfl) {pos' : Pos} :
    SS X T A0 H0 (.For tg (.Call (.Name "range" p) [a] [] pos) body [] pos') Γ (.rt R2) := by
  intro σ A H s sl D q
  have es : EVs X T H0 [a] Γ [pZ n] := evs_cons ha evs_nil (by rw [he]; rfl)
  refine ofS (ps_for (never_of hx) hx.calm (pi_range1 (gl_of hx hg) (by rw [hx.em]; exact hm) canA he) canG canSs hs) (es σ A H sl s.wf _ fun vs A1 H1 s1 p1 => ?_)
  cases p1 with
  | cons r1 p1 =>
    cases p1
    cases r1
    refine ⟨n, rfl, by omega, b1, for_range (lo := 0) (n := ((n : Int)).toNat) (fun i σ H => i ≤ j ∧ ∃ A2, Stp T A0 H0 A2 H ∧ Sub A1 A2 ∧ Sls H0 A2 H σ (G i)) ⟨Nat.zero_le _, A1, s.trans s1, Sub.refl _, (sl.up s1).fg h0⟩ ?_ ?_⟩
    · rintro i σ2 H2 hi ⟨hij, A2, s2, u2, sl2⟩
      by_cases h : i < j
      · obtain ⟨Γ1, vs, g, hb⟩ := turn i h
        exact g _ σ2 A2 H2 sl2 s2.wf (by show V.int _ = V.int _; congr 1; omega) _ fun σ3 sl3 _ => hb σ3 A2 H2 s2 sl3 _ fun σ4 A4 H4 s4 u4 sl4 => ⟨h, A4, s4, u2.trans u4, sl4⟩
      · obtain rfl : i = j := by omega
        obtain ⟨Γ1, vs, g, hb⟩ := last
        exact g _ σ2 A2 H2 sl2 s2.wf (by show V.int _ = V.int _; congr 1; omega) _ fun σ3 sl3 _ => hb σ3 A2 H2 s2 sl3 _ q
    · rintro σ2 H2 ⟨h, _⟩
      rw [Int.toNat_natCast] at h
      omega
/-- for x, y in zip(a, b), both of one length -/
theorem ss_for_zip {n : Nat} {elts : List Expr} {pt : Pos} (hx : XF P w K mg base k N sc X) (hm : mg "zip" = none) (G : Nat → List Slot) (hl : xs.length = ps.length) (ha : EV X T H0 a Γ (pL xs)) (hb : EV X T H0 b Γ (pL ps)) (h0 : Fg Γ (G 0))
    (turn : ∀ i R1 R2, xs[i]? = some R1 → ps[i]? = some R2 → ∃ Γ1 vs, TGo X T H0 (.Tuple elts n pt) vs (G i) (pT [R1, R2]) Γ1 ∧ ST X T A0 H0 body Γ1 (.nx (G (i + 1))))
    (hg : sc.names.lookup ("zip" : Str) = some .globalImplicit := by rfl) (hs : ∀ x, foldedSetIterable (.Call (.Name "zip" p) [a, b] [] pos) X.env x = pure x := by intro _; rfl)
    (he : starEach [a, b] X.env = (false, eval a X.env) :: starEach [b] X.env := by rfl) (he2 : starEach [b] X.env = (false, eval b X.env) :: starEach [] X.env := by rfl) (hpl : (backTo pos (starEach [b] X.env)).any (·.1) = false := by rfl) {pos' : Pos} :
    SS X T A0 H0 (.For (.Tuple elts n pt) (.Call (.Name "zip" p) [a, b] [] pos) body [] pos') Γ (.nx (G xs.length)) := by
  intro σ A H s sl D q
  have es : EVs X T H0 [a, b] Γ [pL xs, pL ps] := evs_cons ha (evs_cons hb evs_nil he2) he
  refine ofS (ps_for (never_of hx) hx.calm (pi_zip (gl_of hx hg) (by rw [hx.em]; exact hm) canA he hpl) canG canSs hs) (es σ A H sl s.wf _ fun vs A1 H1 s1 p1 => ?_)
  cases p1 with
  | cons r1 p1 =>
    cases p1 with
    | cons r2 p1 =>
      cases p1
      obtain ⟨l, us, rfl, e1, e2⟩ := r1
      obtain ⟨l', us', rfl, e3, e4⟩ := r2
      refine ⟨l, l', us, us', rfl, SqL.of (s1.wf.ah _ _ e1), SqL.of (s1.wf.ah _ _ e3), RZ.for_zipL (xs := us) (ys := us') (by rw [e2.len, e4.len, hl]) (fun i σ H => ∃ A2, Stp T A0 H0 A2 H ∧ Sub A1 A2 ∧ Sls H0 A2 H σ (G i)) ⟨A1, s.trans s1, Sub.refl _, (sl.up s1).fg h0⟩ ?_ ?_ ?_⟩
      · rintro i σ2 H2 ⟨A2, s2, u2, _⟩
        exact ⟨SqL.of (s2.wf.ah _ _ (u2 _ _ e1)), SqL.of (s2.wf.ah _ _ (u2 _ _ e3))⟩
      · rintro i x y Tt σ2 H2 hix hiy ⟨A2, s2, u2, sl2⟩ hT
        obtain ⟨R1, hR1, hp1⟩ := e2.getL hix
        obtain ⟨R2, hR2, hp2⟩ := e4.getL hiy
        obtain ⟨Γ1, vs, g, hb⟩ := turn i R1 R2 hR1 hR2
        have s3 := Stp.new (.tup [x, y]) s2.wf hT
        exact g _ σ2 _ _ (sl2.up s3) s3.wf ⟨Tt, _, rfl, upd_same, .cons (R1.up (u2.trans s3.aa) hp1) (.cons (R2.up (u2.trans s3.aa) hp2) .nil)⟩ _ fun σ3 sl3 _ => hb σ3 _ _ (s2.trans s3) sl3 _ fun σ4 A4 H4 s4 u4 sl4 => ⟨A4, s4, (u2.trans s3.aa).trans u4, sl4⟩
      · rintro σ2 H2 ⟨A2, s2, u2, sl2⟩
        rw [e2.len] at sl2
        exact q σ2 A2 H2 s2 (s1.aa.trans u2) sl2
theorem ss_for_zip_rt {n : Nat} {elts : List Expr} {pt : Pos} (hx : XF P w K mg base k N sc X) (hm : mg "zip" = none) (G : Nat → List Slot) (j : Nat) (hj : j < xs.length) (hl : xs.length = ps.length) (ha : EV X T H0 a Γ (pL xs)) (hb : EV X T H0 b Γ (pL ps)) (h0 : Fg Γ (G 0))
    (turn : ∀ i R1 R2, i < j → xs[i]? = some R1 → ps[i]? = some R2 → ∃ Γ1 vs, TGo X T H0 (.Tuple elts n pt) vs (G i) (pT [R1, R2]) Γ1 ∧ ST X T A0 H0 body Γ1 (.nx (G (i + 1))))
    (last : ∀ R1 R2, xs[j]? = some R1 → ps[j]? = some R2 → ∃ Γ1 vs, TGo X T H0 (.Tuple elts n pt) vs (G j) (pT [R1, R2]) Γ1 ∧ ST X T A0 H0 body Γ1 (.rt R))
    (hg : sc.names.lookup ("zip" : Str) = some .globalImplicit := by rfl) (hs : ∀ x, foldedSetIterable (.Call (.Name "zip" p) [a, b] [] pos) X.env x = pure x := by intro _; rfl)
    (he : starEach [a, b] X.env = (false, eval a X.env) :: starEach [b] X.env := by rfl) (he2 : starEach [b] X.env = (false, eval b X.env) :: starEach [] X.env := by rfl) (hpl : (backTo pos (starEach [b] X.env)).any (·.1) = false := by rfl) {pos' : Pos} :
    SS X T A0 H0 (.For (.Tuple elts n pt) (.Call (.Name "zip" p) [a, b] [] pos) body [] pos') Γ (.rt R) := by
  intro σ A H s sl D q
  have es : EVs X T H0 [a, b] Γ [pL xs, pL ps] := evs_cons ha (evs_cons hb evs_nil he2) he
  refine ofS (ps_for (never_of hx) hx.calm (pi_zip (gl_of hx hg) (by rw [hx.em]; exact hm) canA he hpl) canG canSs hs) (es σ A H sl s.wf _ fun vs A1 H1 s1 p1 => ?_)
  cases p1 with
  | cons r1 p1 =>
    cases p1 with
    | cons r2 p1 =>
      cases p1
      obtain ⟨l, us, rfl, e1, e2⟩ := r1
      obtain ⟨l', us', rfl, e3, e4⟩ := r2
      refine ⟨l, l', us, us', rfl, SqL.of (s1.wf.ah _ _ e1), SqL.of (s1.wf.ah _ _ e3), RZ.for_zipL (xs := us) (ys := us') (by rw [e2.len, e4.len, hl]) (fun i σ H => i ≤ j ∧ ∃ A2, Stp T A0 H0 A2 H ∧ Sub A1 A2 ∧ Sls H0 A2 H σ (G i)) ⟨Nat.zero_le _, A1, s.trans s1, Sub.refl _, (sl.up s1).fg h0⟩ ?_ ?_ ?_⟩
      · rintro i σ2 H2 ⟨_, A2, s2, u2, _⟩
        exact ⟨SqL.of (s2.wf.ah _ _ (u2 _ _ e1)), SqL.of (s2.wf.ah _ _ (u2 _ _ e3))⟩
      · rintro i x y Tt σ2 H2 hix hiy ⟨hij, A2, s2, u2, sl2⟩ hT
        obtain ⟨R1, hR1, hp1⟩ := e2.getL hix
        obtain ⟨R2, hR2, hp2⟩ := e4.getL hiy
        have s3 := Stp.new (.tup [x, y]) s2.wf hT
        by_cases h : i < j
        · obtain ⟨Γ1, vs, g, hb⟩ := turn i R1 R2 h hR1 hR2
          exact g _ σ2 _ _ (sl2.up s3) s3.wf ⟨Tt, _, rfl, upd_same, .cons (R1.up (u2.trans s3.aa) hp1) (.cons (R2.up (u2.trans s3.aa) hp2) .nil)⟩ _ fun σ3 sl3 _ => hb σ3 _ _ (s2.trans s3) sl3 _ fun σ4 A4 H4 s4 u4 sl4 => ⟨h, A4, s4, (u2.trans s3.aa).trans u4, sl4⟩
        · obtain rfl : i = j := by omega
          obtain ⟨Γ1, vs, g, hb⟩ := last R1 R2 hR1 hR2
          exact g _ σ2 _ _ (sl2.up s3) s3.wf ⟨Tt, _, rfl, upd_same, .cons (R1.up (u2.trans s3.aa) hp1) (.cons (R2.up (u2.trans s3.aa) hp2) .nil)⟩ _ fun σ3 sl3 _ => hb σ3 _ _ (s2.trans s3) sl3 _ q
      · rintro σ2 H2 ⟨h, _⟩
        rw [e2.len] at h
        omega
/-! ### while -/
theorem ss_while {S : Type} (hx : XF P w K mg base k N sc X) (G : S → List Slot) (I : S → Prop) (m : S → Nat) (t : S → Bool) (f : S → S) (s0 s1 : S) (hi : I s0) (h0 : Fg Γ (G s0)) (hc : ∀ s, I s → EVT X T H0 c (G s) (t s))
    (turn : ∀ s, I s → t s = true → ST X T A0 H0 body (G s) (.nx (G (f s))) ∧ I (f s) ∧ m (f s) < m s) (hd : ∀ s, I s → t s = false → (∃ n, s = Nat.repeat f n s0) → s = s1) :
    SS X T A0 H0 (.While c body [] pos) Γ (.nx (G s1)) := by
  intro σ A H s sl D q
  refine ofS (ps_while (never_of hx) canT canSs) ⟨fun n σ H => ∃ s A2, n = m s ∧ I s ∧ (∃ n, s = Nat.repeat f n s0) ∧ Stp T A0 H0 A2 H ∧ Sub A A2 ∧ Sls H0 A2 H σ (G s), ⟨m s0, s0, A, rfl, hi, ⟨0, rfl⟩, s, Sub.refl _, sl.fg h0⟩, ?_⟩
  rintro n σ2 H2 ⟨s2, A2, rfl, i2, ⟨n, hn⟩, st2, u2, sl2⟩
  refine hc s2 i2 σ2 A2 H2 sl2 st2.wf _ fun A3 H3 st3 => ?_
  cases ht : t s2 with
  | true =>
    obtain ⟨hb, i3, lt⟩ := turn s2 i2 ht
    refine iteT ⟨fun σ H => ∃ A4, Stp T A0 H0 A4 H ∧ Sub A A4 ∧ Sls H0 A4 H σ (G (f s2)), fun σ4 H4 ⟨A4, st4, u4, sl4⟩ => ⟨m (f s2), lt, f s2, A4, rfl, i3, ⟨n + 1, by rw [hn]; rfl⟩, st4, u4, sl4⟩, ?_⟩
    exact hb σ2 A3 H3 (st2.trans st3) (sl2.up st3) _ fun σ4 A4 H4 st4 u4 sl4 => ⟨A4, st4, (u2.trans st3.aa).trans u4, sl4⟩
  | false =>
    have e := hd s2 i2 ht ⟨n, hn⟩
    subst e
    exact iteF (q σ2 A3 H3 (st2.trans st3) (u2.trans st3.aa) (sl2.up st3))
/-- x, y = a, b -/
theorem ss_par (hx : XF P w K mg base k N sc X) (i j : Nat) {x y : Str} {px py pt pt2 : Pos} {kt k2 : Nat} (ha : EV X T H0 a Γ R1) (hb : EV X T H0 b Γ R2) (hi : N[i]? = some x := by rfl) (hj : N[j]? = some y := by rfl) (hij : i ≠ j := by decide) (h1 : sc.names.lookup x = some .local := by rfl) (h2 : sc.names.lookup y = some .local := by rfl)
    (hw : swappedStores [.Tuple [.Name x px, .Name y py] kt pt] (.Tuple [a, b] k2 pt2) X.env = pure (some [x, y]) := by rfl)
    (hs : swapsWithSole [.Tuple [.Name x px, .Name y py] kt pt] (.Tuple [a, b] k2 pt2) pos.line X.env = pure false := by rfl)
    (he : starEach [a, b] X.env = (false, eval a X.env) :: starEach [b] X.env := by rfl) (he2 : starEach [b] X.env = (false, eval b X.env) :: starEach [] X.env := by rfl) :
    SS X T A0 H0 (.Assign [.Tuple [.Name x px, .Name y py] kt pt] (.Tuple [a, b] k2 pt2) pos) Γ (.nx ((Γ.set i (.im R1)).set j (.im R2))) := by
  intro σ A H s sl D q
  have es : EVs X T H0 [a, b] Γ [R1, R2] := evs_cons ha (evs_cons hb evs_nil he2) he
  refine ofS (ps_par hx.calm (by rw [hx.eN]; exact hx.nd) (by rw [hx.eN]; exact hi) (by rw [hx.eN]; exact hj) hij (by rw [hx.es]; exact h1) (by rw [hx.es]; exact h2) canA hw hs) (es σ A H sl s.wf _ fun vs A1 H1 s1 p1 => ?_)
  cases p1 with
  | cons r1 p1 =>
    cases p1 with
    | cons r2 p1 =>
      cases p1
      exact ⟨_, _, rfl, q _ A1 H1 (s.trans s1) s1.aa (((sl.up s1).set i r1).set j r2)⟩
end
end IX
end

section
set_option Elab.async false
set_option linter.all false
set_option maxRecDepth 100000
set_option maxHeartbeats 2000000
namespace IX
open PySem PySem.Spec PyProof.Rows L2
/-- the slots vs forgotten -/
def wipeG (Γ : List Slot) : List Nat → List Slot
  | [] => Γ
  | v :: vs => (wipeG Γ vs).set v .un
section
variable {P : Program} {w : World} {K : PySem.W.Frag} {mg : Str → Option Value} {base : Heap} {k : Nat} {N : List Str} {sc : Scope} {X : Cx} {T : List (Addr × Str)} {A0 H0 A H : Hp} {Γ Γ1 Γ2 : List Slot}
variable {a b c e o tg iter elt : Expr} {es : List Expr} {ifs : List Expr} {rest body orelse : List Stmt} {st : Stmt} {pos p : Pos} {R1 R2 : Pm} {ps qs : List Pm} {out : Out}
theorem Sls.wipe {σ : L2.St} (sl : Sls H0 A H σ Γ) : ∀ vs : List Nat, Sls H0 A H (L2.wipe σ vs) (wipeG Γ vs)
  | [] => sl
  | v :: vs => All2.set (show SlOk H0 A H none .un from trivial) v (sl.wipe vs)
theorem wipe_len (σ : L2.St) (v : Nat) : ∀ vs : List Nat, v ∈ vs → (wipe σ vs).set v none = wipe σ vs
  | [], h => by cases h
  | j :: vs, h => by
    show ((wipe σ vs).set j none).set v none = (wipe σ vs).set j none
    by_cases e : v = j
    · rw [e, List.set_set]
    · rcases List.mem_cons.mp h with z | z
      · exact absurd z e
      · rw [List.set_comm _ _ (fun q => e q.symm), wipe_len σ v vs z]
theorem wipe_wipe (σ : L2.St) (vs : List Nat) : wipe (wipe σ vs) vs = wipe σ vs := by
  have key : ∀ us : List Nat, (∀ u ∈ us, u ∈ vs) → wipe (wipe σ vs) us = wipe σ vs := by
    intro us
    induction us with
    | nil => intro _; rfl
    | cons u us ih =>
      intro hu
      show (wipe (wipe σ vs) us).set u none = wipe σ vs
      rw [ih fun z hz => hu z (List.mem_cons_of_mem _ hz), wipe_len σ u vs (hu u List.mem_cons_self)]
  exact key vs fun _ h => h
/-! ### a comprehension's block -/
theorem XF.blk (hx : XF P w K mg base k N sc X) (s : Shared) (Hb : Hp) (scope : Scope) (C : Addr) (cl : List (Str × Addr)) (fp : List Addr) : XF P w K mg base k N (relS scope sc) (X.blk s Hb scope (compEnvC scope cl C X.env) fp) :=
  ⟨hx.eP, hx.ew, hx.eK, hx.em, hx.eb, hx.eN, by rw [← hx.es]; rfl, hx.calm, rfl, hx.room, hx.nd⟩
/-- the tests of a clause -/
inductive EVTs (X : Cx) (T : List (Addr × Str)) (H0 : Hp) (Γ : List Slot) : List Expr → Bool → Prop
  | nil : EVTs X T H0 Γ [] true
  | one {c : Expr} {x : Bool} : EVT X T H0 c Γ x → EVTs X T H0 Γ [c] x
def cIf (X : Cx) (ifs : List Expr) : TT := fun σ H Q => ∀ pins s, Inv X pins σ H s → wpAny (model X.prog X.w) X.A (forIn ifs true fun c r => if r = true then do let ok ← isTrue c X.env (eval c X.env); pure (ForInStep.yield ok) else pure (ForInStep.yield r)) (TP X pins σ Q) X.xe s
theorem EVTs.run {x : Bool} (h : EVTs X T H0 Γ ifs x) : ∀ σ A H, Sls H0 A H σ Γ → Wf T A H → ∀ Q : Bool → Hp → Prop, (∀ A' H', Stp T A H A' H' → Q x H') → cIf X ifs σ H Q := by
  cases h with
  | nil => exact fun σ A H sl wf Q q pins s I => pts_nil.run pins s σ H Q I (q A H (.refl wf))
  | one h => exact fun σ A H sl wf Q q pins s I => (pts_one (canT (X := X))).run pins s σ H Q I (h σ A H sl wf Q q)
abbrev gB (X : Cx) (scope : Scope) (tg : Expr) : TG := fun v σ H Q => ∀ s Hb C cl fp, cG (X.blk s Hb scope (compEnvC scope cl C X.env) fp) tg v σ H Q
abbrev tB' (X : Cx) (scope : Scope) (ifs : List Expr) : TT := fun σ H Q => ∀ s Hb C cl fp, cIf (X.blk s Hb scope (compEnvC scope cl C X.env) fp) ifs σ H Q
abbrev eB (X : Cx) (scope : Scope) (elt : Expr) : TE := fun σ H Q => ∀ s Hb C cl fp, cE (X.blk s Hb scope (compEnvC scope cl C X.env) fp) elt σ H Q
/-- one turn of the block, from a list D that is made so far -/
theorem lc_turn {vs : List Nat} {scope : Scope} {pr : Bool} {R S : Pm} {σ : L2.St} {A1 H1 A2 H2 : Hp} {D : Addr} {us : List V} {v : V} {Nx : Hp → Prop} (hx : XF P w K mg base k N sc X) (sl : Sls H0 A1 H1 σ Γ) (nD : H1 D = none)
    (s2 : Stp T A1 H1 A2 H2) (nA : A2 D = none) (hD : H2 D = some (.lst us)) (hv : Vs A2 us ps) (hr : R.p A2 v) (hz : ps.length < sizeLine)
    (g : ∀ X', XF P w K mg base k N (relS scope sc) X' → TGo X' T H0 tg vs (wipeG Γ vs) R Γ1) (t : ∀ X', XF P w K mg base k N (relS scope sc) X' → EVTs X' T H0 Γ1 ifs pr) (he : pr = true → ∀ X', XF P w K mg base k N (relS scope sc) X' → EV X' T H0 elt Γ1 S)
    (nx : ∀ A3 H3 us', Stp T A1 H1 A3 H3 → A3 D = none → H3 D = some (.lst us') → Vs A3 us' (ps ++ if pr then [S] else []) → Nx H3) :
    gB X scope tg v (wipe σ vs) H2 fun σ2 H2 => wipe σ2 vs = wipe σ vs ∧ tB' X scope ifs σ2 H2 fun b H3 =>
      if b = true then eB X scope elt σ2 H3 fun y H4 => ∃ acc, H4 D = some (.lst acc) ∧ acc.length < sizeLine ∧ Nx (upd H4 D (.lst (acc ++ [y]))) else Nx H3 := by
  intro s Hb C cl fp
  refine g _ (hx.blk s Hb scope C cl fp) v _ A2 H2 ((sl.up s2).wipe vs) s2.wf hr _ fun σ3 sl3 hw => ⟨hw.trans (wipe_wipe σ vs), ?_⟩
  intro s Hb C cl fp
  refine (t _ (hx.blk s Hb scope C cl fp)).run σ3 A2 H2 sl3 s2.wf _ fun A3 H3 s3 => ?_
  have nA3 : A3 D = none := (s3.fr D (by rw [hD]; exact fun z => by cases z)).trans nA
  have hD3 : H3 D = some (.lst us) := s3.hh D _ hD (fun ps z => by cases z)
  cases pr with
  | false =>
    refine iteF (nx A3 H3 us (s2.trans s3) nA3 hD3 ?_)
    rw [if_neg Bool.false_ne_true, List.append_nil]
    exact hv.up s3.aa
  | true =>
    refine iteT ?_
    intro s Hb C cl fp
    refine he rfl _ (hx.blk s Hb scope C cl fp) σ3 A3 H3 (sl3.up s3) s3.wf _ fun y A4 H4 s4 p4 => ?_
    have nA4 : A4 D = none := (s4.fr D (by rw [hD3]; exact fun z => by cases z)).trans nA3
    have hD4 : H4 D = some (.lst us) := s4.hh D _ hD3 (fun ps z => by cases z)
    refine ⟨us, hD4, by rw [hv.len]; exact hz, ?_⟩
    refine nx A4 _ (us ++ [y]) (stp_upd ((s2.trans s3).trans s4) nD nA4 hD4) nA4 upd_same ?_
    rw [if_pos rfl]
    exact (hv.up (s3.aa.trans s4.aa)).app (.one p4)
theorem filter_more {α : Type} (pr : α → Bool) (S : α → Pm) {xs : List α} {i : Nat} {x : α} (h : xs[i]? = some x) : ((xs.take (i + 1)).filter pr).map S = ((xs.take i).filter pr).map S ++ if pr x then [S x] else [] := by
  have e : xs.take (i + 1) = xs.take i ++ [x] := by rw [List.take_add_one, h]; rfl
  rw [e, List.filter_append, List.map_append]
  congr 1
  cases hp : pr x with
  | true => simp [hp]
  | false => simp [hp]
theorem filter_le {α : Type} (pr : α → Bool) (S : α → Pm) (xs : List α) (i : Nat) : (((xs.take i).filter pr).map S).length ≤ i := by
  rw [List.length_map]
  exact Nat.le_trans (List.length_filter_le _ _) (List.length_take_le _ _)
/-- the list made is known from now on -/
theorem stp_freeze {A1 H1 A2 H2 : Hp} {D : Addr} {us : List V} (s2 : Stp T A1 H1 A2 H2) (nD : H1 D = none) (nA : A2 D = none) (hD : H2 D = some (.lst us)) : Stp T A1 H1 (upd A2 D (.lst us)) H2 := by
  refine ⟨⟨fun b o eb => ?_, s2.wf.tb, nt_upd s2.wf fun _ z => by rw [hD] at z; cases z⟩, s2.aa.trans (sub_new nA), s2.hh, s2.nn, fun b hb => ?_⟩
  · by_cases h : b = D
    · subst h
      rw [upd_same] at eb
      rw [hD]
      exact eb
    · rw [upd_ne h] at eb
      exact s2.wf.ah b o eb
  · rw [upd_ne fun z => hb (by rw [z]; exact nD)]
    exact s2.fr b hb
/-- [elt for tg in iter if ..] over a list -/
theorem lc_read {α : Type} {R S : α → Pm} {xs : List α} {vs : List Nat} {scope : Scope} (hx : XF P w K mg base k N sc X) (pr : α → Bool) (hz : xs.length ≤ sizeLine) (hi : EV X T H0 iter Γ (pL (xs.map R)))
    (turn : ∀ x ∈ xs, ∃ Γ1, (∀ X', XF P w K mg base k N (relS scope sc) X' → TGo X' T H0 tg vs (wipeG Γ vs) (R x) Γ1) ∧ (∀ X', XF P w K mg base k N (relS scope sc) X' → EVTs X' T H0 Γ1 ifs (pr x)) ∧ (pr x = true → ∀ X', XF P w K mg base k N (relS scope sc) X' → EV X' T H0 elt Γ1 (S x)))
    {σ : L2.St} (sl : Sls H0 A H σ Γ) (wf : Wf T A H) {Q : VK} (q : ∀ v A' H', Stp T A H A' H' → (pL ((xs.filter pr).map S)).p A' v → Q v H') :
    tLc (iList X.K (cE X iter)) (gB X scope tg) (tB' X scope ifs) (eB X scope elt) vs σ H Q := by
  refine hi σ A H sl wf _ fun v A1 H1 s1 p1 => ?_
  obtain ⟨l, us, rfl, e1, e2⟩ := p1
  refine ⟨l, rfl, ⟨us, SqL.of (s1.wf.ah _ _ e1)⟩, fun D nD => ?_⟩
  have hlen : us.length = xs.length := by rw [e2.len, List.length_map]
  refine lc_list (K := X.K) (a := l) (xs := us) (fun i H2 => ∃ A2 ws, Stp T A1 H1 A2 H2 ∧ A2 D = none ∧ H2 D = some (.lst ws) ∧ Vs A2 ws (((xs.take i).filter pr).map S)) ?_ ?_ ?_ ?_
  · exact ⟨A1, [], Stp.newM (.lst []) s1.wf nD, sub_none s1.wf.ah nD, upd_same, by rw [List.take_zero]; exact .nil⟩
  · rintro i H2 _ ⟨A2, ws, s2, _⟩
    exact SqL.of (s2.wf.ah _ _ (s2.aa _ _ e1))
  · rintro i v H2 hiv ⟨A2, ws, s2, nA, hD, hv⟩
    obtain ⟨Rx, hR, hp⟩ := e2.getL hiv
    rw [List.getElem?_map] at hR
    obtain ⟨x, hxi, rfl⟩ := Option.map_eq_some_iff.mp hR
    obtain ⟨Γ1, g, t, he⟩ := turn x (List.mem_of_getElem? hxi)
    have hi : i < xs.length := (List.getElem?_eq_some_iff.mp hxi).1
    refine lc_turn hx (sl.up s1) nD s2 nA hD hv ((R x).up s2.aa hp) (Nat.lt_of_le_of_lt (filter_le pr S xs i) (Nat.lt_of_lt_of_le hi hz)) g t he fun A3 H3 us' s3 n3 h3 v3 => ⟨A3, us', s3, n3, h3, ?_⟩
    rw [filter_more pr S hxi]
    exact v3
  · rintro H2 ⟨A2, ws, s2, nA, hD, hv⟩
    rw [hlen, List.take_length] at hv
    exact q _ _ H2 (s1.trans (stp_freeze s2 nD nA hD)) ⟨D, ws, rfl, upd_same, Vs.up (sub_new nA) hv⟩
/-- .. over range(n) -/
theorem lc_readR {S : Nat → Pm} {n : Nat} {vs : List Nat} {scope : Scope} {p' : Pos} (hx : XF P w K mg base k N sc X) (pr : Nat → Bool) (hz : n ≤ sizeLine) (hn : (n : Int) < 2 ^ 62) (ha : EV X T H0 a Γ (pZ n)) (he' : starEach [a] X.env = (false, eval a X.env) :: starEach [] X.env)
    (turn : ∀ x, x < n → ∃ Γ1, (∀ X', XF P w K mg base k N (relS scope sc) X' → TGo X' T H0 tg vs (wipeG Γ vs) (pZ x) Γ1) ∧ (∀ X', XF P w K mg base k N (relS scope sc) X' → EVTs X' T H0 Γ1 ifs (pr x)) ∧ (pr x = true → ∀ X', XF P w K mg base k N (relS scope sc) X' → EV X' T H0 elt Γ1 (S x)))
    {σ : L2.St} (sl : Sls H0 A H σ Γ) (wf : Wf T A H) {Q : VK} (q : ∀ v A' H', Stp T A H A' H' → (pL (((List.range n).filter pr).map S)).p A' v → Q v H') :
    tLc (iRng1 (cA X [a])) (gB X scope tg) (tB' X scope ifs) (eB X scope elt) vs σ H Q := by
  refine evs_cons ha evs_nil he' σ A H sl wf _ fun ws A1 H1 s1 p1 => ?_
  cases p1 with
  | cons r1 p1 =>
    cases p1
    cases r1
    refine ⟨n, rfl, by omega, hn, fun D nD => ?_⟩
    have hlen : (List.range n).length = n := List.length_range
    refine lc_range (lo := 0) (n := ((n : Int)).toNat) (fun i H2 => ∃ A2 ws, Stp T A1 H1 A2 H2 ∧ A2 D = none ∧ H2 D = some (.lst ws) ∧ Vs A2 ws ((((List.range n).take i).filter pr).map S)) ?_ ?_ ?_
    · exact ⟨A1, [], Stp.newM (.lst []) s1.wf nD, sub_none s1.wf.ah nD, upd_same, by rw [List.take_zero]; exact .nil⟩
    · rintro i H2 hi ⟨A2, ws, s2, nA, hD, hv⟩
      have hi : i < n := by omega
      have hxi : (List.range n)[i]? = some i := List.getElem?_range hi
      obtain ⟨Γ1, g, t, he⟩ := turn i hi
      refine lc_turn hx (sl.up s1) nD s2 nA hD hv (R := pZ i) (by show V.int _ = V.int _; congr 1; omega) (Nat.lt_of_le_of_lt (filter_le pr S _ i) (Nat.lt_of_lt_of_le hi hz)) g t he fun A3 H3 us' s3 n3 h3 v3 => ⟨A3, us', s3, n3, h3, ?_⟩
      rw [filter_more pr S hxi]
      exact v3
    · rintro H2 ⟨A2, ws, s2, nA, hD, hv⟩
      rw [Int.toNat_natCast, List.take_of_length_le (by rw [hlen]; exact Nat.le_refl _)] at hv
      exact q _ _ H2 (s1.trans (stp_freeze s2 nD nA hD)) ⟨D, ws, rfl, upd_same, Vs.up (sub_new nA) hv⟩
theorem blk_of (hx : XF P w K mg base k N sc X) {scope : Scope} {own : List (Str × Nat)} (ok : blkC N sc scope own = true) : BlkOk X.N X.env.scope scope own := by
  rw [hx.eN, hx.es]
  exact blkOk_by ok
theorem pgB {scope : Scope} (s : Shared) (H : Hp) (C : Addr) (cl : List (Str × Addr)) (fp : List Addr) : PG (X.blk s H scope (compEnvC scope cl C X.env) fp) tg (gB X scope tg) := ⟨fun pins s' σ H' v u Q I r h => h s H C cl fp pins s' u I r⟩
theorem ptB {scope : Scope} (s : Shared) (H : Hp) (C : Addr) (cl : List (Str × Addr)) (fp : List Addr) : PTs (X.blk s H scope (compEnvC scope cl C X.env) fp) ifs (tB' X scope ifs) := ⟨fun pins s' σ H' Q I h => h s H C cl fp pins s' I⟩
theorem peB {scope : Scope} (s : Shared) (H : Hp) (C : Addr) (cl : List (Str × Addr)) (fp : List Addr) : PE (X.blk s H scope (compEnvC scope cl C X.env) fp) elt (eB X scope elt) := ⟨fun pins s' σ H' Q I h => h s H C cl fp pins s' I⟩
theorem ev_lc {α : Type} {R S : α → Pm} {xs : List α} {scope : Scope} (hx : XF P w K mg base k N sc X) (own : List (Str × Nat)) (pr : α → Bool) (hz : xs.length ≤ sizeLine) (hi : EV X T H0 iter Γ (pL (xs.map R)))
    (turn : ∀ x ∈ xs, ∃ Γ1, (∀ X', XF P w K mg base k N (relS scope sc) X' → TGo X' T H0 tg (own.map (·.2)) (wipeG Γ (own.map (·.2))) (R x) Γ1) ∧ (∀ X', XF P w K mg base k N (relS scope sc) X' → EVTs X' T H0 Γ1 ifs (pr x)) ∧ (pr x = true → ∀ X', XF P w K mg base k N (relS scope sc) X' → EV X' T H0 elt Γ1 (S x)))
    (ok : blkC N sc scope own = true := by decide +kernel) (hs : ∀ x, foldedSetIterable iter X.env x = pure x := by intro _; rfl) : EV X T H0 (.ListComp elt [⟨tg, iter, ifs, 0⟩] scope pos) Γ (pL ((xs.filter pr).map S)) := by
  intro σ A H sl wf Q q
  exact ofE (pe_lc (own := own) hx.calm (by rw [hx.eN]; exact hx.nd) (pi_list canE) (blk_of hx ok) pgB ptB peB hs) (lc_read hx pr hz hi turn sl wf q)
theorem ev_lcR {S : Nat → Pm} {n : Nat} {scope : Scope} {p' : Pos} (hx : XF P w K mg base k N sc X) (hm : mg "range" = none) (own : List (Str × Nat)) (pr : Nat → Bool) (hz : n ≤ sizeLine) (hn : (n : Int) < 2 ^ 62) (ha : EV X T H0 a Γ (pZ n))
    (turn : ∀ x, x < n → ∃ Γ1, (∀ X', XF P w K mg base k N (relS scope sc) X' → TGo X' T H0 tg (own.map (·.2)) (wipeG Γ (own.map (·.2))) (pZ x) Γ1) ∧ (∀ X', XF P w K mg base k N (relS scope sc) X' → EVTs X' T H0 Γ1 ifs (pr x)) ∧ (pr x = true → ∀ X', XF P w K mg base k N (relS scope sc) X' → EV X' T H0 elt Γ1 (S x)))
    (ok : blkC N sc scope own = true := by decide +kernel) (hg : sc.names.lookup ("range" : Str) = some .globalImplicit := by rfl) (he' : starEach [a] X.env = (false, eval a X.env) :: starEach [] X.env := by rfl) (hs : ∀ x, foldedSetIterable (.Call (.Name "range" p) [a] [] p') X.env x = pure x := by intro _; rfl) : EV X T H0 (.ListComp elt [⟨tg, .Call (.Name "range" p) [a] [] p', ifs, 0⟩] scope pos) Γ (pL (((List.range n).filter pr).map S)) := by
  intro σ A H sl wf Q q
  exact ofE (pe_lc (own := own) hx.calm (by rw [hx.eN]; exact hx.nd) (pi_range1 (gl_of hx hg) (by rw [hx.em]; exact hm) canA he') (blk_of hx ok) pgB ptB peB hs) (lc_readR (p' := p') hx pr hz hn ha he' turn sl wf q)
/-- x = [..] on one line, x a local -/
theorem ss_setLc {α : Type} {R S : α → Pm} {xs : List α} {scope : Scope} {y : Str} {py : Pos} {spos : Pos} (hx : XF P w K mg base k N sc X) (i : Nat) (own : List (Str × Nat)) (pr : α → Bool) (hz : xs.length ≤ sizeLine) (hi : EV X T H0 iter Γ (pL (xs.map R)))
    (turn : ∀ x ∈ xs, ∃ Γ1, (∀ X', XF P w K mg base k N (relS scope sc) X' → TGo X' T H0 tg (own.map (·.2)) (wipeG Γ (own.map (·.2))) (R x) Γ1) ∧ (∀ X', XF P w K mg base k N (relS scope sc) X' → EVTs X' T H0 Γ1 ifs (pr x)) ∧ (pr x = true → ∀ X', XF P w K mg base k N (relS scope sc) X' → EV X' T H0 elt Γ1 (S x)))
    (hk : sc.kind = .function := by rfl) (h1 : N[i]? = some y := by rfl) (h2 : sc.names.lookup y = some .local := by rfl) (hl : (py.line == spos.line) = true := by rfl) (hown : (scope.names.any fun (n, k) => n == y && (k == .local || k == .cell)) = false := by decide +kernel)
    (ok : blkC N sc scope own = true := by decide +kernel) (hs : ∀ x, foldedSetIterable iter X.env x = pure x := by intro _; rfl) (hpl : pos.line = spos.line := by rfl) : SS X T A0 H0 (.Assign [.Name y py] (.ListComp elt [⟨tg, iter, ifs, 0⟩] scope pos) spos) Γ (.nx (Γ.set i (.im (pL ((xs.filter pr).map S))))) := by
  intro σ A H s sl D q
  have hsw : swapsWith (.ListComp elt [⟨tg, iter, ifs, 0⟩] scope pos) (some (.Name y py)) spos.line X.env = pure true :=
    sw_true (by rw [hx.es]; exact hk) (by rw [hx.es]; exact h2) (by rw [hpl]; exact hl) hown
  refine ofS (ps_setLc (i := i) (own := own) hx.calm (by rw [hx.eN]; exact hx.nd) (by rw [hx.eN]; exact h1) (by rw [hx.es]; exact h2) hsw (pi_list canE) (blk_of hx ok) pgB ptB peB hs) ?_
  exact lc_read hx pr hz hi turn sl s.wf fun v A1 H1 s1 p1 => q _ A1 H1 (s.trans s1) s1.aa ((sl.up s1).set i p1)
theorem ss_setLcR {S : Nat → Pm} {n : Nat} {scope : Scope} {y : Str} {py p' : Pos} {spos : Pos} (hx : XF P w K mg base k N sc X) (hm : mg "range" = none) (i : Nat) (own : List (Str × Nat)) (pr : Nat → Bool) (hz : n ≤ sizeLine) (hn : (n : Int) < 2 ^ 62) (ha : EV X T H0 a Γ (pZ n))
    (turn : ∀ x, x < n → ∃ Γ1, (∀ X', XF P w K mg base k N (relS scope sc) X' → TGo X' T H0 tg (own.map (·.2)) (wipeG Γ (own.map (·.2))) (pZ x) Γ1) ∧ (∀ X', XF P w K mg base k N (relS scope sc) X' → EVTs X' T H0 Γ1 ifs (pr x)) ∧ (pr x = true → ∀ X', XF P w K mg base k N (relS scope sc) X' → EV X' T H0 elt Γ1 (S x)))
    (hk : sc.kind = .function := by rfl) (h1 : N[i]? = some y := by rfl) (h2 : sc.names.lookup y = some .local := by rfl) (hl : (py.line == spos.line) = true := by rfl) (hown : (scope.names.any fun (n, k) => n == y && (k == .local || k == .cell)) = false := by decide +kernel)
    (ok : blkC N sc scope own = true := by decide +kernel) (hg : sc.names.lookup ("range" : Str) = some .globalImplicit := by rfl) (he' : starEach [a] X.env = (false, eval a X.env) :: starEach [] X.env := by rfl) (hs : ∀ x, foldedSetIterable (.Call (.Name "range" p) [a] [] p') X.env x = pure x := by intro _; rfl) (hpl : pos.line = spos.line := by rfl) :
    SS X T A0 H0 (.Assign [.Name y py] (.ListComp elt [⟨tg, .Call (.Name "range" p) [a] [] p', ifs, 0⟩] scope pos) spos) Γ (.nx (Γ.set i (.im (pL (((List.range n).filter pr).map S))))) := by
  intro σ A H s sl D q
  have hsw : swapsWith (.ListComp elt [⟨tg, .Call (.Name "range" p) [a] [] p', ifs, 0⟩] scope pos) (some (.Name y py)) spos.line X.env = pure true :=
    sw_true (by rw [hx.es]; exact hk) (by rw [hx.es]; exact h2) (by rw [hpl]; exact hl) hown
  refine ofS (ps_setLc (i := i) (own := own) hx.calm (by rw [hx.eN]; exact hx.nd) (by rw [hx.eN]; exact h1) (by rw [hx.es]; exact h2) hsw (pi_range1 (gl_of hx hg) (by rw [hx.em]; exact hm) canA he') (blk_of hx ok) pgB ptB peB hs) ?_
  exact lc_readR (p' := p') hx pr hz hn ha he' turn sl s.wf fun v A1 H1 s1 p1 => q _ A1 H1 (s.trans s1) s1.aa ((sl.up s1).set i p1)
end
end IX
end

section
set_option Elab.async false
set_option linter.all false
set_option maxRecDepth 100000
set_option maxHeartbeats 2000000
/-! the defs by their places, what is known of them. Printed by gen_head.py. -/
namespace IX
open PySem PySem.Spec PyProof.Rows L2
abbrev Rw : PySem.W.OpenSpec := PySem.Challenge.rw_indexmargins_s01_answers
def top (i : Nat) : Stmt := PySem.Challenge.pw_indexmargins_s01_answers.main.body.getD i (.Pass ⟨0, 0, 0, 0⟩)
def fD (i : Nat) (n : Str) : He.DefD := ⟨(n, none), n, n, defArgs (top i), defBody (top i), defScope (top i), [], []⟩
def mD (i j : Nat) (c m q : Str) : He.DefD := ⟨(c, some m), m, q, defArgs (inClass (top i) j), defBody (inClass (top i) j), defScope (inClass (top i) j), [], []⟩
def fn : List He.DefD := [fD 1 "passes",
  fD 2 "equal_columns",
  fD 3 "each_once",
  fD 4 "needed_columns",
  fD 5 "columns_without",
  fD 6 "own_columns",
  fD 7 "is_within_condition",
  fD 8 "serves",
  fD 9 "covers",
  fD 10 "range_columns",
  fD 11 "range_filters",
  fD 12 "own_filters",
  fD 13 "is_free",
  fD 14 "entry_groups",
  fD 15 "key_values",
  fD 16 "groups_in_range",
  fD 17 "touched_rows",
  fD 18 "rows_passing",
  fD 19 "cost_by_index",
  fD 20 "cost_by_table",
  fD 21 "ways_of",
  fD 28 "room_of",
  fD 29 "one_longer",
  fD 30 "sets_in_order",
  fD 31 "asking_cost",
  fD 32 "plan_of",
  fD 33 "plans_within",
  fD 34 "cost_of",
  fD 35 "cost_without",
  fD 36 "first_least",
  fD 38 "is_between",
  fD 39 "are_unlike",
  fD 40 "group_at",
  fD 41 "is_group",
  fD 42 "table_of",
  fD 43 "columns_at",
  fD 44 "is_filter",
  fD 45 "filters_at",
  fD 46 "question_of",
  fD 47 "index_of",
  fD 49 "suggested_keys",
  fD 50 "keys_for_want_of_others",
  fD 51 "shapes_of",
  fD 52 "numbers_of",
  fD 53 "candidate_index",
  fD 60 "greatest_divisor",
  fD 61 "lowest_terms",
  fD 62 "is_less",
  fD 63 "greatest_of",
  fD 64 "least_of",
  fD 65 "lines_of",
  fD 66 "crossing",
  fD 67 "margin_of",
  fD 68 "first_place",
  fD 69 "crossing_place",
  fD 70 "comes_ahead",
  fD 71 "pieces_of",
  fD 73 "keeps",
  fD 74 "first_keeper",
  fD 75 "without_wish",
  fD 76 "price_of",
  fD 77 "possible_cost",
  fD 78 "first_possible",
  fD 80 "counted",
  fD 81 "tell_least",
  fD 82 "tell_margin",
  fD 83 "tell_pieces",
  fD 84 "tell_kept",
  fD 85 "tell_prices",
  fD 86 "tell_possible",
  fD 87 "tell_candidates",
  fD 102 "answers",
  fD 103 "answer_of",
  fD 104 "answer_about",
  mD 23 0 "Table" "__init__" "Table.__init__",
  mD 24 0 "Question" "__init__" "Question.__init__",
  mD 25 0 "Index" "__init__" "Index.__init__",
  mD 26 0 "Plan" "__init__" "Plan.__init__",
  mD 58 0 "State" "__init__" "State.__init__",
  mD 58 1 "State" "take_table" "State.take_table",
  mD 58 2 "State" "take_question" "State.take_question",
  mD 58 3 "State" "take_index" "State.take_index",
  mD 58 4 "State" "stand_behind" "State.stand_behind",
  mD 58 5 "State" "take_room" "State.take_room",
  mD 58 6 "State" "take_wish" "State.take_wish",
  mD 58 7 "State" "make_index" "State.make_index",
  mD 58 8 "State" "asked" "State.asked",
  mD 58 9 "State" "plans_now" "State.plans_now"]
def fa : List He.Fa := [.glo "passes",
  .glo "equal_columns",
  .glo "each_once",
  .glo "needed_columns",
  .glo "columns_without",
  .glo "own_columns",
  .glo "is_within_condition",
  .glo "serves",
  .glo "covers",
  .glo "range_columns",
  .glo "range_filters",
  .glo "own_filters",
  .glo "is_free",
  .glo "entry_groups",
  .glo "key_values",
  .glo "groups_in_range",
  .glo "touched_rows",
  .glo "rows_passing",
  .glo "cost_by_index",
  .glo "cost_by_table",
  .glo "ways_of",
  .glo "room_of",
  .glo "one_longer",
  .glo "sets_in_order",
  .glo "asking_cost",
  .glo "plan_of",
  .glo "plans_within",
  .glo "cost_of",
  .glo "cost_without",
  .glo "first_least",
  .glo "is_between",
  .glo "are_unlike",
  .glo "group_at",
  .glo "is_group",
  .glo "table_of",
  .glo "columns_at",
  .glo "is_filter",
  .glo "filters_at",
  .glo "question_of",
  .glo "index_of",
  .glo "suggested_keys",
  .glo "keys_for_want_of_others",
  .glo "shapes_of",
  .glo "numbers_of",
  .glo "candidate_index",
  .glo "greatest_divisor",
  .glo "lowest_terms",
  .glo "is_less",
  .glo "greatest_of",
  .glo "least_of",
  .glo "lines_of",
  .glo "crossing",
  .glo "margin_of",
  .glo "first_place",
  .glo "crossing_place",
  .glo "comes_ahead",
  .glo "pieces_of",
  .glo "keeps",
  .glo "first_keeper",
  .glo "without_wish",
  .glo "price_of",
  .glo "possible_cost",
  .glo "first_possible",
  .glo "counted",
  .glo "tell_least",
  .glo "tell_margin",
  .glo "tell_pieces",
  .glo "tell_kept",
  .glo "tell_prices",
  .glo "tell_possible",
  .glo "tell_candidates",
  .glo "answers",
  .glo "answer_of",
  .glo "answer_about",
  .free "len",
  .free "all",
  .free "sum",
  .free "min",
  .free "range",
  .free "sorted",
  .free "zip",
  .free "list",
  .int "MOST_QUESTIONS" 6,
  .int "MOST_INDEXES" 8,
  .int "MOST" 1000000000,
  .int "TABLE" 0,
  .int "QUESTION" 1,
  .int "INDEX" 2,
  .int "ROOM" 3,
  .int "WISH" 4,
  .int "LEAST" 5,
  .int "MARGIN" 6,
  .int "PIECES" 7,
  .int "KEPT" 8,
  .int "PRICES" 9,
  .int "POSSIBLE" 10,
  .int "CANDIDATES" 11,
  .glo "Table",
  .cls "Table",
  .mkr "Table",
  .noat "Table" "width",
  .noat "Table" "groups",
  .glo "Question",
  .cls "Question",
  .mkr "Question",
  .noat "Question" "filters",
  .noat "Question" "order",
  .noat "Question" "backwards",
  .noat "Question" "wanted",
  .noat "Question" "limit",
  .noat "Question" "times",
  .glo "Index",
  .cls "Index",
  .mkr "Index",
  .noat "Index" "key_columns",
  .noat "Index" "included",
  .noat "Index" "conditions",
  .noat "Index" "upkeep",
  .glo "Plan",
  .cls "Plan",
  .mkr "Plan",
  .noat "Plan" "chosen",
  .noat "Plan" "upkeep",
  .noat "Plan" "rises",
  .glo "State",
  .cls "State",
  .mkr "State",
  .noat "State" "table",
  .noat "State" "questions",
  .noat "State" "wishes",
  .noat "State" "indexes",
  .noat "State" "room",
  .meth "State" "take_table",
  .meth "State" "take_question",
  .meth "State" "take_index",
  .meth "State" "stand_behind",
  .meth "State" "take_room",
  .meth "State" "take_wish",
  .meth "State" "make_index",
  .meth "State" "asked",
  .meth "State" "plans_now",
  .glo "PLAIN"]
def plain : List He.Dv := [.int 0, .int 0, .int 1, .int 1, .int 2, .int 0, .int 1, .int 1, .int 0, .int 0, .int 1, .int 1, .int 3]
def tf : List He.Defn := [("groups_in_range", none)]
def ex (K : PySem.W.Frag) : Bool := He.tupB K "PLAIN" plain
/-- what every def's proof leans on -/
structure Tp (T : List (Addr × Str)) (K : PySem.W.Frag) (mg : Str → Option Value) (base : Heap) : Prop where
  says : He.SaysD fa fn K
  ns : ∃ h : Heap, K.In h ∧ h.Ns mainGlobals mg
  ex : ex K = true
  tb : LamX.TabB base mg (He.cT K ("groups_in_range", none)).1 (He.cT K ("groups_in_range", none)).2
  hT : T = [((He.cT K ("groups_in_range", none)).2, ("groups_in_range.<locals>.<lambda>" : Str))]
section
variable {T : List (Addr × Str)} {K : PySem.W.Frag} {mg : Str → Option Value} {base : Heap}
theorem Tp.glo (E : Tp T K mg base) (i : Nat) {x : Str} (h : fa[i]? = some (.glo x)) : mg x = some (.ref (He.ga K x)) := by
  obtain ⟨_, X, G⟩ := E.ns
  exact He.glo_ok X G (E.says.fact i h)
theorem Tp.free (E : Tp T K mg base) (i : Nat) {x : Str} (h : fa[i]? = some (.free x)) : mg x = none := by
  obtain ⟨_, X, G⟩ := E.ns
  exact He.free_ok X G (E.says.fact i h)
theorem Tp.int (E : Tp T K mg base) (i : Nat) {x : Str} {z : Int} (h : fa[i]? = some (.int x z)) : ∃ t, mg x = some (.int z t) := by
  obtain ⟨_, X, G⟩ := E.ns
  exact He.int_ok X G (E.says.fact i h)
theorem Tp.g_passes (E : Tp T K mg base) : mg "passes" = some (.ref (He.ga K "passes")) := E.glo 0 rfl
theorem Tp.g_equal_columns (E : Tp T K mg base) : mg "equal_columns" = some (.ref (He.ga K "equal_columns")) := E.glo 1 rfl
theorem Tp.g_each_once (E : Tp T K mg base) : mg "each_once" = some (.ref (He.ga K "each_once")) := E.glo 2 rfl
theorem Tp.g_needed_columns (E : Tp T K mg base) : mg "needed_columns" = some (.ref (He.ga K "needed_columns")) := E.glo 3 rfl
theorem Tp.g_columns_without (E : Tp T K mg base) : mg "columns_without" = some (.ref (He.ga K "columns_without")) := E.glo 4 rfl
theorem Tp.g_own_columns (E : Tp T K mg base) : mg "own_columns" = some (.ref (He.ga K "own_columns")) := E.glo 5 rfl
theorem Tp.g_is_within_condition (E : Tp T K mg base) : mg "is_within_condition" = some (.ref (He.ga K "is_within_condition")) := E.glo 6 rfl
theorem Tp.g_serves (E : Tp T K mg base) : mg "serves" = some (.ref (He.ga K "serves")) := E.glo 7 rfl
theorem Tp.g_covers (E : Tp T K mg base) : mg "covers" = some (.ref (He.ga K "covers")) := E.glo 8 rfl
theorem Tp.g_range_columns (E : Tp T K mg base) : mg "range_columns" = some (.ref (He.ga K "range_columns")) := E.glo 9 rfl
theorem Tp.g_range_filters (E : Tp T K mg base) : mg "range_filters" = some (.ref (He.ga K "range_filters")) := E.glo 10 rfl
theorem Tp.g_own_filters (E : Tp T K mg base) : mg "own_filters" = some (.ref (He.ga K "own_filters")) := E.glo 11 rfl
theorem Tp.g_is_free (E : Tp T K mg base) : mg "is_free" = some (.ref (He.ga K "is_free")) := E.glo 12 rfl
theorem Tp.g_entry_groups (E : Tp T K mg base) : mg "entry_groups" = some (.ref (He.ga K "entry_groups")) := E.glo 13 rfl
theorem Tp.g_key_values (E : Tp T K mg base) : mg "key_values" = some (.ref (He.ga K "key_values")) := E.glo 14 rfl
theorem Tp.g_groups_in_range (E : Tp T K mg base) : mg "groups_in_range" = some (.ref (He.ga K "groups_in_range")) := E.glo 15 rfl
theorem Tp.g_touched_rows (E : Tp T K mg base) : mg "touched_rows" = some (.ref (He.ga K "touched_rows")) := E.glo 16 rfl
theorem Tp.g_rows_passing (E : Tp T K mg base) : mg "rows_passing" = some (.ref (He.ga K "rows_passing")) := E.glo 17 rfl
theorem Tp.g_cost_by_index (E : Tp T K mg base) : mg "cost_by_index" = some (.ref (He.ga K "cost_by_index")) := E.glo 18 rfl
theorem Tp.g_cost_by_table (E : Tp T K mg base) : mg "cost_by_table" = some (.ref (He.ga K "cost_by_table")) := E.glo 19 rfl
theorem Tp.g_ways_of (E : Tp T K mg base) : mg "ways_of" = some (.ref (He.ga K "ways_of")) := E.glo 20 rfl
theorem Tp.g_room_of (E : Tp T K mg base) : mg "room_of" = some (.ref (He.ga K "room_of")) := E.glo 21 rfl
theorem Tp.g_one_longer (E : Tp T K mg base) : mg "one_longer" = some (.ref (He.ga K "one_longer")) := E.glo 22 rfl
theorem Tp.g_sets_in_order (E : Tp T K mg base) : mg "sets_in_order" = some (.ref (He.ga K "sets_in_order")) := E.glo 23 rfl
theorem Tp.g_asking_cost (E : Tp T K mg base) : mg "asking_cost" = some (.ref (He.ga K "asking_cost")) := E.glo 24 rfl
theorem Tp.g_plan_of (E : Tp T K mg base) : mg "plan_of" = some (.ref (He.ga K "plan_of")) := E.glo 25 rfl
theorem Tp.g_plans_within (E : Tp T K mg base) : mg "plans_within" = some (.ref (He.ga K "plans_within")) := E.glo 26 rfl
theorem Tp.g_cost_of (E : Tp T K mg base) : mg "cost_of" = some (.ref (He.ga K "cost_of")) := E.glo 27 rfl
theorem Tp.g_cost_without (E : Tp T K mg base) : mg "cost_without" = some (.ref (He.ga K "cost_without")) := E.glo 28 rfl
theorem Tp.g_first_least (E : Tp T K mg base) : mg "first_least" = some (.ref (He.ga K "first_least")) := E.glo 29 rfl
theorem Tp.g_is_between (E : Tp T K mg base) : mg "is_between" = some (.ref (He.ga K "is_between")) := E.glo 30 rfl
theorem Tp.g_are_unlike (E : Tp T K mg base) : mg "are_unlike" = some (.ref (He.ga K "are_unlike")) := E.glo 31 rfl
theorem Tp.g_group_at (E : Tp T K mg base) : mg "group_at" = some (.ref (He.ga K "group_at")) := E.glo 32 rfl
theorem Tp.g_is_group (E : Tp T K mg base) : mg "is_group" = some (.ref (He.ga K "is_group")) := E.glo 33 rfl
theorem Tp.g_table_of (E : Tp T K mg base) : mg "table_of" = some (.ref (He.ga K "table_of")) := E.glo 34 rfl
theorem Tp.g_columns_at (E : Tp T K mg base) : mg "columns_at" = some (.ref (He.ga K "columns_at")) := E.glo 35 rfl
theorem Tp.g_is_filter (E : Tp T K mg base) : mg "is_filter" = some (.ref (He.ga K "is_filter")) := E.glo 36 rfl
theorem Tp.g_filters_at (E : Tp T K mg base) : mg "filters_at" = some (.ref (He.ga K "filters_at")) := E.glo 37 rfl
theorem Tp.g_question_of (E : Tp T K mg base) : mg "question_of" = some (.ref (He.ga K "question_of")) := E.glo 38 rfl
theorem Tp.g_index_of (E : Tp T K mg base) : mg "index_of" = some (.ref (He.ga K "index_of")) := E.glo 39 rfl
theorem Tp.g_suggested_keys (E : Tp T K mg base) : mg "suggested_keys" = some (.ref (He.ga K "suggested_keys")) := E.glo 40 rfl
theorem Tp.g_keys_for_want_of_others (E : Tp T K mg base) : mg "keys_for_want_of_others" = some (.ref (He.ga K "keys_for_want_of_others")) := E.glo 41 rfl
theorem Tp.g_shapes_of (E : Tp T K mg base) : mg "shapes_of" = some (.ref (He.ga K "shapes_of")) := E.glo 42 rfl
theorem Tp.g_numbers_of (E : Tp T K mg base) : mg "numbers_of" = some (.ref (He.ga K "numbers_of")) := E.glo 43 rfl
theorem Tp.g_candidate_index (E : Tp T K mg base) : mg "candidate_index" = some (.ref (He.ga K "candidate_index")) := E.glo 44 rfl
theorem Tp.g_greatest_divisor (E : Tp T K mg base) : mg "greatest_divisor" = some (.ref (He.ga K "greatest_divisor")) := E.glo 45 rfl
theorem Tp.g_lowest_terms (E : Tp T K mg base) : mg "lowest_terms" = some (.ref (He.ga K "lowest_terms")) := E.glo 46 rfl
theorem Tp.g_is_less (E : Tp T K mg base) : mg "is_less" = some (.ref (He.ga K "is_less")) := E.glo 47 rfl
theorem Tp.g_greatest_of (E : Tp T K mg base) : mg "greatest_of" = some (.ref (He.ga K "greatest_of")) := E.glo 48 rfl
theorem Tp.g_least_of (E : Tp T K mg base) : mg "least_of" = some (.ref (He.ga K "least_of")) := E.glo 49 rfl
theorem Tp.g_lines_of (E : Tp T K mg base) : mg "lines_of" = some (.ref (He.ga K "lines_of")) := E.glo 50 rfl
theorem Tp.g_crossing (E : Tp T K mg base) : mg "crossing" = some (.ref (He.ga K "crossing")) := E.glo 51 rfl
theorem Tp.g_margin_of (E : Tp T K mg base) : mg "margin_of" = some (.ref (He.ga K "margin_of")) := E.glo 52 rfl
theorem Tp.g_first_place (E : Tp T K mg base) : mg "first_place" = some (.ref (He.ga K "first_place")) := E.glo 53 rfl
theorem Tp.g_crossing_place (E : Tp T K mg base) : mg "crossing_place" = some (.ref (He.ga K "crossing_place")) := E.glo 54 rfl
theorem Tp.g_comes_ahead (E : Tp T K mg base) : mg "comes_ahead" = some (.ref (He.ga K "comes_ahead")) := E.glo 55 rfl
theorem Tp.g_pieces_of (E : Tp T K mg base) : mg "pieces_of" = some (.ref (He.ga K "pieces_of")) := E.glo 56 rfl
theorem Tp.g_keeps (E : Tp T K mg base) : mg "keeps" = some (.ref (He.ga K "keeps")) := E.glo 57 rfl
theorem Tp.g_first_keeper (E : Tp T K mg base) : mg "first_keeper" = some (.ref (He.ga K "first_keeper")) := E.glo 58 rfl
theorem Tp.g_without_wish (E : Tp T K mg base) : mg "without_wish" = some (.ref (He.ga K "without_wish")) := E.glo 59 rfl
theorem Tp.g_price_of (E : Tp T K mg base) : mg "price_of" = some (.ref (He.ga K "price_of")) := E.glo 60 rfl
theorem Tp.g_possible_cost (E : Tp T K mg base) : mg "possible_cost" = some (.ref (He.ga K "possible_cost")) := E.glo 61 rfl
theorem Tp.g_first_possible (E : Tp T K mg base) : mg "first_possible" = some (.ref (He.ga K "first_possible")) := E.glo 62 rfl
theorem Tp.g_counted (E : Tp T K mg base) : mg "counted" = some (.ref (He.ga K "counted")) := E.glo 63 rfl
theorem Tp.g_tell_least (E : Tp T K mg base) : mg "tell_least" = some (.ref (He.ga K "tell_least")) := E.glo 64 rfl
theorem Tp.g_tell_margin (E : Tp T K mg base) : mg "tell_margin" = some (.ref (He.ga K "tell_margin")) := E.glo 65 rfl
theorem Tp.g_tell_pieces (E : Tp T K mg base) : mg "tell_pieces" = some (.ref (He.ga K "tell_pieces")) := E.glo 66 rfl
theorem Tp.g_tell_kept (E : Tp T K mg base) : mg "tell_kept" = some (.ref (He.ga K "tell_kept")) := E.glo 67 rfl
theorem Tp.g_tell_prices (E : Tp T K mg base) : mg "tell_prices" = some (.ref (He.ga K "tell_prices")) := E.glo 68 rfl
theorem Tp.g_tell_possible (E : Tp T K mg base) : mg "tell_possible" = some (.ref (He.ga K "tell_possible")) := E.glo 69 rfl
theorem Tp.g_tell_candidates (E : Tp T K mg base) : mg "tell_candidates" = some (.ref (He.ga K "tell_candidates")) := E.glo 70 rfl
theorem Tp.g_answers (E : Tp T K mg base) : mg "answers" = some (.ref (He.ga K "answers")) := E.glo 71 rfl
theorem Tp.g_answer_of (E : Tp T K mg base) : mg "answer_of" = some (.ref (He.ga K "answer_of")) := E.glo 72 rfl
theorem Tp.g_answer_about (E : Tp T K mg base) : mg "answer_about" = some (.ref (He.ga K "answer_about")) := E.glo 73 rfl
theorem Tp.b_len (E : Tp T K mg base) : mg "len" = none := E.free 74 rfl
theorem Tp.b_all (E : Tp T K mg base) : mg "all" = none := E.free 75 rfl
theorem Tp.b_sum (E : Tp T K mg base) : mg "sum" = none := E.free 76 rfl
theorem Tp.b_min (E : Tp T K mg base) : mg "min" = none := E.free 77 rfl
theorem Tp.b_range (E : Tp T K mg base) : mg "range" = none := E.free 78 rfl
theorem Tp.b_sorted (E : Tp T K mg base) : mg "sorted" = none := E.free 79 rfl
theorem Tp.b_zip (E : Tp T K mg base) : mg "zip" = none := E.free 80 rfl
theorem Tp.b_list (E : Tp T K mg base) : mg "list" = none := E.free 81 rfl
theorem Tp.i_MOST_QUESTIONS (E : Tp T K mg base) : ∃ t, mg "MOST_QUESTIONS" = some (.int 6 t) := E.int 82 rfl
theorem Tp.i_MOST_INDEXES (E : Tp T K mg base) : ∃ t, mg "MOST_INDEXES" = some (.int 8 t) := E.int 83 rfl
theorem Tp.i_MOST (E : Tp T K mg base) : ∃ t, mg "MOST" = some (.int 1000000000 t) := E.int 84 rfl
theorem Tp.i_TABLE (E : Tp T K mg base) : ∃ t, mg "TABLE" = some (.int 0 t) := E.int 85 rfl
theorem Tp.i_QUESTION (E : Tp T K mg base) : ∃ t, mg "QUESTION" = some (.int 1 t) := E.int 86 rfl
theorem Tp.i_INDEX (E : Tp T K mg base) : ∃ t, mg "INDEX" = some (.int 2 t) := E.int 87 rfl
theorem Tp.i_ROOM (E : Tp T K mg base) : ∃ t, mg "ROOM" = some (.int 3 t) := E.int 88 rfl
theorem Tp.i_WISH (E : Tp T K mg base) : ∃ t, mg "WISH" = some (.int 4 t) := E.int 89 rfl
theorem Tp.i_LEAST (E : Tp T K mg base) : ∃ t, mg "LEAST" = some (.int 5 t) := E.int 90 rfl
theorem Tp.i_MARGIN (E : Tp T K mg base) : ∃ t, mg "MARGIN" = some (.int 6 t) := E.int 91 rfl
theorem Tp.i_PIECES (E : Tp T K mg base) : ∃ t, mg "PIECES" = some (.int 7 t) := E.int 92 rfl
theorem Tp.i_KEPT (E : Tp T K mg base) : ∃ t, mg "KEPT" = some (.int 8 t) := E.int 93 rfl
theorem Tp.i_PRICES (E : Tp T K mg base) : ∃ t, mg "PRICES" = some (.int 9 t) := E.int 94 rfl
theorem Tp.i_POSSIBLE (E : Tp T K mg base) : ∃ t, mg "POSSIBLE" = some (.int 10 t) := E.int 95 rfl
theorem Tp.i_CANDIDATES (E : Tp T K mg base) : ∃ t, mg "CANDIDATES" = some (.int 11 t) := E.int 96 rfl
theorem Tp.g_Table (E : Tp T K mg base) : mg "Table" = some (.ref (He.ga K "Table")) := E.glo 97 rfl
theorem Tp.c_Table (E : Tp T K mg base) : Cls K (He.ga K "Table") := He.cls_ok (E.says.fact 98 (f := .cls "Table") rfl)
theorem Tp.m_Table (E : Tp T K mg base) : Mk K (He.ga K "Table") (He.ma K (He.ga K "Table") "__init__") := He.mkr_ok (E.says.fact 99 (f := .mkr "Table") rfl)
theorem Tp.n_Table_width (E : Tp T K mg base) : NoAttr K (He.ga K "Table") "width" := He.noat_ok (E.says.fact 100 (f := .noat "Table" "width") rfl)
theorem Tp.n_Table_groups (E : Tp T K mg base) : NoAttr K (He.ga K "Table") "groups" := He.noat_ok (E.says.fact 101 (f := .noat "Table" "groups") rfl)
theorem Tp.g_Question (E : Tp T K mg base) : mg "Question" = some (.ref (He.ga K "Question")) := E.glo 102 rfl
theorem Tp.c_Question (E : Tp T K mg base) : Cls K (He.ga K "Question") := He.cls_ok (E.says.fact 103 (f := .cls "Question") rfl)
theorem Tp.m_Question (E : Tp T K mg base) : Mk K (He.ga K "Question") (He.ma K (He.ga K "Question") "__init__") := He.mkr_ok (E.says.fact 104 (f := .mkr "Question") rfl)
theorem Tp.n_Question_filters (E : Tp T K mg base) : NoAttr K (He.ga K "Question") "filters" := He.noat_ok (E.says.fact 105 (f := .noat "Question" "filters") rfl)
theorem Tp.n_Question_order (E : Tp T K mg base) : NoAttr K (He.ga K "Question") "order" := He.noat_ok (E.says.fact 106 (f := .noat "Question" "order") rfl)
theorem Tp.n_Question_backwards (E : Tp T K mg base) : NoAttr K (He.ga K "Question") "backwards" := He.noat_ok (E.says.fact 107 (f := .noat "Question" "backwards") rfl)
theorem Tp.n_Question_wanted (E : Tp T K mg base) : NoAttr K (He.ga K "Question") "wanted" := He.noat_ok (E.says.fact 108 (f := .noat "Question" "wanted") rfl)
theorem Tp.n_Question_limit (E : Tp T K mg base) : NoAttr K (He.ga K "Question") "limit" := He.noat_ok (E.says.fact 109 (f := .noat "Question" "limit") rfl)
theorem Tp.n_Question_times (E : Tp T K mg base) : NoAttr K (He.ga K "Question") "times" := He.noat_ok (E.says.fact 110 (f := .noat "Question" "times") rfl)
theorem Tp.g_Index (E : Tp T K mg base) : mg "Index" = some (.ref (He.ga K "Index")) := E.glo 111 rfl
theorem Tp.c_Index (E : Tp T K mg base) : Cls K (He.ga K "Index") := He.cls_ok (E.says.fact 112 (f := .cls "Index") rfl)
theorem Tp.m_Index (E : Tp T K mg base) : Mk K (He.ga K "Index") (He.ma K (He.ga K "Index") "__init__") := He.mkr_ok (E.says.fact 113 (f := .mkr "Index") rfl)
theorem Tp.n_Index_key_columns (E : Tp T K mg base) : NoAttr K (He.ga K "Index") "key_columns" := He.noat_ok (E.says.fact 114 (f := .noat "Index" "key_columns") rfl)
theorem Tp.n_Index_included (E : Tp T K mg base) : NoAttr K (He.ga K "Index") "included" := He.noat_ok (E.says.fact 115 (f := .noat "Index" "included") rfl)
theorem Tp.n_Index_conditions (E : Tp T K mg base) : NoAttr K (He.ga K "Index") "conditions" := He.noat_ok (E.says.fact 116 (f := .noat "Index" "conditions") rfl)
theorem Tp.n_Index_upkeep (E : Tp T K mg base) : NoAttr K (He.ga K "Index") "upkeep" := He.noat_ok (E.says.fact 117 (f := .noat "Index" "upkeep") rfl)
theorem Tp.g_Plan (E : Tp T K mg base) : mg "Plan" = some (.ref (He.ga K "Plan")) := E.glo 118 rfl
theorem Tp.c_Plan (E : Tp T K mg base) : Cls K (He.ga K "Plan") := He.cls_ok (E.says.fact 119 (f := .cls "Plan") rfl)
theorem Tp.m_Plan (E : Tp T K mg base) : Mk K (He.ga K "Plan") (He.ma K (He.ga K "Plan") "__init__") := He.mkr_ok (E.says.fact 120 (f := .mkr "Plan") rfl)
theorem Tp.n_Plan_chosen (E : Tp T K mg base) : NoAttr K (He.ga K "Plan") "chosen" := He.noat_ok (E.says.fact 121 (f := .noat "Plan" "chosen") rfl)
theorem Tp.n_Plan_upkeep (E : Tp T K mg base) : NoAttr K (He.ga K "Plan") "upkeep" := He.noat_ok (E.says.fact 122 (f := .noat "Plan" "upkeep") rfl)
theorem Tp.n_Plan_rises (E : Tp T K mg base) : NoAttr K (He.ga K "Plan") "rises" := He.noat_ok (E.says.fact 123 (f := .noat "Plan" "rises") rfl)
theorem Tp.g_State (E : Tp T K mg base) : mg "State" = some (.ref (He.ga K "State")) := E.glo 124 rfl
theorem Tp.c_State (E : Tp T K mg base) : Cls K (He.ga K "State") := He.cls_ok (E.says.fact 125 (f := .cls "State") rfl)
theorem Tp.m_State (E : Tp T K mg base) : Mk K (He.ga K "State") (He.ma K (He.ga K "State") "__init__") := He.mkr_ok (E.says.fact 126 (f := .mkr "State") rfl)
theorem Tp.n_State_table (E : Tp T K mg base) : NoAttr K (He.ga K "State") "table" := He.noat_ok (E.says.fact 127 (f := .noat "State" "table") rfl)
theorem Tp.n_State_questions (E : Tp T K mg base) : NoAttr K (He.ga K "State") "questions" := He.noat_ok (E.says.fact 128 (f := .noat "State" "questions") rfl)
theorem Tp.n_State_wishes (E : Tp T K mg base) : NoAttr K (He.ga K "State") "wishes" := He.noat_ok (E.says.fact 129 (f := .noat "State" "wishes") rfl)
theorem Tp.n_State_indexes (E : Tp T K mg base) : NoAttr K (He.ga K "State") "indexes" := He.noat_ok (E.says.fact 130 (f := .noat "State" "indexes") rfl)
theorem Tp.n_State_room (E : Tp T K mg base) : NoAttr K (He.ga K "State") "room" := He.noat_ok (E.says.fact 131 (f := .noat "State" "room") rfl)
theorem Tp.t_take_table (E : Tp T K mg base) : Meth K (He.ga K "State") "take_table" (He.ma K (He.ga K "State") "take_table") := He.meth_ok (E.says.fact 132 (f := .meth "State" "take_table") rfl)
theorem Tp.t_take_question (E : Tp T K mg base) : Meth K (He.ga K "State") "take_question" (He.ma K (He.ga K "State") "take_question") := He.meth_ok (E.says.fact 133 (f := .meth "State" "take_question") rfl)
theorem Tp.t_take_index (E : Tp T K mg base) : Meth K (He.ga K "State") "take_index" (He.ma K (He.ga K "State") "take_index") := He.meth_ok (E.says.fact 134 (f := .meth "State" "take_index") rfl)
theorem Tp.t_stand_behind (E : Tp T K mg base) : Meth K (He.ga K "State") "stand_behind" (He.ma K (He.ga K "State") "stand_behind") := He.meth_ok (E.says.fact 135 (f := .meth "State" "stand_behind") rfl)
theorem Tp.t_take_room (E : Tp T K mg base) : Meth K (He.ga K "State") "take_room" (He.ma K (He.ga K "State") "take_room") := He.meth_ok (E.says.fact 136 (f := .meth "State" "take_room") rfl)
theorem Tp.t_take_wish (E : Tp T K mg base) : Meth K (He.ga K "State") "take_wish" (He.ma K (He.ga K "State") "take_wish") := He.meth_ok (E.says.fact 137 (f := .meth "State" "take_wish") rfl)
theorem Tp.t_make_index (E : Tp T K mg base) : Meth K (He.ga K "State") "make_index" (He.ma K (He.ga K "State") "make_index") := He.meth_ok (E.says.fact 138 (f := .meth "State" "make_index") rfl)
theorem Tp.t_asked (E : Tp T K mg base) : Meth K (He.ga K "State") "asked" (He.ma K (He.ga K "State") "asked") := He.meth_ok (E.says.fact 139 (f := .meth "State" "asked") rfl)
theorem Tp.t_plans_now (E : Tp T K mg base) : Meth K (He.ga K "State") "plans_now" (He.ma K (He.ga K "State") "plans_now") := He.meth_ok (E.says.fact 140 (f := .meth "State" "plans_now") rfl)
theorem Tp.g_PLAIN (E : Tp T K mg base) : mg "PLAIN" = some (.ref (He.ga K "PLAIN")) := E.glo 141 rfl
theorem Tp.d_passes (E : Tp T K mg base) : ∃ fd, FunD K "passes" "passes" (defArgs (top 1)) (defBody (top 1)) (defScope (top 1)) [] [] (He.ga K "passes") fd := E.says.def_ 0 (d := fD 1 "passes") rfl
theorem Tp.d_equal_columns (E : Tp T K mg base) : ∃ fd, FunD K "equal_columns" "equal_columns" (defArgs (top 2)) (defBody (top 2)) (defScope (top 2)) [] [] (He.ga K "equal_columns") fd := E.says.def_ 1 (d := fD 2 "equal_columns") rfl
theorem Tp.d_each_once (E : Tp T K mg base) : ∃ fd, FunD K "each_once" "each_once" (defArgs (top 3)) (defBody (top 3)) (defScope (top 3)) [] [] (He.ga K "each_once") fd := E.says.def_ 2 (d := fD 3 "each_once") rfl
theorem Tp.d_needed_columns (E : Tp T K mg base) : ∃ fd, FunD K "needed_columns" "needed_columns" (defArgs (top 4)) (defBody (top 4)) (defScope (top 4)) [] [] (He.ga K "needed_columns") fd := E.says.def_ 3 (d := fD 4 "needed_columns") rfl
theorem Tp.d_columns_without (E : Tp T K mg base) : ∃ fd, FunD K "columns_without" "columns_without" (defArgs (top 5)) (defBody (top 5)) (defScope (top 5)) [] [] (He.ga K "columns_without") fd := E.says.def_ 4 (d := fD 5 "columns_without") rfl
theorem Tp.d_own_columns (E : Tp T K mg base) : ∃ fd, FunD K "own_columns" "own_columns" (defArgs (top 6)) (defBody (top 6)) (defScope (top 6)) [] [] (He.ga K "own_columns") fd := E.says.def_ 5 (d := fD 6 "own_columns") rfl
theorem Tp.d_is_within_condition (E : Tp T K mg base) : ∃ fd, FunD K "is_within_condition" "is_within_condition" (defArgs (top 7)) (defBody (top 7)) (defScope (top 7)) [] [] (He.ga K "is_within_condition") fd := E.says.def_ 6 (d := fD 7 "is_within_condition") rfl
theorem Tp.d_serves (E : Tp T K mg base) : ∃ fd, FunD K "serves" "serves" (defArgs (top 8)) (defBody (top 8)) (defScope (top 8)) [] [] (He.ga K "serves") fd := E.says.def_ 7 (d := fD 8 "serves") rfl
theorem Tp.d_covers (E : Tp T K mg base) : ∃ fd, FunD K "covers" "covers" (defArgs (top 9)) (defBody (top 9)) (defScope (top 9)) [] [] (He.ga K "covers") fd := E.says.def_ 8 (d := fD 9 "covers") rfl
theorem Tp.d_range_columns (E : Tp T K mg base) : ∃ fd, FunD K "range_columns" "range_columns" (defArgs (top 10)) (defBody (top 10)) (defScope (top 10)) [] [] (He.ga K "range_columns") fd := E.says.def_ 9 (d := fD 10 "range_columns") rfl
theorem Tp.d_range_filters (E : Tp T K mg base) : ∃ fd, FunD K "range_filters" "range_filters" (defArgs (top 11)) (defBody (top 11)) (defScope (top 11)) [] [] (He.ga K "range_filters") fd := E.says.def_ 10 (d := fD 11 "range_filters") rfl
theorem Tp.d_own_filters (E : Tp T K mg base) : ∃ fd, FunD K "own_filters" "own_filters" (defArgs (top 12)) (defBody (top 12)) (defScope (top 12)) [] [] (He.ga K "own_filters") fd := E.says.def_ 11 (d := fD 12 "own_filters") rfl
theorem Tp.d_is_free (E : Tp T K mg base) : ∃ fd, FunD K "is_free" "is_free" (defArgs (top 13)) (defBody (top 13)) (defScope (top 13)) [] [] (He.ga K "is_free") fd := E.says.def_ 12 (d := fD 13 "is_free") rfl
theorem Tp.d_entry_groups (E : Tp T K mg base) : ∃ fd, FunD K "entry_groups" "entry_groups" (defArgs (top 14)) (defBody (top 14)) (defScope (top 14)) [] [] (He.ga K "entry_groups") fd := E.says.def_ 13 (d := fD 14 "entry_groups") rfl
theorem Tp.d_key_values (E : Tp T K mg base) : ∃ fd, FunD K "key_values" "key_values" (defArgs (top 15)) (defBody (top 15)) (defScope (top 15)) [] [] (He.ga K "key_values") fd := E.says.def_ 14 (d := fD 15 "key_values") rfl
theorem Tp.d_groups_in_range (E : Tp T K mg base) : ∃ fd, FunD K "groups_in_range" "groups_in_range" (defArgs (top 16)) (defBody (top 16)) (defScope (top 16)) [] [] (He.ga K "groups_in_range") fd := E.says.def_ 15 (d := fD 16 "groups_in_range") rfl
theorem Tp.d_touched_rows (E : Tp T K mg base) : ∃ fd, FunD K "touched_rows" "touched_rows" (defArgs (top 17)) (defBody (top 17)) (defScope (top 17)) [] [] (He.ga K "touched_rows") fd := E.says.def_ 16 (d := fD 17 "touched_rows") rfl
theorem Tp.d_rows_passing (E : Tp T K mg base) : ∃ fd, FunD K "rows_passing" "rows_passing" (defArgs (top 18)) (defBody (top 18)) (defScope (top 18)) [] [] (He.ga K "rows_passing") fd := E.says.def_ 17 (d := fD 18 "rows_passing") rfl
theorem Tp.d_cost_by_index (E : Tp T K mg base) : ∃ fd, FunD K "cost_by_index" "cost_by_index" (defArgs (top 19)) (defBody (top 19)) (defScope (top 19)) [] [] (He.ga K "cost_by_index") fd := E.says.def_ 18 (d := fD 19 "cost_by_index") rfl
theorem Tp.d_cost_by_table (E : Tp T K mg base) : ∃ fd, FunD K "cost_by_table" "cost_by_table" (defArgs (top 20)) (defBody (top 20)) (defScope (top 20)) [] [] (He.ga K "cost_by_table") fd := E.says.def_ 19 (d := fD 20 "cost_by_table") rfl
theorem Tp.d_ways_of (E : Tp T K mg base) : ∃ fd, FunD K "ways_of" "ways_of" (defArgs (top 21)) (defBody (top 21)) (defScope (top 21)) [] [] (He.ga K "ways_of") fd := E.says.def_ 20 (d := fD 21 "ways_of") rfl
theorem Tp.d_room_of (E : Tp T K mg base) : ∃ fd, FunD K "room_of" "room_of" (defArgs (top 28)) (defBody (top 28)) (defScope (top 28)) [] [] (He.ga K "room_of") fd := E.says.def_ 21 (d := fD 28 "room_of") rfl
theorem Tp.d_one_longer (E : Tp T K mg base) : ∃ fd, FunD K "one_longer" "one_longer" (defArgs (top 29)) (defBody (top 29)) (defScope (top 29)) [] [] (He.ga K "one_longer") fd := E.says.def_ 22 (d := fD 29 "one_longer") rfl
theorem Tp.d_sets_in_order (E : Tp T K mg base) : ∃ fd, FunD K "sets_in_order" "sets_in_order" (defArgs (top 30)) (defBody (top 30)) (defScope (top 30)) [] [] (He.ga K "sets_in_order") fd := E.says.def_ 23 (d := fD 30 "sets_in_order") rfl
theorem Tp.d_asking_cost (E : Tp T K mg base) : ∃ fd, FunD K "asking_cost" "asking_cost" (defArgs (top 31)) (defBody (top 31)) (defScope (top 31)) [] [] (He.ga K "asking_cost") fd := E.says.def_ 24 (d := fD 31 "asking_cost") rfl
theorem Tp.d_plan_of (E : Tp T K mg base) : ∃ fd, FunD K "plan_of" "plan_of" (defArgs (top 32)) (defBody (top 32)) (defScope (top 32)) [] [] (He.ga K "plan_of") fd := E.says.def_ 25 (d := fD 32 "plan_of") rfl
theorem Tp.d_plans_within (E : Tp T K mg base) : ∃ fd, FunD K "plans_within" "plans_within" (defArgs (top 33)) (defBody (top 33)) (defScope (top 33)) [] [] (He.ga K "plans_within") fd := E.says.def_ 26 (d := fD 33 "plans_within") rfl
theorem Tp.d_cost_of (E : Tp T K mg base) : ∃ fd, FunD K "cost_of" "cost_of" (defArgs (top 34)) (defBody (top 34)) (defScope (top 34)) [] [] (He.ga K "cost_of") fd := E.says.def_ 27 (d := fD 34 "cost_of") rfl
theorem Tp.d_cost_without (E : Tp T K mg base) : ∃ fd, FunD K "cost_without" "cost_without" (defArgs (top 35)) (defBody (top 35)) (defScope (top 35)) [] [] (He.ga K "cost_without") fd := E.says.def_ 28 (d := fD 35 "cost_without") rfl
theorem Tp.d_first_least (E : Tp T K mg base) : ∃ fd, FunD K "first_least" "first_least" (defArgs (top 36)) (defBody (top 36)) (defScope (top 36)) [] [] (He.ga K "first_least") fd := E.says.def_ 29 (d := fD 36 "first_least") rfl
theorem Tp.d_is_between (E : Tp T K mg base) : ∃ fd, FunD K "is_between" "is_between" (defArgs (top 38)) (defBody (top 38)) (defScope (top 38)) [] [] (He.ga K "is_between") fd := E.says.def_ 30 (d := fD 38 "is_between") rfl
theorem Tp.d_are_unlike (E : Tp T K mg base) : ∃ fd, FunD K "are_unlike" "are_unlike" (defArgs (top 39)) (defBody (top 39)) (defScope (top 39)) [] [] (He.ga K "are_unlike") fd := E.says.def_ 31 (d := fD 39 "are_unlike") rfl
theorem Tp.d_group_at (E : Tp T K mg base) : ∃ fd, FunD K "group_at" "group_at" (defArgs (top 40)) (defBody (top 40)) (defScope (top 40)) [] [] (He.ga K "group_at") fd := E.says.def_ 32 (d := fD 40 "group_at") rfl
theorem Tp.d_is_group (E : Tp T K mg base) : ∃ fd, FunD K "is_group" "is_group" (defArgs (top 41)) (defBody (top 41)) (defScope (top 41)) [] [] (He.ga K "is_group") fd := E.says.def_ 33 (d := fD 41 "is_group") rfl
theorem Tp.d_table_of (E : Tp T K mg base) : ∃ fd, FunD K "table_of" "table_of" (defArgs (top 42)) (defBody (top 42)) (defScope (top 42)) [] [] (He.ga K "table_of") fd := E.says.def_ 34 (d := fD 42 "table_of") rfl
theorem Tp.d_columns_at (E : Tp T K mg base) : ∃ fd, FunD K "columns_at" "columns_at" (defArgs (top 43)) (defBody (top 43)) (defScope (top 43)) [] [] (He.ga K "columns_at") fd := E.says.def_ 35 (d := fD 43 "columns_at") rfl
theorem Tp.d_is_filter (E : Tp T K mg base) : ∃ fd, FunD K "is_filter" "is_filter" (defArgs (top 44)) (defBody (top 44)) (defScope (top 44)) [] [] (He.ga K "is_filter") fd := E.says.def_ 36 (d := fD 44 "is_filter") rfl
theorem Tp.d_filters_at (E : Tp T K mg base) : ∃ fd, FunD K "filters_at" "filters_at" (defArgs (top 45)) (defBody (top 45)) (defScope (top 45)) [] [] (He.ga K "filters_at") fd := E.says.def_ 37 (d := fD 45 "filters_at") rfl
theorem Tp.d_question_of (E : Tp T K mg base) : ∃ fd, FunD K "question_of" "question_of" (defArgs (top 46)) (defBody (top 46)) (defScope (top 46)) [] [] (He.ga K "question_of") fd := E.says.def_ 38 (d := fD 46 "question_of") rfl
theorem Tp.d_index_of (E : Tp T K mg base) : ∃ fd, FunD K "index_of" "index_of" (defArgs (top 47)) (defBody (top 47)) (defScope (top 47)) [] [] (He.ga K "index_of") fd := E.says.def_ 39 (d := fD 47 "index_of") rfl
theorem Tp.d_suggested_keys (E : Tp T K mg base) : ∃ fd, FunD K "suggested_keys" "suggested_keys" (defArgs (top 49)) (defBody (top 49)) (defScope (top 49)) [] [] (He.ga K "suggested_keys") fd := E.says.def_ 40 (d := fD 49 "suggested_keys") rfl
theorem Tp.d_keys_for_want_of_others (E : Tp T K mg base) : ∃ fd, FunD K "keys_for_want_of_others" "keys_for_want_of_others" (defArgs (top 50)) (defBody (top 50)) (defScope (top 50)) [] [] (He.ga K "keys_for_want_of_others") fd := E.says.def_ 41 (d := fD 50 "keys_for_want_of_others") rfl
theorem Tp.d_shapes_of (E : Tp T K mg base) : ∃ fd, FunD K "shapes_of" "shapes_of" (defArgs (top 51)) (defBody (top 51)) (defScope (top 51)) [] [] (He.ga K "shapes_of") fd := E.says.def_ 42 (d := fD 51 "shapes_of") rfl
theorem Tp.d_numbers_of (E : Tp T K mg base) : ∃ fd, FunD K "numbers_of" "numbers_of" (defArgs (top 52)) (defBody (top 52)) (defScope (top 52)) [] [] (He.ga K "numbers_of") fd := E.says.def_ 43 (d := fD 52 "numbers_of") rfl
theorem Tp.d_candidate_index (E : Tp T K mg base) : ∃ fd, FunD K "candidate_index" "candidate_index" (defArgs (top 53)) (defBody (top 53)) (defScope (top 53)) [] [] (He.ga K "candidate_index") fd := E.says.def_ 44 (d := fD 53 "candidate_index") rfl
theorem Tp.d_greatest_divisor (E : Tp T K mg base) : ∃ fd, FunD K "greatest_divisor" "greatest_divisor" (defArgs (top 60)) (defBody (top 60)) (defScope (top 60)) [] [] (He.ga K "greatest_divisor") fd := E.says.def_ 45 (d := fD 60 "greatest_divisor") rfl
theorem Tp.d_lowest_terms (E : Tp T K mg base) : ∃ fd, FunD K "lowest_terms" "lowest_terms" (defArgs (top 61)) (defBody (top 61)) (defScope (top 61)) [] [] (He.ga K "lowest_terms") fd := E.says.def_ 46 (d := fD 61 "lowest_terms") rfl
theorem Tp.d_is_less (E : Tp T K mg base) : ∃ fd, FunD K "is_less" "is_less" (defArgs (top 62)) (defBody (top 62)) (defScope (top 62)) [] [] (He.ga K "is_less") fd := E.says.def_ 47 (d := fD 62 "is_less") rfl
theorem Tp.d_greatest_of (E : Tp T K mg base) : ∃ fd, FunD K "greatest_of" "greatest_of" (defArgs (top 63)) (defBody (top 63)) (defScope (top 63)) [] [] (He.ga K "greatest_of") fd := E.says.def_ 48 (d := fD 63 "greatest_of") rfl
theorem Tp.d_least_of (E : Tp T K mg base) : ∃ fd, FunD K "least_of" "least_of" (defArgs (top 64)) (defBody (top 64)) (defScope (top 64)) [] [] (He.ga K "least_of") fd := E.says.def_ 49 (d := fD 64 "least_of") rfl
theorem Tp.d_lines_of (E : Tp T K mg base) : ∃ fd, FunD K "lines_of" "lines_of" (defArgs (top 65)) (defBody (top 65)) (defScope (top 65)) [] [] (He.ga K "lines_of") fd := E.says.def_ 50 (d := fD 65 "lines_of") rfl
theorem Tp.d_crossing (E : Tp T K mg base) : ∃ fd, FunD K "crossing" "crossing" (defArgs (top 66)) (defBody (top 66)) (defScope (top 66)) [] [] (He.ga K "crossing") fd := E.says.def_ 51 (d := fD 66 "crossing") rfl
theorem Tp.d_margin_of (E : Tp T K mg base) : ∃ fd, FunD K "margin_of" "margin_of" (defArgs (top 67)) (defBody (top 67)) (defScope (top 67)) [] [] (He.ga K "margin_of") fd := E.says.def_ 52 (d := fD 67 "margin_of") rfl
theorem Tp.d_first_place (E : Tp T K mg base) : ∃ fd, FunD K "first_place" "first_place" (defArgs (top 68)) (defBody (top 68)) (defScope (top 68)) [] [] (He.ga K "first_place") fd := E.says.def_ 53 (d := fD 68 "first_place") rfl
theorem Tp.d_crossing_place (E : Tp T K mg base) : ∃ fd, FunD K "crossing_place" "crossing_place" (defArgs (top 69)) (defBody (top 69)) (defScope (top 69)) [] [] (He.ga K "crossing_place") fd := E.says.def_ 54 (d := fD 69 "crossing_place") rfl
theorem Tp.d_comes_ahead (E : Tp T K mg base) : ∃ fd, FunD K "comes_ahead" "comes_ahead" (defArgs (top 70)) (defBody (top 70)) (defScope (top 70)) [] [] (He.ga K "comes_ahead") fd := E.says.def_ 55 (d := fD 70 "comes_ahead") rfl
theorem Tp.d_pieces_of (E : Tp T K mg base) : ∃ fd, FunD K "pieces_of" "pieces_of" (defArgs (top 71)) (defBody (top 71)) (defScope (top 71)) [] [] (He.ga K "pieces_of") fd := E.says.def_ 56 (d := fD 71 "pieces_of") rfl
theorem Tp.d_keeps (E : Tp T K mg base) : ∃ fd, FunD K "keeps" "keeps" (defArgs (top 73)) (defBody (top 73)) (defScope (top 73)) [] [] (He.ga K "keeps") fd := E.says.def_ 57 (d := fD 73 "keeps") rfl
theorem Tp.d_first_keeper (E : Tp T K mg base) : ∃ fd, FunD K "first_keeper" "first_keeper" (defArgs (top 74)) (defBody (top 74)) (defScope (top 74)) [] [] (He.ga K "first_keeper") fd := E.says.def_ 58 (d := fD 74 "first_keeper") rfl
theorem Tp.d_without_wish (E : Tp T K mg base) : ∃ fd, FunD K "without_wish" "without_wish" (defArgs (top 75)) (defBody (top 75)) (defScope (top 75)) [] [] (He.ga K "without_wish") fd := E.says.def_ 59 (d := fD 75 "without_wish") rfl
theorem Tp.d_price_of (E : Tp T K mg base) : ∃ fd, FunD K "price_of" "price_of" (defArgs (top 76)) (defBody (top 76)) (defScope (top 76)) [] [] (He.ga K "price_of") fd := E.says.def_ 60 (d := fD 76 "price_of") rfl
theorem Tp.d_possible_cost (E : Tp T K mg base) : ∃ fd, FunD K "possible_cost" "possible_cost" (defArgs (top 77)) (defBody (top 77)) (defScope (top 77)) [] [] (He.ga K "possible_cost") fd := E.says.def_ 61 (d := fD 77 "possible_cost") rfl
theorem Tp.d_first_possible (E : Tp T K mg base) : ∃ fd, FunD K "first_possible" "first_possible" (defArgs (top 78)) (defBody (top 78)) (defScope (top 78)) [] [] (He.ga K "first_possible") fd := E.says.def_ 62 (d := fD 78 "first_possible") rfl
theorem Tp.d_counted (E : Tp T K mg base) : ∃ fd, FunD K "counted" "counted" (defArgs (top 80)) (defBody (top 80)) (defScope (top 80)) [] [] (He.ga K "counted") fd := E.says.def_ 63 (d := fD 80 "counted") rfl
theorem Tp.d_tell_least (E : Tp T K mg base) : ∃ fd, FunD K "tell_least" "tell_least" (defArgs (top 81)) (defBody (top 81)) (defScope (top 81)) [] [] (He.ga K "tell_least") fd := E.says.def_ 64 (d := fD 81 "tell_least") rfl
theorem Tp.d_tell_margin (E : Tp T K mg base) : ∃ fd, FunD K "tell_margin" "tell_margin" (defArgs (top 82)) (defBody (top 82)) (defScope (top 82)) [] [] (He.ga K "tell_margin") fd := E.says.def_ 65 (d := fD 82 "tell_margin") rfl
theorem Tp.d_tell_pieces (E : Tp T K mg base) : ∃ fd, FunD K "tell_pieces" "tell_pieces" (defArgs (top 83)) (defBody (top 83)) (defScope (top 83)) [] [] (He.ga K "tell_pieces") fd := E.says.def_ 66 (d := fD 83 "tell_pieces") rfl
theorem Tp.d_tell_kept (E : Tp T K mg base) : ∃ fd, FunD K "tell_kept" "tell_kept" (defArgs (top 84)) (defBody (top 84)) (defScope (top 84)) [] [] (He.ga K "tell_kept") fd := E.says.def_ 67 (d := fD 84 "tell_kept") rfl
theorem Tp.d_tell_prices (E : Tp T K mg base) : ∃ fd, FunD K "tell_prices" "tell_prices" (defArgs (top 85)) (defBody (top 85)) (defScope (top 85)) [] [] (He.ga K "tell_prices") fd := E.says.def_ 68 (d := fD 85 "tell_prices") rfl
theorem Tp.d_tell_possible (E : Tp T K mg base) : ∃ fd, FunD K "tell_possible" "tell_possible" (defArgs (top 86)) (defBody (top 86)) (defScope (top 86)) [] [] (He.ga K "tell_possible") fd := E.says.def_ 69 (d := fD 86 "tell_possible") rfl
theorem Tp.d_tell_candidates (E : Tp T K mg base) : ∃ fd, FunD K "tell_candidates" "tell_candidates" (defArgs (top 87)) (defBody (top 87)) (defScope (top 87)) [] [] (He.ga K "tell_candidates") fd := E.says.def_ 70 (d := fD 87 "tell_candidates") rfl
theorem Tp.d_answers (E : Tp T K mg base) : ∃ fd, FunD K "answers" "answers" (defArgs (top 102)) (defBody (top 102)) (defScope (top 102)) [] [] (He.ga K "answers") fd := E.says.def_ 71 (d := fD 102 "answers") rfl
theorem Tp.d_answer_of (E : Tp T K mg base) : ∃ fd, FunD K "answer_of" "answer_of" (defArgs (top 103)) (defBody (top 103)) (defScope (top 103)) [] [] (He.ga K "answer_of") fd := E.says.def_ 72 (d := fD 103 "answer_of") rfl
theorem Tp.d_answer_about (E : Tp T K mg base) : ∃ fd, FunD K "answer_about" "answer_about" (defArgs (top 104)) (defBody (top 104)) (defScope (top 104)) [] [] (He.ga K "answer_about") fd := E.says.def_ 73 (d := fD 104 "answer_about") rfl
theorem Tp.d_Table___init__ (E : Tp T K mg base) : ∃ fd, FunD K "__init__" "Table.__init__" (defArgs (inClass (top 23) 0)) (defBody (inClass (top 23) 0)) (defScope (inClass (top 23) 0)) [] [] (He.ma K (He.ga K "Table") "__init__") fd := E.says.def_ 74 (d := mD 23 0 "Table" "__init__" "Table.__init__") rfl
theorem Tp.d_Question___init__ (E : Tp T K mg base) : ∃ fd, FunD K "__init__" "Question.__init__" (defArgs (inClass (top 24) 0)) (defBody (inClass (top 24) 0)) (defScope (inClass (top 24) 0)) [] [] (He.ma K (He.ga K "Question") "__init__") fd := E.says.def_ 75 (d := mD 24 0 "Question" "__init__" "Question.__init__") rfl
theorem Tp.d_Index___init__ (E : Tp T K mg base) : ∃ fd, FunD K "__init__" "Index.__init__" (defArgs (inClass (top 25) 0)) (defBody (inClass (top 25) 0)) (defScope (inClass (top 25) 0)) [] [] (He.ma K (He.ga K "Index") "__init__") fd := E.says.def_ 76 (d := mD 25 0 "Index" "__init__" "Index.__init__") rfl
theorem Tp.d_Plan___init__ (E : Tp T K mg base) : ∃ fd, FunD K "__init__" "Plan.__init__" (defArgs (inClass (top 26) 0)) (defBody (inClass (top 26) 0)) (defScope (inClass (top 26) 0)) [] [] (He.ma K (He.ga K "Plan") "__init__") fd := E.says.def_ 77 (d := mD 26 0 "Plan" "__init__" "Plan.__init__") rfl
theorem Tp.d_State___init__ (E : Tp T K mg base) : ∃ fd, FunD K "__init__" "State.__init__" (defArgs (inClass (top 58) 0)) (defBody (inClass (top 58) 0)) (defScope (inClass (top 58) 0)) [] [] (He.ma K (He.ga K "State") "__init__") fd := E.says.def_ 78 (d := mD 58 0 "State" "__init__" "State.__init__") rfl
theorem Tp.d_State_take_table (E : Tp T K mg base) : ∃ fd, FunD K "take_table" "State.take_table" (defArgs (inClass (top 58) 1)) (defBody (inClass (top 58) 1)) (defScope (inClass (top 58) 1)) [] [] (He.ma K (He.ga K "State") "take_table") fd := E.says.def_ 79 (d := mD 58 1 "State" "take_table" "State.take_table") rfl
theorem Tp.d_State_take_question (E : Tp T K mg base) : ∃ fd, FunD K "take_question" "State.take_question" (defArgs (inClass (top 58) 2)) (defBody (inClass (top 58) 2)) (defScope (inClass (top 58) 2)) [] [] (He.ma K (He.ga K "State") "take_question") fd := E.says.def_ 80 (d := mD 58 2 "State" "take_question" "State.take_question") rfl
theorem Tp.d_State_take_index (E : Tp T K mg base) : ∃ fd, FunD K "take_index" "State.take_index" (defArgs (inClass (top 58) 3)) (defBody (inClass (top 58) 3)) (defScope (inClass (top 58) 3)) [] [] (He.ma K (He.ga K "State") "take_index") fd := E.says.def_ 81 (d := mD 58 3 "State" "take_index" "State.take_index") rfl
theorem Tp.d_State_stand_behind (E : Tp T K mg base) : ∃ fd, FunD K "stand_behind" "State.stand_behind" (defArgs (inClass (top 58) 4)) (defBody (inClass (top 58) 4)) (defScope (inClass (top 58) 4)) [] [] (He.ma K (He.ga K "State") "stand_behind") fd := E.says.def_ 82 (d := mD 58 4 "State" "stand_behind" "State.stand_behind") rfl
theorem Tp.d_State_take_room (E : Tp T K mg base) : ∃ fd, FunD K "take_room" "State.take_room" (defArgs (inClass (top 58) 5)) (defBody (inClass (top 58) 5)) (defScope (inClass (top 58) 5)) [] [] (He.ma K (He.ga K "State") "take_room") fd := E.says.def_ 83 (d := mD 58 5 "State" "take_room" "State.take_room") rfl
theorem Tp.d_State_take_wish (E : Tp T K mg base) : ∃ fd, FunD K "take_wish" "State.take_wish" (defArgs (inClass (top 58) 6)) (defBody (inClass (top 58) 6)) (defScope (inClass (top 58) 6)) [] [] (He.ma K (He.ga K "State") "take_wish") fd := E.says.def_ 84 (d := mD 58 6 "State" "take_wish" "State.take_wish") rfl
theorem Tp.d_State_make_index (E : Tp T K mg base) : ∃ fd, FunD K "make_index" "State.make_index" (defArgs (inClass (top 58) 7)) (defBody (inClass (top 58) 7)) (defScope (inClass (top 58) 7)) [] [] (He.ma K (He.ga K "State") "make_index") fd := E.says.def_ 85 (d := mD 58 7 "State" "make_index" "State.make_index") rfl
theorem Tp.d_State_asked (E : Tp T K mg base) : ∃ fd, FunD K "asked" "State.asked" (defArgs (inClass (top 58) 8)) (defBody (inClass (top 58) 8)) (defScope (inClass (top 58) 8)) [] [] (He.ma K (He.ga K "State") "asked") fd := E.says.def_ 86 (d := mD 58 8 "State" "asked" "State.asked") rfl
theorem Tp.d_State_plans_now (E : Tp T K mg base) : ∃ fd, FunD K "plans_now" "State.plans_now" (defArgs (inClass (top 58) 9)) (defBody (inClass (top 58) 9)) (defScope (inClass (top 58) 9)) [] [] (He.ma K (He.ga K "State") "plans_now") fd := E.says.def_ 87 (d := mD 58 9 "State" "plans_now" "State.plans_now") rfl
end
end IX
end

section
set_option Elab.async false
set_option linter.all false
set_option maxRecDepth 100000
set_option maxHeartbeats 0
/-! the top's run, by the kernel. Printed by gen_head.py. -/
namespace IX
open PySem PySem.Spec PyProof.Rows L2
/-! ### the part of the heap that is looked at: the module's names, classes' namespaces, methods, code objects -/
def nsRefs (g : Addr → Option Obj) (a : Addr) : List Addr := match g a with
  | some ⟨_, _, .dict es _, _⟩ => es.toList.flatMap fun e => He.refV e.val
  | _ => []
def codeRefs (g : Addr → Option Obj) (a : Addr) : List Addr := match g a with
  | some ⟨_, _, .func fd, _⟩ => He.refV fd.code
  | _ => []
def clsRefs (g : Addr → Option Obj) (a : Addr) : List Addr := match g a with
  | some ⟨_, _, .cls cd, _⟩ => [cd.ns]
  | _ => []
def asY (g : Addr → Option Obj) : List Addr :=
  mainGlobals :: (nsRefs g mainGlobals ++ ((nsRefs g mainGlobals).flatMap (clsRefs g) ++ (((nsRefs g mainGlobals).flatMap (clsRefs g)).flatMap (nsRefs g) ++
    ((nsRefs g mainGlobals).flatMap (codeRefs g) ++ ((((nsRefs g mainGlobals).flatMap (clsRefs g)).flatMap (nsRefs g)).flatMap (codeRefs g))))))
def names0 : List PySem.Str := ["passes", "equal_columns", "each_once", "needed_columns", "columns_without", "own_columns", "is_within_condition", "serves", "covers", "range_columns", "range_filters", "own_filters", "is_free", "entry_groups", "key_values", "groups_in_range", "touched_rows", "rows_passing", "cost_by_index", "cost_by_table", "ways_of", "Table", "Question", "Index", "Plan", "room_of", "one_longer", "sets_in_order", "asking_cost", "plan_of"]
def names1 : List PySem.Str := ["plans_within", "cost_of", "cost_without", "first_least", "is_between", "are_unlike", "group_at", "is_group", "table_of", "columns_at", "is_filter", "filters_at", "question_of", "index_of", "suggested_keys", "keys_for_want_of_others", "shapes_of", "numbers_of", "candidate_index", "MOST_QUESTIONS", "MOST_INDEXES", "MOST", "State", "greatest_divisor", "lowest_terms", "is_less", "greatest_of", "least_of", "lines_of", "crossing"]
def names2 : List PySem.Str := ["margin_of", "first_place", "crossing_place", "comes_ahead", "pieces_of", "keeps", "first_keeper", "without_wish", "price_of", "possible_cost", "first_possible", "counted", "tell_least", "tell_margin", "tell_pieces", "tell_kept", "tell_prices", "tell_possible", "tell_candidates", "TABLE", "QUESTION", "INDEX", "ROOM", "WISH", "LEAST", "MARGIN", "PIECES", "KEPT", "PRICES", "POSSIBLE"]
def names3 : List PySem.Str := ["CANDIDATES", "PLAIN", "answer_of", "answer_about"]
def names : List PySem.Str := names0 ++ names1 ++ names2 ++ names3
abbrev qv : Program := PySem.W.view Rw.prog [102]
/-- what the Hook looks at -/
abbrev AlY : Type := He.AlD × Bool
def obsY (g : Addr → Option Obj) : AlY := (He.obsD fa fn (He.frT g (asY g)), ex (He.frT g (asY g)) && He.tabsB g tf (He.frT g (asY g)))
def valY : AlY := (He.valD fn, true)
/-- what is told -/
structure SaysY (h : Heap) (K : PySem.W.Frag) : Prop where
  d : He.SaysD fa fn K
  more : ex K = true
  hd : ∀ p ∈ tf, PySem.W.codeHdIn K (He.cT K p).1 (He.cT K p).2 = true
  none_ : ∀ p ∈ tf, K.lookup (He.cT K p).2 = none
  empty : ∀ p ∈ tf, h.get? (He.cT K p).2 = some { cls := .none, data := .fields #[] }
theorem saysY_of {h : Heap} (e : obsY h.get? = valY) : SaysY h (He.frT h.get? (asY h.get?)) := by
  have e1 : He.obsD fa fn (He.frT h.get? (asY h.get?)) = He.valD fn := congrArg (fun z : AlY => z.1) e
  have e2 : (ex (He.frT h.get? (asY h.get?)) && He.tabsB h.get? tf (He.frT h.get? (asY h.get?))) = true := congrArg (fun z : AlY => z.2) e
  obtain ⟨h1, h2⟩ := He.ba e2
  have key : ∀ p ∈ tf, PySem.W.codeHdIn (He.frT h.get? (asY h.get?)) (He.cT (He.frT h.get? (asY h.get?)) p).1 (He.cT (He.frT h.get? (asY h.get?)) p).2 = true ∧ ∃ o, h.get? (He.cT (He.frT h.get? (asY h.get?)) p).2 = some o ∧ He.emptyTab o = true := fun p hp => by
    obtain ⟨h3, h4⟩ := He.ba (List.all_eq_true.mp h2 p hp)
    refine ⟨h3, ?_⟩
    cases q : h.get? (He.cT (He.frT h.get? (asY h.get?)) p).2 with
    | none =>
      rw [q] at h4
      cases h4
    | some o =>
      rw [q] at h4
      exact ⟨o, rfl, h4⟩
  exact ⟨e1, h1, fun p hp => (key p hp).1, fun p hp => by
    obtain ⟨_, o, q, z⟩ := key p hp
    exact He.frT_none q z, fun p hp => by
    obtain ⟨_, o, q, z⟩ := key p hp
    rw [q, He.emptyTab_eq z]⟩
def hk : PySem.W.Hook where
  α := AlY
  obs := fun s => obsY s.heap.get?
  val := fun _ => valY
  says := fun _ h => ∃ K : PySem.W.Frag, K.In h ∧ SaysY h K
  of := fun _ _ e => ⟨_, He.frT_in, saysY_of e⟩
  keeps := fun _ _ _ ⟨K, hK, c⟩ k => ⟨K, PySem.W.Frag.In.keeps hK k, ⟨c.d, c.more, c.hd, c.none_, fun p hp => k _ _ (c.empty p hp)⟩⟩
def ob (s : PySem.W.SharedT) : AlY := obsY (HandSHeadRun.getT s)
theorem ob_eq (s : PySem.W.SharedT) : ob s = hk.obs s.abs := by
  have e : HandSHeadRun.getT s = s.abs.heap.get? := funext (HandSHeadRun.getT_eq s)
  show obsY (HandSHeadRun.getT s) = obsY s.abs.heap.get?
  rw [e]
def obA (s : PySem.W.SharedT) : He.AlD := He.obsD [] fn (He.frT (HandSHeadRun.getT s) (asY (HandSHeadRun.getT s)))
abbrev RunIs {α : Type} (w : World) (f : PySem.W.SharedT → α) (a : α) : Prop :=
  ∀ os : OsState, (HandSHeadRun.endF (HandSHeadRun.stepQ (HandSHeadRun.denQ HandSHeadRun.tabQ) Rw.prog w) 6000 Rw.prog w os).map f = some a
theorem run1 (w : World) : RunIs w (fun s => (HandSHeadRun.looksF Rw.prog (PySem.W.boot_heap w.params) s.abs, HandSHeadRun.seenQ qv names (importedModules Rw.prog.main.body) (fun s => PySem.W.xlAt qv [] s && PySem.W.recOk [] s) s.abs)) (true, PySem.W.openGood qv names) := by
  intro os
  kernel_rfl
theorem run2 (w : World) : RunIs w ob valY := by
  intro os
  kernel_rfl
end IX
end

section
set_option Elab.async false
set_option linter.all false
set_option maxRecDepth 100000
set_option maxHeartbeats 2000000
namespace IX
open PySem PySem.Spec PyProof.Rows L2
section
variable {P : Program} {w : World} {K : PySem.W.Frag} {mg : Str → Option Value} {base : Heap} {k : Nat} {N : List Str} {sc : Scope} {X : Cx} {T : List (Addr × Str)} {A0 H0 A H : Hp} {Γ Γ1 Γ2 : List Slot}
variable {a b c e o : Expr} {es : List Expr} {rest body : List Stmt} {pos p : Pos} {R R1 R2 : Pm} {ps qs : List Pm} {S : List Pm → Pm → Prop}
/-- the slots at a def's entry -/
def startG (N : List Str) (ps : List Pm) : List Slot := ps.map .im ++ List.replicate (N.length - ps.length) .un
theorem sls_none (n : Nat) : Sls H0 A H (List.replicate n none) (List.replicate n .un) := by
  induction n with
  | zero => exact .nil
  | succ n ih => exact .cons trivial ih
theorem sls_start {vs : List V} (h : Vs A vs ps) : Sls H0 A H (L2.start N vs) (startG N ps) := by
  unfold L2.start startG
  rw [h.len]
  refine All2.app ?_ (sls_none _)
  induction h with
  | nil => exact .nil
  | cons r t ih => exact .cons r ih
/-- a def that changes nothing -/
theorem fn_ok {f : Addr} {fd : FuncData} {x qual : Str} {params : Arguments} {ns : List Str} (F : FunD K x qual params body sc [] [] f fd) (Sc : FnScope N ns sc) (len : ∀ ps R, S ps R → ps.length = ns.length)
    (hb : ∀ (X : Cx) (A0 H0 : Hp) (ps : List Pm) (R : Pm), XF P w K mg base k N sc X → (∀ x, X.fn x = true) → S ps R → ST X T A0 H0 body (startG N ps) (.rt R)) : FnOk P w K mg base CX0 (k + 1) f fd ns (FSp T S) := by
  refine F.ok Sc (fun vs H Q E ⟨A, ps, R, _, hv, hS, _⟩ => hv.len.trans (len ps R hS)) (fun cdv A outer s H vs Q E hr ⟨A', ps, R, wf, hv, hS, q⟩ => ?_)
  have hx : XF P w K mg base k N sc (cxOf CX0 P w K mg base N qual sc f cdv A outer s H E).nox := ⟨rfl, rfl, rfl, rfl, rfl, rfl, rfl, rfl, rfl, hr, Sc.nd⟩
  refine ⟨_, PSs.nox canSs, ?_⟩
  exact hb _ A' H ps R hx (fun _ => rfl) hS _ A' H (.refl wf) (sls_start hv) _ fun v A2 H2 s2 p2 => q v A2 H2 s2 p2
theorem def_ok {x : Str} {params : Arguments} {ns : List Str} (E : Tp T K mg base) (hm : mg x = some (.ref (He.ga K x))) (F : ∃ fd, FunD K x x params body sc [] [] (He.ga K x) fd) (Sc : FnScope N ns sc)
    (hbind : ∀ (kV doc pm : Value) (an : Option Addr) (cdv ct : Value) (us : List Value), us.length = ns.length → bindArgs (PySem.W.fnOf x x params body sc .none kV doc pm an cdv ct) ⟨us, []⟩ = pure (ns.zip us)) (len : ∀ ps R, S ps R → ps.length = ns.length)
    (hb : ∀ (X : Cx) (A0 H0 : Hp) (ps : List Pm) (R : Pm), XF P w K mg base k N sc X → (∀ x, X.fn x = true) → S ps R → ST X T A0 H0 body (startG N ps) (.rt R)) : DefOk P w K mg base T (k + 1) x ns S := by
  obtain ⟨fd, F⟩ := F
  exact ⟨He.ga K x, fd, hm, F.kp, F.bindsN hbind, fn_ok F Sc len hb⟩
theorem DefOk.up {x : Str} {ns : List Str} {j : Nat} (h : DefOk P w K mg base T j x ns S) (hj : j ≤ k) : DefOk P w K mg base T k x ns S := by
  obtain ⟨f, fd, h1, h2, h3, h4⟩ := h.ex
  exact ⟨f, fd, h1, h2, h3, h4.mono hj⟩
/-! ### classes that are records -/
/-- __init__(self, f1, ..): self.f1 = f1; .. -/
def spRec (C : Addr) (fs : List Str) : Sp := fun vs H Q _ => ∃ p dx xs, vs = V.ref p :: xs ∧ xs.length = fs.length ∧ H p = some (.ins C dx []) ∧ Q .non (upd H p (.ins C dx (fs.zip xs)))
/-- the class's objects are made so -/
structure MkOk (P : Program) (w : World) (K : PySem.W.Frag) (mg : Str → Option Value) (base : Heap) (x : Str) (ns fs : List Str) : Prop where
  ex : ∃ C f fd, mg x = some (.ref C) ∧ C = He.ga K x ∧ Mk K C f ∧ Binds K fd ns [] ∧ FnOk P w K mg base CX0 1 f fd ns (spRec C fs)
theorem zip_fields {A : Hp} : ∀ {fs : List Str} {xs : List V} {ps : List Pm}, Vs A xs ps → All2 (fun (u : Str × V) (f : Str × Pm) => u.1 = f.1 ∧ f.2.p A u.2) (fs.zip xs) (fs.zip ps)
  | [], _, _, _ => .nil
  | _ :: _, _, _, .nil => .nil
  | _ :: fs, _, _, .cons r t => .cons ⟨rfl, r⟩ (zip_fields t)
theorem ev_make {x : Str} {ns fs : List Str} (hx : XF P w K mg base k N sc X) (F : MkOk P w K mg base x ns fs) (h : EVs X T H0 (e :: es) Γ ps) (hl : ps.length = fs.length := by rfl) (hj : 2 ≤ k := by decide) (hg : sc.names.lookup x = some .globalImplicit := by rfl) (hdb : (x == ("__debug__" : Str)) = false := by decide)
    (he : starEach (e :: es) X.env = (false, eval e X.env) :: starEach es X.env := by rfl) (hpl : (backTo pos (starEach es X.env)).any (·.1) = false := by rfl) : EV X T H0 (.Call (.Name x p) (e :: es) [] pos) Γ (pO (He.ga K x) (fs.zip ps)) := by
  intro σ A H sl wf Q q
  obtain ⟨C, f, fd, hm, rfl, M, hb, hF⟩ := F.ex
  have hg' := gl_of hx hg
  have hroom : Room (1 + 1) X.A := hx.room.mono hj
  obtain ⟨eP, ew, eK, em, eb, _⟩ := hx
  subst eP ew eK em eb
  refine ofE (pe_make M hF hroom hg' hm hb .nil pass0 canA hdb he hpl) (h σ A H sl wf _ fun vs A1 H1 s1 p1 y dx nx nd ne => ?_)
  rw [List.append_nil]
  refine ⟨y, dx, vs, rfl, p1.len.trans hl, upd_same, rfl, ?_⟩
  rw [upd_upd]
  have w1 := s1.wf
  have nx' : upd H1 dx (.own y) y = none := by rw [upd_ne ne.symm]; exact nx
  have t1 : LamX.Tabs T (upd H1 dx (.own y)) := wf_new w1 nd
  have t2 : LamX.Tabs T (upd (upd H1 dx (.own y)) y (.ins (He.ga X.K x) dx (fs.zip vs))) := tabs_upd t1 (fun _ z => by rw [nx'] at z; cases z) fun _ z => by rw [nx'] at z; cases z
  have nA : A1 y = none := sub_none w1.ah nx
  have s2 : Stp T A1 H1 (upd A1 y (.ins (He.ga X.K x) dx (fs.zip vs))) (upd (upd H1 dx (.own y)) y (.ins (He.ga X.K x) dx (fs.zip vs))) :=
    ⟨⟨sub_upd2 (w1.ah.trans (sub_new nd)), t2, nt_upd w1 fun _ z => by rw [nx] at z; cases z⟩, sub_new nA, LamX.ExtN.of ((sub_new nd).trans (sub_new nx')), fun b hb => nn_new b (nn_new b hb), fun b hb => upd_ne fun z => hb (by rw [z]; exact nx)⟩
  exact q _ _ _ (s1.trans s2) ⟨y, dx, _, rfl, upd_same, zip_fields (Vs.up s2.aa p1)⟩
theorem put_here {f : Str} {v x : V} {r : List (Str × V)} : putF f v ((f, x) :: r) = (f, v) :: r := if_pos rfl
theorem put_past {f g : Str} {v x : V} {r : List (Str × V)} (h : ¬ g = f) : putF f v ((g, x) :: r) = (g, x) :: putF f v r := if_neg h
theorem put_new {f : Str} {v : V} : ∀ {r : List (Str × V)}, (r.all fun q => !decide (q.1 = f)) = true → putF f v r = r ++ [(f, v)]
  | [], _ => rfl
  | (g, x) :: r, h => by
    rw [List.all_cons, Bool.and_eq_true] at h
    have hn : ¬ g = f := by
      have := h.1
      simpa using this
    rw [put_past hn, put_new h.2]
    rfl
end
end IX
end

section
set_option Elab.async false
set_option linter.all false
set_option maxRecDepth 100000
set_option maxHeartbeats 2000000
namespace IX
open PySem PySem.Spec PyProof.Rows L2
/-! ### the program's data -/
def pFil (f : VaidxBase.Filter) : Pm := pT [pZ f.col, pZ f.lo, pZ f.hi]
def pGrp (g : VaidxBase.Group) : Pm := pT [pZs g.row, pZ g.count]
def b2n (b : Bool) : Nat := if b then 1 else 0
section
variable (K : PySem.W.Frag)
def pTab (t : VaidxBase.Table) : Pm := pO (He.ga K "Table") [("width", pZ t.cols), ("groups", pLs pGrp t.groups)]
def pQ (q : VaidxBase.Question) : Pm := pO (He.ga K "Question") [("filters", pLs pFil q.filters), ("order", pZs q.order), ("backwards", pZ (b2n q.back)), ("wanted", pZs q.wants), ("limit", pZ q.limit), ("times", pZ q.times)]
def pX (o : Vaidxd.Offer) : Pm := pO (He.ga K "Index") [("key_columns", pZs o.index.keys), ("included", pZs o.index.others), ("conditions", pLs pFil o.index.only.toList), ("upkeep", pZ o.upkeep)]
end
/-- a set with what it costs -/
structure Pl where
  chosen : List Nat
  upkeep : Nat
  rises : List Nat
deriving DecidableEq, Inhabited
def pPl (K : PySem.W.Frag) (s : Pl) : Pm := pO (He.ga K "Plan") [("chosen", pZs s.chosen), ("upkeep", pZ s.upkeep), ("rises", pZs s.rises)]
/-! ### about lists -/
theorem atI_map {α : Type} {R : α → Pm} {xs : List α} {n : Nat} {x : α} (h : xs[n]? = some x) : atI (xs.map R) (n : Int) = some (R x) := atI_nat (by rw [List.getElem?_map, h]; rfl)
theorem all_or_first {α : Type} (p : α → Bool) : ∀ xs : List α, xs.all p = true ∨ ∃ (j : Nat) (x : α), xs[j]? = some x ∧ p x = false ∧ ∀ (i : Nat) (y : α), i < j → xs[i]? = some y → p y = true
  | [] => .inl rfl
  | x :: r => by
    cases h : p x with
    | false => exact .inr ⟨0, x, rfl, h, fun i y hi => absurd hi (Nat.not_lt_zero _)⟩
    | true =>
      rcases all_or_first p r with q | ⟨j, y, h1, h2, h3⟩
      · left
        rw [List.all_cons, h, q]
        rfl
      · refine .inr ⟨j + 1, y, h1, h2, fun i z hi hz => ?_⟩
        cases i with
        | zero =>
          have e : x = z := Option.some.inj hz
          rw [← e]
          exact h
        | succ i => exact h3 i z (Nat.lt_of_succ_lt_succ hi) hz
theorem get_map {α : Type} {R : α → Pm} {xs : List α} {i : Nat} {S : Pm} (h : (xs.map R)[i]? = some S) : ∃ x, xs[i]? = some x ∧ S = R x := by
  rw [List.getElem?_map] at h
  obtain ⟨x, h1, h2⟩ := Option.map_eq_some_iff.mp h
  exact ⟨x, h1, h2.symm⟩
theorem lt_of_get {α : Type} {xs : List α} {i : Nat} {x : α} (h : xs[i]? = some x) : i < xs.length := (List.getElem?_eq_some_iff.mp h).1
section
variable {P : Program} {w : World} {K : PySem.W.Frag} {mg : Str → Option Value} {base : Heap} {k : Nat} {N : List Str} {sc : Scope} {X : Cx} {T : List (Addr × Str)} {A0 H0 A H : Hp} {Γ Γ1 Γ2 : List Slot}
variable {a b c e o : Expr} {es : List Expr} {rest body orelse : List Stmt} {pos p : Pos} {R R1 R2 : Pm} {ps qs : List Pm} {out : Out}
theorem st_if0 (hc : EVT X T H0 c Γ false) (he : ST X T A0 H0 rest Γ out) : ST X T A0 H0 (.If c body [] pos :: rest) Γ out := st_if hc (fun z => by cases z) (fun _ => he) fun z => by cases z
theorem st_if1 (hc : EVT X T H0 c Γ true) (ht : ST X T A0 H0 body Γ (.rt R)) : ST X T A0 H0 (.If c body orelse pos :: rest) Γ (.rt R) := st_last (ss_if hc (fun _ => ht) fun z => by cases z)
/-- if c: return ..; or the block falls through -/
theorem st_ifx {x : Bool} (hc : EVT X T H0 c Γ x) (ht : x = true → ST X T A0 H0 body Γ (.rt R)) (f : Fg Γ Γ1) : ST X T A0 H0 [.If c body [] pos] Γ (if x then .rt R else .nx Γ1) := by
  cases x with
  | true => exact st_if1 hc (ht rfl)
  | false => exact st_if0 hc (st_end f)
/-- a loop that is left by a return as soon as a test is met -/
theorem st_search {α : Type} {tg iter : Expr} {R : α → Pm} {R3 : Pm} {xs : List α} (hx : XF P w K mg base k N sc X) (t : α → Bool) (Γ' : List Slot) (hi : EV X T H0 iter Γ (pL (xs.map R))) (h0 : Fg Γ Γ')
    (turn : ∀ x ∈ xs, ∃ Γ1 vs, TGo X T H0 tg vs Γ' (R x) Γ1 ∧ ST X T A0 H0 body Γ1 (if t x then .rt R2 else .nx Γ')) (h1 : xs.any t = true → R2 = R3) (after : xs.any t = false → ST X T A0 H0 rest Γ' (.rt R3))
    (hs : ∀ x, foldedSetIterable iter X.env x = pure x := by intro _; rfl) : ST X T A0 H0 (.For tg iter body [] pos :: rest) Γ (.rt R3) := by
  rcases all_or_first (fun x => !t x) xs with h | ⟨j, x, hj, hp, hlt⟩
  · have hn : ∀ x ∈ xs, t x = false := fun x hm => by
      have := List.all_eq_true.mp h x hm
      simpa using this
    refine st_seq (ss_for hx (fun _ => Γ') hi h0 (fun i S hS => ?_) hs) (after (List.any_eq_false.mpr fun x hm => by rw [hn x hm]; decide))
    rw [List.getElem?_map] at hS
    obtain ⟨x, e1, rfl⟩ := Option.map_eq_some_iff.mp hS
    obtain ⟨Γ1, vs, g, b⟩ := turn x (List.mem_of_getElem? e1)
    rw [hn x (List.mem_of_getElem? e1), if_neg Bool.false_ne_true] at b
    exact ⟨Γ1, vs, g, b⟩
  · have hjl : j < (xs.map R).length := by
      rw [List.length_map]
      exact (List.getElem?_eq_some_iff.mp hj).1
    have ht : t x = true := by simpa using hp
    refine st_last (ss_for_rt hx (fun _ => Γ') j hjl hi h0 (fun i S hi' hS => ?_) (fun S hS => ?_) hs)
    · rw [List.getElem?_map] at hS
      obtain ⟨y, e1, rfl⟩ := Option.map_eq_some_iff.mp hS
      obtain ⟨Γ1, vs, g, b⟩ := turn y (List.mem_of_getElem? e1)
      have hy : t y = false := by simpa using hlt i y hi' e1
      rw [hy, if_neg Bool.false_ne_true] at b
      exact ⟨Γ1, vs, g, b⟩
    · rw [List.getElem?_map, hj] at hS
      cases hS
      obtain ⟨Γ1, vs, g, b⟩ := turn x (List.mem_of_getElem? hj)
      rw [ht, if_pos rfl] at b
      rw [← h1 (List.any_eq_true.mpr ⟨x, List.mem_of_getElem? hj, ht⟩)]
      exact ⟨Γ1, vs, g, b⟩
/-! ### fields -/
section
variable (E : Tp T K mg base) (hx : XF P w K mg base k N sc X)
include E hx
theorem cls_at {C : Addr} (h : Cls K C) : Cls X.K C := by rw [hx.eK]; exact h
theorem noat_at {C : Addr} {f : Str} (h : NoAttr K C f) : NoAttr X.K C f := by rw [hx.eK]; exact h
theorem fld {C : Addr} {fs : List (Str × Pm)} {f : Str} (hc : Cls K C) (hn : NoAttr K C f) (h : EV X T H0 e Γ (pO C fs)) (hf : fs.lookup f = some R) (hb : attributeBase e f X.env (eval e X.env) = eval e X.env := by rfl) : EV X T H0 (.Attribute e f pos) Γ R :=
  ev_fld (by rw [hx.eK]; exact hc) (by rw [hx.eK]; exact hn) hf h hb
end
theorem lk_here {α : Type} {k : Str} {v : α} {r : List (Str × α)} : List.lookup k ((k, v) :: r) = some v := by
  have e : (k == k) = true := beq_self_eq_true k
  simp only [List.lookup, e]
theorem lk_past {α : Type} {k g : Str} {v : α} {r : List (Str × α)} (h : (k == g) = false) : List.lookup k ((g, v) :: r) = List.lookup k r := by
  simp only [List.lookup, h]
variable (E : Tp T K mg base) (hx : XF P w K mg base k N sc X)
include E hx
theorem f_width {t : VaidxBase.Table} (h : EV X T H0 e Γ (pTab K t)) (hb : attributeBase e "width" X.env (eval e X.env) = eval e X.env := by rfl) : EV X T H0 (.Attribute e "width" pos) Γ (pZ t.cols) := fld E hx E.c_Table E.n_Table_width h lk_here hb
theorem f_groups {t : VaidxBase.Table} (h : EV X T H0 e Γ (pTab K t)) (hb : attributeBase e "groups" X.env (eval e X.env) = eval e X.env := by rfl) : EV X T H0 (.Attribute e "groups" pos) Γ (pLs pGrp t.groups) := fld E hx E.c_Table E.n_Table_groups h ((lk_past (by decide +kernel)).trans lk_here) hb
theorem f_filters {q : VaidxBase.Question} (h : EV X T H0 e Γ (pQ K q)) (hb : attributeBase e "filters" X.env (eval e X.env) = eval e X.env := by rfl) : EV X T H0 (.Attribute e "filters" pos) Γ (pLs pFil q.filters) := fld E hx E.c_Question E.n_Question_filters h lk_here hb
theorem f_order {q : VaidxBase.Question} (h : EV X T H0 e Γ (pQ K q)) (hb : attributeBase e "order" X.env (eval e X.env) = eval e X.env := by rfl) : EV X T H0 (.Attribute e "order" pos) Γ (pZs q.order) := fld E hx E.c_Question E.n_Question_order h ((lk_past (by decide +kernel)).trans lk_here) hb
theorem f_backwards {q : VaidxBase.Question} (h : EV X T H0 e Γ (pQ K q)) (hb : attributeBase e "backwards" X.env (eval e X.env) = eval e X.env := by rfl) : EV X T H0 (.Attribute e "backwards" pos) Γ (pZ (b2n q.back)) := fld E hx E.c_Question E.n_Question_backwards h ((lk_past (by decide +kernel)).trans ((lk_past (by decide +kernel)).trans lk_here)) hb
theorem f_wanted {q : VaidxBase.Question} (h : EV X T H0 e Γ (pQ K q)) (hb : attributeBase e "wanted" X.env (eval e X.env) = eval e X.env := by rfl) : EV X T H0 (.Attribute e "wanted" pos) Γ (pZs q.wants) := fld E hx E.c_Question E.n_Question_wanted h ((lk_past (by decide +kernel)).trans ((lk_past (by decide +kernel)).trans ((lk_past (by decide +kernel)).trans lk_here))) hb
theorem f_limit {q : VaidxBase.Question} (h : EV X T H0 e Γ (pQ K q)) (hb : attributeBase e "limit" X.env (eval e X.env) = eval e X.env := by rfl) : EV X T H0 (.Attribute e "limit" pos) Γ (pZ q.limit) := fld E hx E.c_Question E.n_Question_limit h ((lk_past (by decide +kernel)).trans ((lk_past (by decide +kernel)).trans ((lk_past (by decide +kernel)).trans ((lk_past (by decide +kernel)).trans lk_here)))) hb
theorem f_times {q : VaidxBase.Question} (h : EV X T H0 e Γ (pQ K q)) (hb : attributeBase e "times" X.env (eval e X.env) = eval e X.env := by rfl) : EV X T H0 (.Attribute e "times" pos) Γ (pZ q.times) := fld E hx E.c_Question E.n_Question_times h ((lk_past (by decide +kernel)).trans ((lk_past (by decide +kernel)).trans ((lk_past (by decide +kernel)).trans ((lk_past (by decide +kernel)).trans ((lk_past (by decide +kernel)).trans lk_here))))) hb
theorem f_keys {i : Vaidxd.Offer} (h : EV X T H0 e Γ (pX K i)) (hb : attributeBase e "key_columns" X.env (eval e X.env) = eval e X.env := by rfl) : EV X T H0 (.Attribute e "key_columns" pos) Γ (pZs i.index.keys) := fld E hx E.c_Index E.n_Index_key_columns h lk_here hb
theorem f_included {i : Vaidxd.Offer} (h : EV X T H0 e Γ (pX K i)) (hb : attributeBase e "included" X.env (eval e X.env) = eval e X.env := by rfl) : EV X T H0 (.Attribute e "included" pos) Γ (pZs i.index.others) := fld E hx E.c_Index E.n_Index_included h ((lk_past (by decide +kernel)).trans lk_here) hb
theorem f_conditions {i : Vaidxd.Offer} (h : EV X T H0 e Γ (pX K i)) (hb : attributeBase e "conditions" X.env (eval e X.env) = eval e X.env := by rfl) : EV X T H0 (.Attribute e "conditions" pos) Γ (pLs pFil i.index.only.toList) := fld E hx E.c_Index E.n_Index_conditions h ((lk_past (by decide +kernel)).trans ((lk_past (by decide +kernel)).trans lk_here)) hb
theorem f_upkeep {i : Vaidxd.Offer} (h : EV X T H0 e Γ (pX K i)) (hb : attributeBase e "upkeep" X.env (eval e X.env) = eval e X.env := by rfl) : EV X T H0 (.Attribute e "upkeep" pos) Γ (pZ i.upkeep) := fld E hx E.c_Index E.n_Index_upkeep h ((lk_past (by decide +kernel)).trans ((lk_past (by decide +kernel)).trans ((lk_past (by decide +kernel)).trans lk_here))) hb
theorem f_chosen {s : Pl} (h : EV X T H0 e Γ (pPl K s)) (hb : attributeBase e "chosen" X.env (eval e X.env) = eval e X.env := by rfl) : EV X T H0 (.Attribute e "chosen" pos) Γ (pZs s.chosen) := fld E hx E.c_Plan E.n_Plan_chosen h lk_here hb
theorem f_pupkeep {s : Pl} (h : EV X T H0 e Γ (pPl K s)) (hb : attributeBase e "upkeep" X.env (eval e X.env) = eval e X.env := by rfl) : EV X T H0 (.Attribute e "upkeep" pos) Γ (pZ s.upkeep) := fld E hx E.c_Plan E.n_Plan_upkeep h ((lk_past (by decide +kernel)).trans lk_here) hb
theorem f_rises {s : Pl} (h : EV X T H0 e Γ (pPl K s)) (hb : attributeBase e "rises" X.env (eval e X.env) = eval e X.env := by rfl) : EV X T H0 (.Attribute e "rises" pos) Γ (pZs s.rises) := fld E hx E.c_Plan E.n_Plan_rises h ((lk_past (by decide +kernel)).trans ((lk_past (by decide +kernel)).trans lk_here)) hb
end
end IX
end

section
set_option Elab.async false
set_option linter.all false
set_option maxRecDepth 100000
set_option maxHeartbeats 2000000
namespace IX
open PySem PySem.Spec PyProof.Rows L2
theorem small_size {n : Nat} (h : n ≤ 1000000) : n ≤ sizeLine := Nat.le_trans h (by decide)
theorem small_lt {n : Nat} (h : n ≤ 1000000) : n < sizeLine := Nat.lt_of_le_of_lt h (by decide)
/-- the numbers as Python has them -/
def zs (xs : List Nat) : List Int := xs.map fun n : Nat => (n : Int)
theorem pZs_ints (xs : List Nat) : pZs xs = pIs (zs xs) := by
  show pL (xs.map pZ) = pL ((zs xs).map pI)
  unfold zs
  rw [List.map_map]
  rfl
theorem mu_Z (xs : List Nat) : Slot.mu (xs.map pZ) = .mu ((zs xs).map pI) := by
  unfold zs
  rw [List.map_map]
  rfl
theorem cast_mem (c : Nat) (xs : List Nat) : decide ((c : Int) ∈ zs xs) = xs.contains c := by
  rw [List.contains_eq_mem]
  by_cases h : c ∈ xs
  · rw [decide_eq_true h, decide_eq_true (show (c : Int) ∈ zs xs from List.mem_map.mpr ⟨c, h, rfl⟩)]
  · rw [decide_eq_false h, decide_eq_false]
    intro z
    obtain ⟨d, hd, e⟩ := List.mem_map.mp z
    have e' : d = c := by omega
    subst e'
    exact h hd
def isMu : Slot → Bool
  | .mu _ => true
  | _ => false
def oneB (i : Nat) : Nat → List Slot → Bool
  | _, [] => true
  | j, s :: r => (!isMu s || Nat.beq j i) && oneB i (j + 1) r
theorem oneMu_of {i : Nat} {Γ : List Slot} (h : oneB i 0 Γ = true) : oneMu i Γ := by
  have key : ∀ (Γ : List Slot) (n : Nat), oneB i n Γ = true → ∀ (j : Nat) (ps : List Pm), Γ[j]? = some (Slot.mu ps) → n + j = i := by
    intro Γ
    induction Γ with
    | nil => intro n _ j ps hj; simp at hj
    | cons s r ih =>
      intro n hn j ps hj
      have hn' : ((!isMu s || Nat.beq n i) && oneB i (n + 1) r) = true := hn
      obtain ⟨h1, h2⟩ := Bool.and_eq_true_iff.mp hn'
      cases j with
      | zero =>
        have e : s = .mu ps := Option.some.inj hj
        subst e
        have h3 : (!true || Nat.beq n i) = true := h1
        have h4 : Nat.beq n i = true := by simpa using h3
        exact Nat.eq_of_beq_eq_true h4
      | succ j =>
        have := ih (n + 1) h2 j ps hj
        omega
  intro j ps hj
  have := key Γ 0 h j ps hj
  omega
section
variable {P : Program} {w : World} {K : PySem.W.Frag} {mg : Str → Option Value} {base : Heap} {k : Nat} {N : List Str} {sc : Scope} {X : Cx} {T : List (Addr × Str)} {A0 H0 A H : Hp} {Γ Γ1 Γ2 : List Slot}
variable {a b c e o tg iter : Expr} {es : List Expr} {rest body orelse : List Stmt} {pos p : Pos} {R1 R2 R3 : Pm} {ps qs : List Pm} {out : Out}
theorem SS.rt {st : Stmt} {R : Pm} (h : SS X T A0 H0 st Γ (.rt R)) {R' : Pm} (q : R = R') : SS X T A0 H0 st Γ (.rt R') := q ▸ h
theorem SS.nx {st : Stmt} (h : SS X T A0 H0 st Γ (.nx Γ1)) (q : Γ1 = Γ2) : SS X T A0 H0 st Γ (.nx Γ2) := q ▸ h
theorem ST.nx {sts : List Stmt} (h : ST X T A0 H0 sts Γ (.nx Γ1)) (q : Γ1 = Γ2) : ST X T A0 H0 sts Γ (.nx Γ2) := q ▸ h
theorem ST.on {sts : List Stmt} (h : ST X T A0 H0 sts Γ1 out) (q : Γ = Γ1) : ST X T A0 H0 sts Γ out := q ▸ h
theorem fold_take {α S : Type} (f : S → α → S) (s0 : S) {xs : List α} {i : Nat} {x : α} (h : xs[i]? = some x) : (xs.take (i + 1)).foldl f s0 = f ((xs.take i).foldl f s0) x := by
  rw [List.take_add_one, h, List.foldl_append]
  rfl
/-- a loop that carries a state -/
theorem st_fold {α S : Type} {R : α → Pm} {xs : List α} (hx : XF P w K mg base k N sc X) (G : S → List Slot) (f : S → α → S) (I : Nat → S → Prop) (s0 : S) (hi : EV X T H0 iter Γ (pL (xs.map R))) (h0 : Fg Γ (G s0)) (i0 : I 0 s0)
    (turn : ∀ i s x, xs[i]? = some x → I i s → I (i + 1) (f s x) ∧ ∃ Γ1 vs, TGo X T H0 tg vs (G s) (R x) Γ1 ∧ ST X T A0 H0 body Γ1 (.nx (G (f s x)))) (after : I xs.length (xs.foldl f s0) → ST X T A0 H0 rest (G (xs.foldl f s0)) out)
    (hs : ∀ x, foldedSetIterable iter X.env x = pure x := by intro _; rfl) : ST X T A0 H0 (.For tg iter body [] pos :: rest) Γ out := by
  have inv : ∀ i, i ≤ xs.length → I i ((xs.take i).foldl f s0) := by
    intro i
    induction i with
    | zero => intro _; rw [List.take_zero]; exact i0
    | succ i ih =>
      intro hi'
      have hget : xs[i]? = some xs[i] := List.getElem?_eq_getElem (by omega)
      rw [fold_take f s0 hget]
      exact (turn i _ _ hget (ih (by omega))).1
  have hl := inv xs.length (Nat.le_refl _)
  rw [List.take_length] at hl
  refine st_seq ((ss_for hx (fun i => G ((xs.take i).foldl f s0)) hi (by rw [List.take_zero]; exact h0) (fun i S hS => ?_) hs).nx (by rw [List.length_map, List.take_length])) (after hl)
  rw [List.getElem?_map] at hS
  obtain ⟨x, e1, rfl⟩ := Option.map_eq_some_iff.mp hS
  obtain ⟨_, Γ1, vs, g, b⟩ := turn i _ x e1 (inv i (Nat.le_of_lt (List.getElem?_eq_some_iff.mp e1).1))
  rw [fold_take f s0 e1]
  exact ⟨Γ1, vs, g, b⟩
theorem st_fold_range2 {S : Type} (hx : XF P w K mg base k N sc X) (hm : mg "range" = none) (G : S → List Slot) (f : S → Nat → S) (I : Nat → S → Prop) (s0 : S) (lo hi : Nat) (hb1 : lo ≤ 1000000 ∧ hi ≤ 1000000) (ha : EV X T H0 a Γ (pZ lo)) (hb : EV X T H0 b Γ (pZ hi)) (h0 : Fg Γ (G s0)) (i0 : I lo s0)
    (turn : ∀ i s, lo ≤ i → i < hi → I i s → I (i + 1) (f s i) ∧ ∃ Γ1 vs, TGo X T H0 tg vs (G s) (pZ i) Γ1 ∧ ST X T A0 H0 body Γ1 (.nx (G (f s i)))) (after : ST X T A0 H0 rest (G ((List.range' lo (hi - lo)).foldl f s0)) out)
    (hg : sc.names.lookup ("range" : Str) = some .globalImplicit := by rfl) (hs : ∀ x, foldedSetIterable (.Call (.Name "range" p) [a, b] [] pos) X.env x = pure x := by intro _; rfl)
    (he : starEach [a, b] X.env = [(false, eval a X.env), (false, eval b X.env)] := by rfl) (he2 : starEach [b] X.env = [(false, eval b X.env)] := by rfl) {pos' : Pos} : ST X T A0 H0 (.For tg (.Call (.Name "range" p) [a, b] [] pos) body [] pos' :: rest) Γ out := by
  have hlen : (List.range' lo (hi - lo)).length = hi - lo := List.length_range'
  have hget : ∀ i, i < hi - lo → (List.range' lo (hi - lo))[i]? = some (lo + i) := fun i h => by rw [List.getElem?_range' h, Nat.one_mul]
  have inv : ∀ i, i ≤ hi - lo → I (lo + i) (((List.range' lo (hi - lo)).take i).foldl f s0) := by
    intro i
    induction i with
    | zero => intro _; rw [List.take_zero]; exact i0
    | succ i ih =>
      intro hi'
      rw [fold_take f s0 (hget i (by omega))]
      exact (turn (lo + i) _ (by omega) (by omega) (ih (by omega))).1
  have en : ((hi : Int) - (lo : Int)).toNat = hi - lo := by omega
  refine st_seq ((ss_for_range2 hx hm (fun i => G (((List.range' lo (hi - lo)).take i).foldl f s0)) lo hi ⟨by omega, by omega, by omega, by omega⟩ ha hb (by rw [List.take_zero]; exact h0) (fun i hi' => ?_) hg hs he he2).nx (by rw [en, List.take_of_length_le (by rw [hlen]; exact Nat.le_refl _)])) after
  rw [en] at hi'
  obtain ⟨_, Γ1, vs, g, b⟩ := turn (lo + i) _ (by omega) (by omega) (inv i (by omega))
  rw [fold_take f s0 (hget i hi')]
  exact ⟨Γ1, vs, g, b⟩
theorem st_fold_range1 {S : Type} (hx : XF P w K mg base k N sc X) (hm : mg "range" = none) (G : S → List Slot) (f : S → Nat → S) (I : Nat → S → Prop) (s0 : S) (n : Nat) (hb1 : n ≤ 1000000) (ha : EV X T H0 a Γ (pZ n)) (h0 : Fg Γ (G s0)) (i0 : I 0 s0)
    (turn : ∀ i s, i < n → I i s → I (i + 1) (f s i) ∧ ∃ Γ1 vs, TGo X T H0 tg vs (G s) (pZ i) Γ1 ∧ ST X T A0 H0 body Γ1 (.nx (G (f s i)))) (after : I n ((List.range n).foldl f s0) → ST X T A0 H0 rest (G ((List.range n).foldl f s0)) out)
    (hg : sc.names.lookup ("range" : Str) = some .globalImplicit := by rfl) (hs : ∀ x, foldedSetIterable (.Call (.Name "range" p) [a] [] pos) X.env x = pure x := by intro _; rfl)
    (he : starEach [a] X.env = [(false, eval a X.env)] := by rfl) {pos' : Pos} : ST X T A0 H0 (.For tg (.Call (.Name "range" p) [a] [] pos) body [] pos' :: rest) Γ out := by
  have hlen : (List.range n).length = n := List.length_range
  have hget : ∀ i, i < n → (List.range n)[i]? = some i := fun i h => List.getElem?_range h
  have inv : ∀ i, i ≤ n → I i (((List.range n).take i).foldl f s0) := by
    intro i
    induction i with
    | zero => intro _; rw [List.take_zero]; exact i0
    | succ i ih =>
      intro hi'
      rw [fold_take f s0 (hget i (by omega))]
      exact (turn i _ (by omega) (ih (by omega))).1
  have hl := inv n (Nat.le_refl _)
  rw [List.take_of_length_le (by rw [hlen]; exact Nat.le_refl _)] at hl
  refine st_seq ((ss_for_range1 hx hm (fun i => G (((List.range n).take i).foldl f s0)) n (by omega) ha (by rw [List.take_zero]; exact h0) (fun i hi' => ?_) hg hs he).nx (by rw [List.take_of_length_le (by rw [hlen]; exact Nat.le_refl _)])) (after hl)
  obtain ⟨_, Γ1, vs, g, b⟩ := turn i _ hi' (inv i (Nat.le_of_lt hi'))
  rw [fold_take f s0 (hget i hi')]
  exact ⟨Γ1, vs, g, b⟩
theorem zip_get {α β : Type} {xs : List α} {ys : List β} {i : Nat} {x : α} {y : β} (h1 : xs[i]? = some x) (h2 : ys[i]? = some y) : (xs.zip ys)[i]? = some (x, y) := List.getElem?_zip_eq_some.mpr ⟨h1, h2⟩
/-- for x, y in zip(a, b) -/
theorem st_fold_zip {α β S : Type} {R : α → Pm} {R' : β → Pm} {xs : List α} {ys : List β} {n : Nat} {elts : List Expr} {pt : Pos} (hx : XF P w K mg base k N sc X) (hm : mg "zip" = none) (G : S → List Slot) (f : S → α × β → S) (I : Nat → S → Prop) (s0 : S) (hl : xs.length = ys.length)
    (ha : EV X T H0 a Γ (pL (xs.map R))) (hb : EV X T H0 b Γ (pL (ys.map R'))) (h0 : Fg Γ (G s0)) (i0 : I 0 s0)
    (turn : ∀ i s x y, xs[i]? = some x → ys[i]? = some y → I i s → I (i + 1) (f s (x, y)) ∧ ∃ Γ1 vs, TGo X T H0 (.Tuple elts n pt) vs (G s) (pT [R x, R' y]) Γ1 ∧ ST X T A0 H0 body Γ1 (.nx (G (f s (x, y))))) (after : I xs.length ((xs.zip ys).foldl f s0) → ST X T A0 H0 rest (G ((xs.zip ys).foldl f s0)) out)
    (hg : sc.names.lookup ("zip" : Str) = some .globalImplicit := by rfl) (hs : ∀ x, foldedSetIterable (.Call (.Name "zip" p) [a, b] [] pos) X.env x = pure x := by intro _; rfl)
    (he : starEach [a, b] X.env = (false, eval a X.env) :: starEach [b] X.env := by rfl) (he2 : starEach [b] X.env = (false, eval b X.env) :: starEach [] X.env := by rfl) (hpl : (backTo pos (starEach [b] X.env)).any (·.1) = false := by rfl) {pos' : Pos} :
    ST X T A0 H0 (.For (.Tuple elts n pt) (.Call (.Name "zip" p) [a, b] [] pos) body [] pos' :: rest) Γ out := by
  have hlen : (xs.zip ys).length = xs.length := by rw [List.length_zip, hl, Nat.min_self]
  have hgx : ∀ i, i < xs.length → ∃ x y, xs[i]? = some x ∧ ys[i]? = some y := fun i h => ⟨_, _, List.getElem?_eq_getElem h, List.getElem?_eq_getElem (by omega)⟩
  have inv : ∀ i, i ≤ xs.length → I i (((xs.zip ys).take i).foldl f s0) := by
    intro i
    induction i with
    | zero => intro _; rw [List.take_zero]; exact i0
    | succ i ih =>
      intro hi'
      obtain ⟨x, y, e1, e2⟩ := hgx i (by omega)
      rw [fold_take f s0 (zip_get e1 e2)]
      exact (turn i _ x y e1 e2 (ih (by omega))).1
  have hl' := inv xs.length (Nat.le_refl _)
  rw [← hlen, List.take_length, hlen] at hl'
  refine st_seq ((ss_for_zip hx hm (fun i => G (((xs.zip ys).take i).foldl f s0)) (by rw [List.length_map, List.length_map, hl]) ha hb (by rw [List.take_zero]; exact h0) (fun i S S' hS hS' => ?_) hg hs he he2 hpl).nx (by rw [List.length_map, ← hlen, List.take_length])) (after hl')
  rw [List.getElem?_map] at hS hS'
  obtain ⟨x, e1, rfl⟩ := Option.map_eq_some_iff.mp hS
  obtain ⟨y, e2, rfl⟩ := Option.map_eq_some_iff.mp hS'
  obtain ⟨_, Γ1, vs, g, b⟩ := turn i _ x y e1 e2 (inv i (Nat.le_of_lt (List.getElem?_eq_some_iff.mp e1).1))
  rw [fold_take f s0 (zip_get e1 e2)]
  exact ⟨Γ1, vs, g, b⟩
theorem st_search_zip {α β : Type} {R : α → Pm} {R' : β → Pm} {xs : List α} {ys : List β} {n : Nat} {elts : List Expr} {pt : Pos} (hx : XF P w K mg base k N sc X) (hm : mg "zip" = none) (t : α × β → Bool) (Γ' : List Slot) (hl : xs.length = ys.length)
    (ha : EV X T H0 a Γ (pL (xs.map R))) (hb : EV X T H0 b Γ (pL (ys.map R'))) (h0 : Fg Γ Γ')
    (turn : ∀ x y, (x, y) ∈ xs.zip ys → ∃ Γ1 vs, TGo X T H0 (.Tuple elts n pt) vs Γ' (pT [R x, R' y]) Γ1 ∧ ST X T A0 H0 body Γ1 (if t (x, y) then .rt R2 else .nx Γ')) (h1 : (xs.zip ys).any t = true → R2 = R3) (after : (xs.zip ys).any t = false → ST X T A0 H0 rest Γ' (.rt R3))
    (hg : sc.names.lookup ("zip" : Str) = some .globalImplicit := by rfl) (hs : ∀ x, foldedSetIterable (.Call (.Name "zip" p) [a, b] [] pos) X.env x = pure x := by intro _; rfl)
    (he : starEach [a, b] X.env = (false, eval a X.env) :: starEach [b] X.env := by rfl) (he2 : starEach [b] X.env = (false, eval b X.env) :: starEach [] X.env := by rfl) (hpl : (backTo pos (starEach [b] X.env)).any (·.1) = false := by rfl) {pos' : Pos} :
    ST X T A0 H0 (.For (.Tuple elts n pt) (.Call (.Name "zip" p) [a, b] [] pos) body [] pos' :: rest) Γ (.rt R3) := by
  rcases all_or_first (fun x => !t x) (xs.zip ys) with h | ⟨j, ⟨x, y⟩, hj, hp, hlt⟩
  · have hn : ∀ z ∈ xs.zip ys, t z = false := fun x hm => by
      have := List.all_eq_true.mp h x hm
      simpa using this
    refine st_seq (ss_for_zip hx hm (fun _ => Γ') (by rw [List.length_map, List.length_map, hl]) ha hb h0 (fun i S S' hS hS' => ?_) hg hs he he2 hpl) (after (List.any_eq_false.mpr fun x hm => by rw [hn x hm]; decide))
    rw [List.getElem?_map] at hS hS'
    obtain ⟨x, e1, rfl⟩ := Option.map_eq_some_iff.mp hS
    obtain ⟨y, e2, rfl⟩ := Option.map_eq_some_iff.mp hS'
    have hmem := List.mem_of_getElem? (zip_get e1 e2)
    obtain ⟨Γ1, vs, g, b⟩ := turn x y hmem
    rw [hn _ hmem, if_neg Bool.false_ne_true] at b
    exact ⟨Γ1, vs, g, b⟩
  · have ht : t (x, y) = true := by simpa using hp
    obtain ⟨ex, ey⟩ := List.getElem?_zip_eq_some.mp hj
    have hjl : j < (xs.map R).length := by
      rw [List.length_map]
      exact (List.getElem?_eq_some_iff.mp ex).1
    refine st_last (ss_for_zip_rt hx hm (fun _ => Γ') j hjl (by rw [List.length_map, List.length_map, hl]) ha hb h0 (fun i S S' hi' hS hS' => ?_) (fun S S' hS hS' => ?_) hg hs he he2 hpl)
    · rw [List.getElem?_map] at hS hS'
      obtain ⟨x', e1, rfl⟩ := Option.map_eq_some_iff.mp hS
      obtain ⟨y', e2, rfl⟩ := Option.map_eq_some_iff.mp hS'
      obtain ⟨Γ1, vs, g, b⟩ := turn x' y' (List.mem_of_getElem? (zip_get e1 e2))
      have hy : t (x', y') = false := by simpa using hlt i _ hi' (zip_get e1 e2)
      rw [hy, if_neg Bool.false_ne_true] at b
      exact ⟨Γ1, vs, g, b⟩
    · rw [List.getElem?_map] at hS hS'
      rw [ex] at hS
      rw [ey] at hS'
      cases hS
      cases hS'
      have hmem := List.mem_of_getElem? hj
      obtain ⟨Γ1, vs, g, b⟩ := turn x y hmem
      rw [ht, if_pos rfl] at b
      rw [← h1 (List.any_eq_true.mpr ⟨_, hmem, ht⟩)]
      exact ⟨Γ1, vs, g, b⟩
end
end IX
end

section
set_option Elab.async false
set_option linter.all false
set_option maxRecDepth 100000
set_option maxHeartbeats 2000000
namespace IX
open PySem PySem.Spec PyProof.Rows L2
local macro_rules | `(tactic| walk_at "fg") => `(tactic| repeat (first | exact All2.nil | exact Fg.refl _ | refine All2.cons (by first | exact Or.inl rfl | exact Or.inr rfl) ?_))
theorem any_not_all {α : Type} {p : α → Bool} {xs : List α} (h : (xs.any fun x => !p x) = true) : xs.all p = false := by
  rw [← Bool.not_eq_true, List.all_eq_true]
  intro q
  obtain ⟨x, hx, hp⟩ := List.any_eq_true.mp h
  rw [q x hx] at hp
  cases hp
theorem not_any_all {α : Type} {p : α → Bool} {xs : List α} (h : (xs.any fun x => !p x) = false) : xs.all p = true := by
  rw [List.all_eq_true]
  intro x hx
  have := List.any_eq_false.mp h x hx
  simpa using this
section
variable {P : Program} {w : World} {K : PySem.W.Frag} {mg : Str → Option Value} {base : Heap} {T : List (Addr × Str)}
/-! ### passes -/
theorem passes_dec (row : List Nat) (f : VaidxBase.Filter) : (decide ((VaidxBase.valueAt row f.col : Int) < (f.lo : Int)) || decide ((f.hi : Int) < (VaidxBase.valueAt row f.col : Int))) = !VaidxBase.passes row f := by
  unfold VaidxBase.passes
  by_cases h1 : f.lo ≤ VaidxBase.valueAt row f.col <;> by_cases h2 : VaidxBase.valueAt row f.col ≤ f.hi <;> simp [h1, h2] <;> omega
theorem value_at {row : List Nat} {c : Nat} (h : c < row.length) : row[c]? = some (VaidxBase.valueAt row c) := by
  unfold VaidxBase.valueAt
  rw [List.getElem?_eq_getElem h]
  rfl
def sPasses (ps : List Pm) (R : Pm) : Prop := ∃ (row : List Nat) (fs : List VaidxBase.Filter), (∀ f ∈ fs, f.col < row.length) ∧ ps = [pZs row, pLs pFil fs] ∧ R = pB (fs.all (VaidxBase.passes row))
theorem sc1 : FnScope ["values", "filters", "column", "low", "high"] ["values", "filters"] (defScope (top 1)) := ⟨rfl, rfl, rfl, by decide +kernel, rfl, by decide +kernel, by decide +kernel⟩
theorem ok_passes (E : Tp T K mg base) : DefOk P w K mg base T 1 "passes" ["values", "filters"] sPasses := by
  refine def_ok E E.g_passes E.d_passes sc1 (fun _ _ _ _ _ _ us hl => match us, hl with | [_, _], _ => rfl) (fun ps R ⟨_, _, _, h, _⟩ => by rw [h]; rfl) ?_
  rintro X A0 H0 ps R hx hf ⟨row, fs, hc, rfl, rfl⟩
  refine st_search (R3 := pB (fs.all (VaidxBase.passes row))) (xs := fs) (R := pFil) (R2 := pB false) hx (fun f => !VaidxBase.passes row f) [.im (pZs row), .im (pLs pFil fs), .un, .un, .un] (ev_var hx 1) (by walk_at "fg") (fun f hf => ⟨_, _, tg_tup3 hx 2 3 4, ?_⟩) (fun h => ?_) fun h => ?_
  · rw [← passes_dec]
    exact st_ifx (evt_or (evt_lt (ev_ixL (ev_var hx 0) (ev_var hx 2) (atI_map (R := pZ) (value_at (hc f hf)))) (ev_var hx 3)) (fun _ => evt_gt (ev_ixL (ev_var hx 0) (ev_var hx 2) (atI_map (R := pZ) (value_at (hc f hf)))) (ev_var hx 4))) (fun _ => st_last (ss_ret ev_bl)) (by walk_at "fg")
  · rw [any_not_all h]
  · rw [not_any_all h]
    exact st_last (ss_ret ev_bl)
end
end IX
end

section
set_option Elab.async false
set_option linter.all false
set_option maxRecDepth 100000
set_option maxHeartbeats 2000000
namespace IX
open PySem PySem.Spec PyProof.Rows L2
local macro_rules | `(tactic| walk_at "fg") => `(tactic| repeat (first | exact All2.nil | exact Fg.refl _ | refine All2.cons (by first | exact Or.inl rfl | exact Or.inr rfl) ?_))
section
variable {P : Program} {w : World} {K : PySem.W.Frag} {mg : Str → Option Value} {base : Heap} {T : List (Addr × Str)}
/-! ### equal_columns -/
def sEqual (K : PySem.W.Frag) (ps : List Pm) (R : Pm) : Prop := ∃ q : VaidxBase.Question, q.filters.length ≤ 4 ∧ ps = [pQ K q] ∧ R = pZs (Vaidxe.equals q)
theorem sc2 : FnScope ["question", "column", "low", "high"] ["question"] (defScope (top 2)) := ⟨rfl, rfl, rfl, by decide +kernel, rfl, by decide +kernel, by decide +kernel⟩
theorem isEqual_dec (f : VaidxBase.Filter) : decide ((f.lo : Int) = (f.hi : Int)) = VaidxBase.isEqual f := by
  unfold VaidxBase.isEqual
  by_cases h : f.lo = f.hi
  · rw [h, decide_eq_true rfl]
    exact (beq_self_eq_true _).symm
  · rw [decide_eq_false (by omega)]
    exact (beq_eq_false_iff_ne.mpr h).symm
theorem ok_equal (E : Tp T K mg base) : DefOk P w K mg base T 1 "equal_columns" ["question"] (sEqual K) := by
  refine def_ok E E.g_equal_columns E.d_equal_columns sc2 (fun _ _ _ _ _ _ us hl => match us, hl with | [_], _ => rfl) (fun ps R ⟨_, _, h, _⟩ => by rw [h]; rfl) ?_
  rintro X A0 H0 ps R hx hf ⟨q, hn, rfl, rfl⟩
  refine st_last (ss_ret ((ev_lc (R := pFil) (S := fun f => pZ f.col) (xs := q.filters) hx [("column", 1), ("low", 2), ("high", 3)] VaidxBase.isEqual (small_size (by omega)) (f_filters E hx (ev_var hx 0))
    (fun f hf => ⟨_, fun X' hx' => tg_tup3 hx' 1 2 3, fun X' hx' => .one ((evt_eq (ev_var hx' 2) (ev_var hx' 3)).eq (isEqual_dec f)), fun _ X' hx' => ev_var hx' 1⟩)).eq ?_))
  unfold Vaidxe.equals
  rw [pZs, pLs, List.map_map]
  rfl
/-! ### columns_without -/
def without (cs os : List Nat) : List Nat := cs.filter fun c => !os.contains c
def sWithout (ps : List Pm) (R : Pm) : Prop := ∃ cs os : List Nat, cs.length ≤ 1000 ∧ ps = [pZs cs, pZs os] ∧ R = pZs (without cs os)
theorem sc5 : FnScope ["columns", "others", "column"] ["columns", "others"] (defScope (top 5)) := ⟨rfl, rfl, rfl, by decide +kernel, rfl, by decide +kernel, by decide +kernel⟩
theorem ok_without (E : Tp T K mg base) : DefOk P w K mg base T 1 "columns_without" ["columns", "others"] sWithout := by
  refine def_ok E E.g_columns_without E.d_columns_without sc5 (fun _ _ _ _ _ _ us hl => match us, hl with | [_, _], _ => rfl) (fun ps R ⟨_, _, _, h, _⟩ => by rw [h]; rfl) ?_
  rintro X A0 H0 ps R hx hf ⟨cs, os, hn, rfl, rfl⟩
  refine st_last (ss_ret (ev_lc (R := pZ) (S := pZ) (xs := cs) hx [("column", 2)] (fun c => !os.contains c) (small_size (by omega)) (ev_var hx 0)
    (fun c hc => ⟨_, fun X' hx' => tg_name hx' 2, fun X' hx' => .one ((evt_notIn (ns := zs os) (ev_var hx' 2) ((ev_var hx' 1 (R := pZs os)).eq (pZs_ints os))).eq (by rw [cast_mem])), fun _ X' hx' => ev_var hx' 2⟩)))
/-! ### each_once -/
def onceF (l : List Nat) (c : Nat) : List Nat := if l.contains c then l else l ++ [c]
def onceL (cs : List Nat) : List Nat := cs.foldl onceF []
def sOnce (ps : List Pm) (R : Pm) : Prop := ∃ cs : List Nat, cs.length ≤ 1000 ∧ ps = [pZs cs] ∧ R = pZs (onceL cs)
theorem onceF_len (l : List Nat) (c : Nat) : (onceF l c).length ≤ l.length + 1 := by
  unfold onceF
  split
  · omega
  · rw [List.length_append]; simp
theorem sc3 : FnScope ["columns", "out", "column"] ["columns"] (defScope (top 3)) := ⟨rfl, rfl, rfl, by decide +kernel, rfl, by decide +kernel, by decide +kernel⟩
theorem ok_once (E : Tp T K mg base) : DefOk P w K mg base T 1 "each_once" ["columns"] sOnce := by
  refine def_ok E E.g_each_once E.d_each_once sc3 (fun _ _ _ _ _ _ us hl => match us, hl with | [_], _ => rfl) (fun ps R ⟨_, _, h, _⟩ => by rw [h]; rfl) ?_
  rintro X A0 H0 ps R hx hf ⟨cs, hn, rfl, rfl⟩
  refine st_seq (ss_setM hx hf 1 evs_nil) (st_fold (R := pZ) (xs := cs) hx (fun l => [.im (pZs cs), .mu (l.map pZ), .un]) onceF (fun i l => l.length ≤ i) [] (ev_var hx 0) (Fg.refl _) (Nat.le_refl _) (fun i l c hc hl => ⟨?_, ?_⟩) fun _ => st_last (ss_retM hx 1))
  · have := onceF_len l c
    omega
  · have hi := lt_of_get hc
    refine ⟨_, _, tg_name hx 2, ?_⟩
    refine st_seq (ss_if (x := !l.contains c) ((evt_notInM (ns := zs l) hx 1 (ev_var hx 2) (hg' := by rw [mu_Z]; rfl)).eq (by rw [cast_mem])) (fun h => st_seq (ss_app (ps := l.map pZ) hx 1 (ev_var hx 2 (R := pZ c)) (oneMu_of rfl) (small_lt (by rw [List.length_map]; omega))) (st_end ?_)) fun h => st_end ?_) st_nil
    · have h' : l.contains c = false := by simpa using h
      unfold onceF
      rw [h', if_neg Bool.false_ne_true, List.map_append]
      walk_at "fg"
    · have h' : l.contains c = true := by simpa using h
      unfold onceF
      rw [h', if_pos rfl]
      walk_at "fg"
/-! ### needed_columns -/
def sNeeded (K : PySem.W.Frag) (ps : List Pm) (R : Pm) : Prop := ∃ q : VaidxBase.Question, q.filters.length ≤ 4 ∧ q.order.length ≤ 4 ∧ q.wants.length ≤ 4 ∧ ps = [pQ K q] ∧ R = pZs (onceL (VaidxBase.needed q))
theorem sc4 : FnScope ["question", "filtered", "pick"] ["question"] (defScope (top 4)) := ⟨rfl, rfl, rfl, by decide +kernel, rfl, by decide +kernel, by decide +kernel⟩
theorem ok_needed (E : Tp T K mg base) : DefOk P w K mg base T 2 "needed_columns" ["question"] (sNeeded K) := by
  refine def_ok E E.g_needed_columns E.d_needed_columns sc4 (fun _ _ _ _ _ _ us hl => match us, hl with | [_], _ => rfl) (fun ps R ⟨_, _, _, _, h, _⟩ => by rw [h]; rfl) ?_
  rintro X A0 H0 ps R hx hf ⟨q, h1, h2, h3, rfl, rfl⟩
  refine st_seq (ss_setLc (R := pFil) (S := fun f => pZ f.col) (xs := q.filters) hx 1 [("pick", 2)] (fun _ => true) (small_size (by omega)) (f_filters E hx (ev_var hx 0))
    (fun f hf => ⟨_, fun X' hx' => tg_name hx' 2, fun X' hx' => .nil, fun _ X' hx' => ev_ixT (ev_var hx' 2) ev_int rfl⟩)) ?_
  have e : (q.filters.filter fun _ => true).map (fun f => pZ f.col) = (q.filters.map fun f => f.col).map pZ := by
    rw [List.filter_eq_self.mpr (fun _ _ => rfl), List.map_map]
    rfl
  rw [e]
  refine st_last (ss_ret (ev_call hx (ok_once E) (evs_cons (ev_cat ?_ (ev_cat ?_ (ev_var hx 1) (f_order E hx (ev_var hx 0))) (f_wanted E hx (ev_var hx 0))) evs_nil) ⟨VaidxBase.needed q, ?_, ?_, rfl⟩))
  · refine small_size ?_
    simp only [List.length_append, List.length_map]
    omega
  · refine small_size ?_
    simp only [List.length_map]
    omega
  · unfold VaidxBase.needed
    simp only [List.length_append, List.length_map]
    omega
  · unfold VaidxBase.needed
    rw [← List.map_append, ← List.map_append, List.append_assoc]
/-! ### own_columns -/
def sOwn (K : PySem.W.Frag) (ps : List Pm) (R : Pm) : Prop := ∃ o : Vaidxd.Offer, o.index.keys.length ≤ 100 ∧ o.index.others.length ≤ 100 ∧ ps = [pX K o] ∧ R = pZs (VaidxBase.columnsOf o.index)
theorem sc6 : FnScope ["index"] ["index"] (defScope (top 6)) := ⟨rfl, rfl, rfl, by decide +kernel, rfl, by decide +kernel, by decide +kernel⟩
theorem ok_own (E : Tp T K mg base) : DefOk P w K mg base T 1 "own_columns" ["index"] (sOwn K) := by
  refine def_ok E E.g_own_columns E.d_own_columns sc6 (fun _ _ _ _ _ _ us hl => match us, hl with | [_], _ => rfl) (fun ps R ⟨_, _, _, h, _⟩ => by rw [h]; rfl) ?_
  rintro X A0 H0 ps R hx hf ⟨o, h1, h2, rfl, rfl⟩
  refine st_last (ss_ret ((ev_cat (small_size ?_) (f_keys E hx (ev_var hx 0)) (f_included E hx (ev_var hx 0))).eq ?_))
  · simp only [List.length_map]
    omega
  · unfold VaidxBase.columnsOf
    rw [pZs, pLs, List.map_append]
end
end IX
end

section
set_option Elab.async false
set_option linter.all false
set_option maxRecDepth 100000
set_option maxHeartbeats 2000000
namespace IX
open PySem PySem.Spec PyProof.Rows L2
local macro_rules | `(tactic| walk_at "fg") => `(tactic| repeat (first | exact All2.nil | exact Fg.refl _ | refine All2.cons (by first | exact Or.inl rfl | exact Or.inr rfl) ?_))
theorem filter_true {α : Type} (xs : List α) : (xs.filter fun _ => true) = xs := List.filter_eq_self.mpr fun _ _ => rfl
theorem dec_nat_eq (a b : Nat) : decide ((a : Int) = (b : Int)) = decide (a = b) := decide_eq_decide.mpr (by omega)
theorem dec_nat_le (a b : Nat) : decide ((a : Int) ≤ (b : Int)) = decide (a ≤ b) := decide_eq_decide.mpr (by omega)
theorem dec_nat_lt (a b : Nat) : decide ((a : Int) < (b : Int)) = decide (a < b) := decide_eq_decide.mpr (by omega)
theorem cutP_take (ps : List Pm) (n : Nat) : cutP ps none (some (n : Int)) = ps.take n := by
  unfold cutP
  rw [HT.sIx_none, HT.sIx_nat, List.drop_zero, Nat.sub_zero]
  by_cases h : n ≤ ps.length
  · rw [Nat.min_eq_left h]
  · rw [Nat.min_eq_right (by omega), List.take_length, List.take_of_length_le (by omega)]
theorem dp_nats (xs : List Nat) : DpOf (pZs xs) (dIs (zs xs)) := by
  rw [pZs_ints]
  exact dp_ints _
theorem zs_inj (xs ys : List Nat) : decide (zs xs = zs ys) = decide (xs = ys) := by
  refine decide_eq_decide.mpr ⟨fun h => ?_, fun h => by rw [h]⟩
  have := congrArg (List.map Int.toNat) h
  simpa [zs, List.map_map, Function.comp_def] using this
section
variable {P : Program} {w : World} {K : PySem.W.Frag} {mg : Str → Option Value} {base : Heap} {T : List (Addr × Str)}
/-! ### is_within_condition -/
def withinC (f : VaidxBase.Filter) (q : VaidxBase.Question) : Bool := q.filters.any fun g => decide (g.col = f.col) && (decide (f.lo ≤ g.lo) && decide (g.hi ≤ f.hi))
def sWithin (K : PySem.W.Frag) (ps : List Pm) (R : Pm) : Prop := ∃ (f : VaidxBase.Filter) (q : VaidxBase.Question), ps = [pFil f, pQ K q] ∧ R = pB (withinC f q)
theorem sc7 : FnScope ["condition", "question", "column", "low", "high", "mine", "begin", "end"] ["condition", "question"] (defScope (top 7)) := ⟨rfl, rfl, rfl, by decide +kernel, rfl, by decide +kernel, by decide +kernel⟩
theorem ok_within (E : Tp T K mg base) : DefOk P w K mg base T 1 "is_within_condition" ["condition", "question"] (sWithin K) := by
  refine def_ok E E.g_is_within_condition E.d_is_within_condition sc7 (fun _ _ _ _ _ _ us hl => match us, hl with | [_, _], _ => rfl) (fun ps R ⟨_, _, h, _⟩ => by rw [h]; rfl) ?_
  rintro X A0 H0 ps R hx hf ⟨f, q, rfl, rfl⟩
  refine st_seq (ss_asg (R := pFil f) (ev_var hx 0) (tg_tup3 hx 2 3 4)) ?_
  refine st_search (R := pFil) (xs := q.filters) (R2 := pB true) hx (fun g => decide (g.col = f.col) && (decide (f.lo ≤ g.lo) && decide (g.hi ≤ f.hi))) [.im (pFil f), .im (pQ K q), .im (pZ f.col), .im (pZ f.lo), .im (pZ f.hi), .un, .un, .un]
    (f_filters E hx (ev_var hx 1)) (by walk_at "fg") (fun g hg => ⟨_, _, tg_tup3 hx 5 6 7, ?_⟩) (fun h => ?_) fun h => ?_
  · exact st_ifx (evt_and3 ((evt_eq (ev_var hx 5) (ev_var hx 2)).eq (dec_nat_eq _ _)) (fun _ => (evt_le (ev_var hx 3) (ev_var hx 6)).eq (dec_nat_le _ _)) fun _ _ => (evt_le (ev_var hx 7) (ev_var hx 4)).eq (dec_nat_le _ _)) (fun _ => st_last (ss_ret ev_bl)) (by walk_at "fg")
  · unfold withinC
    rw [h]
  · unfold withinC
    rw [h]
    exact st_last (ss_ret ev_bl)
/-! ### serves -/
def servesB (i : VaidxBase.Index) (q : VaidxBase.Question) : Bool := i.only.toList.all fun f => withinC f q
def sServes (K : PySem.W.Frag) (ps : List Pm) (R : Pm) : Prop := ∃ (o : Vaidxd.Offer) (q : VaidxBase.Question), ps = [pX K o, pQ K q] ∧ R = pB (servesB o.index q)
theorem sc8 : FnScope ["index", "question", "condition"] ["index", "question"] (defScope (top 8)) := ⟨rfl, rfl, rfl, by decide +kernel, rfl, by decide +kernel, by decide +kernel⟩
theorem only_len (i : VaidxBase.Index) : i.only.toList.length ≤ 1 := by
  cases i.only <;> simp
theorem ok_serves (E : Tp T K mg base) : DefOk P w K mg base T 2 "serves" ["index", "question"] (sServes K) := by
  refine def_ok E E.g_serves E.d_serves sc8 (fun _ _ _ _ _ _ us hl => match us, hl with | [_, _], _ => rfl) (fun ps R ⟨_, _, h, _⟩ => by rw [h]; rfl) ?_
  rintro X A0 H0 ps R hx hf ⟨o, q, rfl, rfl⟩
  have hl := only_len o.index
  refine st_last (ss_ret ((ev_all (bs := o.index.only.toList.map fun f => withinC f q) hx E.b_all ((ev_lc (R := pFil) (S := fun f => pB (withinC f q)) (xs := o.index.only.toList) hx [("condition", 2)] (fun _ => true) (small_size (by omega)) (f_conditions E hx (ev_var hx 0))
    (fun f hf => ⟨_, fun X' hx' => tg_name hx' 2, fun X' hx' => .nil, fun _ X' hx' => ev_call hx' (ok_within E) (evs_cons (ev_var hx' 2) (evs_cons (ev_var hx' 1) evs_nil)) ⟨f, q, rfl, rfl⟩⟩)).eq ?_)).eq ?_))
  · rw [filter_true, List.map_map]
    rfl
  · unfold servesB
    rw [List.all_map]
    rfl
/-! ### covers -/
def coversB (i : VaidxBase.Index) (q : VaidxBase.Question) : Bool := decide ((without (onceL (VaidxBase.needed q)) (VaidxBase.columnsOf i)).length = 0)
def sCovers (K : PySem.W.Frag) (ps : List Pm) (R : Pm) : Prop := ∃ (o : Vaidxd.Offer) (q : VaidxBase.Question), o.index.keys.length ≤ 100 ∧ o.index.others.length ≤ 100 ∧ q.filters.length ≤ 4 ∧ q.order.length ≤ 4 ∧ q.wants.length ≤ 4 ∧ ps = [pX K o, pQ K q] ∧ R = pB (coversB o.index q)
theorem sc9 : FnScope ["index", "question"] ["index", "question"] (defScope (top 9)) := ⟨rfl, rfl, rfl, by decide +kernel, rfl, by decide +kernel, by decide +kernel⟩
theorem foldl_onceF_len : ∀ (cs acc : List Nat), (cs.foldl onceF acc).length ≤ acc.length + cs.length
  | [], acc => Nat.le_refl _
  | c :: r, acc => by
    have h := foldl_onceF_len r (onceF acc c)
    have h2 := onceF_len acc c
    rw [List.foldl_cons, List.length_cons]
    omega
theorem onceL_len (cs : List Nat) : (onceL cs).length ≤ cs.length := by
  have := foldl_onceF_len cs []
  simpa [onceL] using this
theorem needed_len {q : VaidxBase.Question} (h1 : q.filters.length ≤ 4) (h2 : q.order.length ≤ 4) (h3 : q.wants.length ≤ 4) : (VaidxBase.needed q).length ≤ 12 := by
  unfold VaidxBase.needed
  simp only [List.length_append, List.length_map]
  omega
theorem ok_covers (E : Tp T K mg base) : DefOk P w K mg base T 3 "covers" ["index", "question"] (sCovers K) := by
  refine def_ok E E.g_covers E.d_covers sc9 (fun _ _ _ _ _ _ us hl => match us, hl with | [_, _], _ => rfl) (fun ps R ⟨_, _, _, _, _, _, _, h, _⟩ => by rw [h]; rfl) ?_
  rintro X A0 H0 ps R hx hf ⟨o, q, h1, h2, h3, h4, h5, rfl, rfl⟩
  have hn := needed_len h3 h4 h5
  have ho := onceL_len (VaidxBase.needed q)
  refine st_last (ss_ret ((ev_eq (ev_len hx E.b_len (ev_call hx (ok_without E) (evs_cons (ev_call hx (ok_needed E) (evs_cons (ev_var hx 1) evs_nil) ⟨q, h3, h4, h5, rfl, rfl⟩) (evs_cons (ev_call hx (ok_own E) (evs_cons (ev_var hx 0) evs_nil) ⟨o, h1, h2, rfl, rfl⟩) evs_nil)) ⟨_, _, by omega, rfl, rfl⟩)) ev_int).eq ?_))
  unfold coversB
  rw [List.length_map]
  congr 1
  exact decide_eq_decide.mpr (by omega)
/-! ### range_columns -/
def rangeCols (eq : List Nat) : List Nat → List Nat
  | [] => []
  | c :: r => c :: if eq.contains c then rangeCols eq r else []
theorem rangeCols_all {eq : List Nat} : ∀ {ks : List Nat}, ks.all eq.contains = true → rangeCols eq ks = ks
  | [], _ => rfl
  | c :: r, h => by
    rw [List.all_cons, Bool.and_eq_true] at h
    unfold rangeCols
    rw [if_pos h.1, rangeCols_all h.2]
theorem rangeCols_at {eq : List Nat} : ∀ {ks : List Nat} {j c : Nat}, ks[j]? = some c → eq.contains c = false → (∀ (i y : Nat), i < j → ks[i]? = some y → eq.contains y = true) → rangeCols eq ks = ks.take (j + 1)
  | [], _, _, h, _, _ => by simp at h
  | d :: r, 0, c, h, hc, _ => by
    have e : d = c := Option.some.inj h
    subst e
    unfold rangeCols
    rw [hc, if_neg Bool.false_ne_true]
    rfl
  | d :: r, j + 1, c, h, hc, hl => by
    unfold rangeCols
    rw [if_pos (hl 0 d (Nat.succ_pos _) rfl), rangeCols_at (ks := r) (j := j) h hc fun i y hi hy => hl (i + 1) y (Nat.succ_lt_succ hi) hy]
    rfl
def sRangeC (ps : List Pm) (R : Pm) : Prop := ∃ ks eq : List Nat, ks.length ≤ 1000 ∧ ps = [pZs ks, pZs eq] ∧ R = pZs (rangeCols eq ks)
theorem sc10 : FnScope ["key_columns", "equal", "out", "column"] ["key_columns", "equal"] (defScope (top 10)) := ⟨rfl, rfl, rfl, by decide +kernel, rfl, by decide +kernel, by decide +kernel⟩
theorem take_map {α : Type} (R : α → Pm) {xs : List α} {i : Nat} {x : α} (h : xs[i]? = some x) : (xs.take (i + 1)).map R = (xs.take i).map R ++ [R x] := by
  rw [List.take_add_one, h, List.map_append]
  rfl
theorem ok_rangeC (E : Tp T K mg base) : DefOk P w K mg base T 1 "range_columns" ["key_columns", "equal"] sRangeC := by
  refine def_ok E E.g_range_columns E.d_range_columns sc10 (fun _ _ _ _ _ _ us hl => match us, hl with | [_, _], _ => rfl) (fun ps R ⟨_, _, _, h, _⟩ => by rw [h]; rfl) ?_
  rintro X A0 H0 ps R hx hf ⟨ks, eq, hn, rfl, rfl⟩
  refine st_seq (ss_setM hx hf 2 evs_nil) ?_
  have turn : ∀ (i : Nat) (c : Nat) (b : Bool) (out : Out) (body : List Stmt), True := fun _ _ _ _ _ => trivial
  rcases all_or_first eq.contains ks with h | ⟨j, c, hj, hp, hlt⟩
  · rw [rangeCols_all h]
    refine st_seq ((ss_for (xs := ks.map pZ) hx (fun i => [.im (pZs ks), .im (pZs eq), .mu ((ks.take i).map pZ), .un]) (ev_var hx 0) (Fg.refl _) fun i R hR => ?_).nx (by rw [List.length_map, List.take_length])) (st_last (ss_retM hx 2))
    obtain ⟨c, hc, rfl⟩ := get_map hR
    have hi := lt_of_get hc
    refine ⟨_, _, tg_name hx 3, st_seq (ss_app (ps := (ks.take i).map pZ) hx 2 (ev_var hx 3 (R := pZ c)) (oneMu_of rfl) (small_lt (by rw [List.length_map, List.length_take]; omega))) (st_if0 ((evt_notIn (ns := zs eq) (ev_var hx 3) ((ev_var hx 1 (R := pZs eq)).eq (pZs_ints eq))).eq ?_) (st_end ?_))⟩
    · rw [cast_mem, List.all_eq_true.mp h c (List.mem_of_getElem? hc)]
      rfl
    · rw [take_map pZ hc]
      walk_at "fg"
  · rw [rangeCols_at hj hp hlt]
    refine st_last (ss_for_rt (xs := ks.map pZ) hx (fun i => [.im (pZs ks), .im (pZs eq), .mu ((ks.take i).map pZ), .un]) j (by rw [List.length_map]; exact lt_of_get hj) (ev_var hx 0) (Fg.refl _) (fun i R hi' hR => ?_) fun R hR => ?_)
    · obtain ⟨c, hc, rfl⟩ := get_map hR
      have hi := lt_of_get hc
      refine ⟨_, _, tg_name hx 3, st_seq (ss_app (ps := (ks.take i).map pZ) hx 2 (ev_var hx 3 (R := pZ c)) (oneMu_of rfl) (small_lt (by rw [List.length_map, List.length_take]; omega))) (st_if0 ((evt_notIn (ns := zs eq) (ev_var hx 3) ((ev_var hx 1 (R := pZs eq)).eq (pZs_ints eq))).eq ?_) (st_end ?_))⟩
      · rw [cast_mem, hlt i c hi' hc]
        rfl
      · rw [take_map pZ hc]
        walk_at "fg"
    · obtain ⟨c', hc, rfl⟩ := get_map hR
      rw [hj] at hc
      cases hc
      have hi := lt_of_get hj
      refine ⟨_, _, tg_name hx 3, st_seq (ss_app (ps := (ks.take j).map pZ) hx 2 (ev_var hx 3 (R := pZ c)) (oneMu_of rfl) (small_lt (by rw [List.length_map, List.length_take]; omega))) (st_if1 ((evt_notIn (ns := zs eq) (ev_var hx 3) ((ev_var hx 1 (R := pZs eq)).eq (pZs_ints eq))).eq ?_) (st_last ((ss_retM hx 2).rt ?_)))⟩
      · rw [cast_mem, hp]
        rfl
      · rw [← take_map pZ hj]
/-! ### range_filters, own_filters -/
def rangeF (i : VaidxBase.Index) (q : VaidxBase.Question) : List VaidxBase.Filter := q.filters.filter fun f => (rangeCols (Vaidxe.equals q) i.keys).contains f.col
def sRangeF (K : PySem.W.Frag) (ps : List Pm) (R : Pm) : Prop := ∃ (o : Vaidxd.Offer) (q : VaidxBase.Question), o.index.keys.length ≤ 100 ∧ q.filters.length ≤ 4 ∧ ps = [pX K o, pQ K q] ∧ R = pLs pFil (rangeF o.index q)
theorem sc11 : FnScope ["index", "question", "columns", "pick"] ["index", "question"] (defScope (top 11)) := ⟨rfl, rfl, rfl, by decide +kernel, rfl, by decide +kernel, by decide +kernel⟩
theorem ok_rangeF (E : Tp T K mg base) : DefOk P w K mg base T 2 "range_filters" ["index", "question"] (sRangeF K) := by
  refine def_ok E E.g_range_filters E.d_range_filters sc11 (fun _ _ _ _ _ _ us hl => match us, hl with | [_, _], _ => rfl) (fun ps R ⟨_, _, _, _, h, _⟩ => by rw [h]; rfl) ?_
  rintro X A0 H0 ps R hx hf ⟨o, q, h1, h2, rfl, rfl⟩
  refine st_seq (ss_set hx hf 2 (ev_call hx (ok_rangeC E) (evs_cons (f_keys E hx (ev_var hx 0)) (evs_cons (ev_call hx (ok_equal E) (evs_cons (ev_var hx 1) evs_nil) ⟨q, h2, rfl, rfl⟩) evs_nil)) ⟨_, _, by omega, rfl, rfl⟩)) ?_
  exact st_last (ss_ret (ev_lc (R := pFil) (S := pFil) (xs := q.filters) hx [("pick", 3)] (fun f => (rangeCols (Vaidxe.equals q) o.index.keys).contains f.col) (small_size (by omega)) (f_filters E hx (ev_var hx 1))
    (fun f hf => ⟨_, fun X' hx' => tg_name hx' 3, fun X' hx' => .one ((evt_in (ns := zs (rangeCols (Vaidxe.equals q) o.index.keys)) (ev_ixT (ev_var hx' 3) ev_int rfl) ((ev_var hx' 2 (R := pZs _)).eq (pZs_ints _))).eq (by rw [cast_mem])), fun _ X' hx' => ev_var hx' 3⟩)))
def ownF (i : VaidxBase.Index) (q : VaidxBase.Question) : List VaidxBase.Filter := q.filters.filter fun f => (VaidxBase.columnsOf i).contains f.col
def sOwnF (K : PySem.W.Frag) (ps : List Pm) (R : Pm) : Prop := ∃ (o : Vaidxd.Offer) (q : VaidxBase.Question), o.index.keys.length ≤ 100 ∧ o.index.others.length ≤ 100 ∧ q.filters.length ≤ 4 ∧ ps = [pX K o, pQ K q] ∧ R = pLs pFil (ownF o.index q)
theorem sc12 : FnScope ["index", "question", "columns", "pick"] ["index", "question"] (defScope (top 12)) := ⟨rfl, rfl, rfl, by decide +kernel, rfl, by decide +kernel, by decide +kernel⟩
theorem ok_ownF (E : Tp T K mg base) : DefOk P w K mg base T 2 "own_filters" ["index", "question"] (sOwnF K) := by
  refine def_ok E E.g_own_filters E.d_own_filters sc12 (fun _ _ _ _ _ _ us hl => match us, hl with | [_, _], _ => rfl) (fun ps R ⟨_, _, _, _, _, h, _⟩ => by rw [h]; rfl) ?_
  rintro X A0 H0 ps R hx hf ⟨o, q, h1, h3, h2, rfl, rfl⟩
  refine st_seq (ss_set hx hf 2 (ev_call hx (ok_own E) (evs_cons (ev_var hx 0) evs_nil) ⟨o, h1, h3, rfl, rfl⟩)) ?_
  exact st_last (ss_ret (ev_lc (R := pFil) (S := pFil) (xs := q.filters) hx [("pick", 3)] (fun f => (VaidxBase.columnsOf o.index).contains f.col) (small_size (by omega)) (f_filters E hx (ev_var hx 1))
    (fun f hf => ⟨_, fun X' hx' => tg_name hx' 3, fun X' hx' => .one ((evt_in (ns := zs (VaidxBase.columnsOf o.index)) (ev_ixT (ev_var hx' 3) ev_int rfl) ((ev_var hx' 2 (R := pZs _)).eq (pZs_ints _))).eq (by rw [cast_mem])), fun _ X' hx' => ev_var hx' 3⟩)))
/-! ### is_free -/
def freeB (ks : List Nat) (q : VaidxBase.Question) : Bool := decide (without q.order (Vaidxe.equals q) = (without ks (Vaidxe.equals q)).take (without q.order (Vaidxe.equals q)).length)
def sFree (K : PySem.W.Frag) (ps : List Pm) (R : Pm) : Prop := ∃ (ks : List Nat) (q : VaidxBase.Question), ks.length ≤ 1000 ∧ q.filters.length ≤ 4 ∧ q.order.length ≤ 4 ∧ ps = [pZs ks, pQ K q] ∧ R = pB (freeB ks q)
theorem sc13 : FnScope ["key_columns", "question", "equal", "order", "lead"] ["key_columns", "question"] (defScope (top 13)) := ⟨rfl, rfl, rfl, by decide +kernel, rfl, by decide +kernel, by decide +kernel⟩
theorem ok_free (E : Tp T K mg base) : DefOk P w K mg base T 2 "is_free" ["key_columns", "question"] (sFree K) := by
  refine def_ok E E.g_is_free E.d_is_free sc13 (fun _ _ _ _ _ _ us hl => match us, hl with | [_, _], _ => rfl) (fun ps R ⟨_, _, _, _, _, h, _⟩ => by rw [h]; rfl) ?_
  rintro X A0 H0 ps R hx hf ⟨ks, q, h1, h2, h3, rfl, rfl⟩
  refine st_seq (ss_set hx hf 2 (ev_call hx (ok_equal E) (evs_cons (ev_var hx 1) evs_nil) ⟨q, h2, rfl, rfl⟩)) ?_
  refine st_seq (ss_set hx hf 3 (ev_call hx (ok_without E) (evs_cons (f_order E hx (ev_var hx 1)) (evs_cons (ev_var hx 2) evs_nil)) ⟨_, _, by omega, rfl, rfl⟩)) ?_
  refine st_seq (ss_set hx hf 4 (ev_call hx (ok_without E) (evs_cons (ev_var hx 0) (evs_cons (ev_var hx 2) evs_nil)) ⟨_, _, h1, rfl, rfl⟩)) ?_
  refine st_last (ss_ret (ev_eqD hx (dp_nats _) (dp_nats _) (dIs_shaped _) (dIs_shaped _) (by rw [eqv_ints, zs_inj]; rfl) (ev_var hx 3 (R := pZs _)) ((ev_slice (ev_var hx 4 (R := pZs _)) .no (.yes (ev_len hx E.b_len (ev_var hx 3 (R := pZs _))))).eq ?_)))
  rw [cutP_take, List.length_map, ← List.map_take]
/-! ### entry_groups, key_values -/
def entryG (t : VaidxBase.Table) (i : VaidxBase.Index) : List VaidxBase.Group := t.groups.filter fun g => i.only.toList.all (VaidxBase.passes g.row)
def sEntry (K : PySem.W.Frag) (ps : List Pm) (R : Pm) : Prop := ∃ (t : VaidxBase.Table) (o : Vaidxd.Offer), t.groups.length ≤ 12 ∧ (∀ g ∈ t.groups, ∀ f ∈ o.index.only.toList, f.col < g.row.length) ∧ ps = [pTab K t, pX K o] ∧ R = pLs pGrp (entryG t o.index)
theorem sc14 : FnScope ["table", "index", "group"] ["table", "index"] (defScope (top 14)) := ⟨rfl, rfl, rfl, by decide +kernel, rfl, by decide +kernel, by decide +kernel⟩
theorem ok_entry (E : Tp T K mg base) : DefOk P w K mg base T 2 "entry_groups" ["table", "index"] (sEntry K) := by
  refine def_ok E E.g_entry_groups E.d_entry_groups sc14 (fun _ _ _ _ _ _ us hl => match us, hl with | [_, _], _ => rfl) (fun ps R ⟨_, _, _, _, h, _⟩ => by rw [h]; rfl) ?_
  rintro X A0 H0 ps R hx hf ⟨t, o, h1, h2, rfl, rfl⟩
  exact st_last (ss_ret (ev_lc (R := pGrp) (S := pGrp) (xs := t.groups) hx [("group", 2)] (fun g => o.index.only.toList.all (VaidxBase.passes g.row)) (small_size (by omega)) (f_groups E hx (ev_var hx 0))
    (fun g hg => ⟨_, fun X' hx' => tg_name hx' 2, fun X' hx' => .one (evt_val (ev_call hx' (ok_passes E) (evs_cons (ev_ixT (ev_var hx' 2) ev_int rfl) (evs_cons (f_conditions E hx' (ev_var hx' 1)) evs_nil)) ⟨g.row, _, h2 g hg, rfl, rfl⟩)), fun _ X' hx' => ev_var hx' 2⟩)))
def sKeyV (ps : List Pm) (R : Pm) : Prop := ∃ row ks : List Nat, ks.length ≤ 1000 ∧ (∀ c ∈ ks, c < row.length) ∧ ps = [pZs row, pZs ks] ∧ R = pZs (ks.map (VaidxBase.valueAt row))
theorem sc15 : FnScope ["values", "key_columns", "column"] ["values", "key_columns"] (defScope (top 15)) := ⟨rfl, rfl, rfl, by decide +kernel, rfl, by decide +kernel, by decide +kernel⟩
theorem ok_keyV (E : Tp T K mg base) : DefOk P w K mg base T 1 "key_values" ["values", "key_columns"] sKeyV := by
  refine def_ok E E.g_key_values E.d_key_values sc15 (fun _ _ _ _ _ _ us hl => match us, hl with | [_, _], _ => rfl) (fun ps R ⟨_, _, _, _, h, _⟩ => by rw [h]; rfl) ?_
  rintro X A0 H0 ps R hx hf ⟨row, ks, h1, h2, rfl, rfl⟩
  refine st_last (ss_ret ((ev_lc (R := pZ) (S := fun c => pZ (VaidxBase.valueAt row c)) (xs := ks) hx [("column", 2)] (fun _ => true) (small_size (by omega)) (ev_var hx 1)
    (fun c hc => ⟨_, fun X' hx' => tg_name hx' 2, fun X' hx' => .nil, fun _ X' hx' => ev_ixL (ev_var hx' 0) (ev_var hx' 2) (atI_map (R := pZ) (value_at (h2 c hc)))⟩)).eq ?_))
  rw [filter_true, pZs, pLs, List.map_map]
  rfl
end
end IX
end

section
set_option Elab.async false
set_option linter.all false
set_option maxRecDepth 100000
set_option maxHeartbeats 2000000
namespace IX
open PySem PySem.Spec PyProof.Rows L2
local macro_rules | `(tactic| walk_at "fg") => `(tactic| repeat (first | exact All2.nil | exact Fg.refl _ | refine All2.cons (by first | exact Or.inl rfl | exact Or.inr rfl) ?_))
/-! ### what stands within bounds -/
structure OkT (t : VaidxBase.Table) : Prop where
  c1 : 1 ≤ t.cols
  c4 : t.cols ≤ 4
  gl : t.groups.length ≤ 12
  row : ∀ g ∈ t.groups, g.row.length = t.cols
  cnt : ∀ g ∈ t.groups, g.count ≤ 1000000
structure OkQ (n : Nat) (q : VaidxBase.Question) : Prop where
  fl : q.filters.length ≤ 4
  ol : q.order.length ≤ 4
  wl : q.wants.length ≤ 4
  fc : ∀ f ∈ q.filters, f.col < n
  oc : ∀ c ∈ q.order, c < n
  wc : ∀ c ∈ q.wants, c < n
  nd : (q.filters.map fun f => f.col).Nodup
  li : q.limit ≤ 1000000
  ti : q.times ≤ 1000
structure OkO (n : Nat) (o : Vaidxd.Offer) : Prop where
  kl : o.index.keys.length ≤ 100
  il : o.index.others.length ≤ 100
  kc : ∀ c ∈ o.index.keys, c < n
  oc : ∀ f ∈ o.index.only.toList, f.col < n
  up : o.upkeep ≤ 1000000000
/-! ### touched_rows -/
def touchStep (lim : Bool) (fs : List VaidxBase.Filter) (s : Nat × List Nat) (g : VaidxBase.Group) : Nat × List Nat :=
  if lim && decide (s.1 = 0) then (s.1, s.2 ++ [0]) else if lim && fs.all (VaidxBase.passes g.row) then (s.1 - min g.count s.1, s.2 ++ [min g.count s.1]) else (s.1, s.2 ++ [g.count])
def touched (lim : Bool) (q : VaidxBase.Question) (gs : List VaidxBase.Group) : List Nat := (gs.foldl (touchStep lim q.filters) (q.limit, [])).2
def limB (free : Bool) (q : VaidxBase.Question) : Bool := free && decide (0 < q.limit)
theorem touch_len (lim : Bool) (fs : List VaidxBase.Filter) (s : Nat × List Nat) (g : VaidxBase.Group) : (touchStep lim fs s g).2.length = s.2.length + 1 := by
  unfold touchStep
  split
  · simp
  · split <;> simp
theorem touched_length : ∀ (lim : Bool) (fs : List VaidxBase.Filter) (gs : List VaidxBase.Group) (s : Nat × List Nat), (gs.foldl (touchStep lim fs) s).2.length = s.2.length + gs.length
  | _, _, [], _ => rfl
  | lim, fs, g :: r, s => by
    rw [List.foldl_cons, touched_length lim fs r, touch_len, List.length_cons]
    omega
theorem touched_len (lim : Bool) (q : VaidxBase.Question) (gs : List VaidxBase.Group) : (touched lim q gs).length = gs.length := by
  unfold touched
  rw [touched_length]
  simp
section
variable {P : Program} {w : World} {K : PySem.W.Frag} {mg : Str → Option Value} {base : Heap} {T : List (Addr × Str)}
def sTouch (K : PySem.W.Frag) (ps : List Pm) (R : Pm) : Prop := ∃ (gs : List VaidxBase.Group) (q : VaidxBase.Question) (fr : Bool), gs.length ≤ 12 ∧ (∀ g ∈ gs, ∀ f ∈ q.filters, f.col < g.row.length) ∧ ps = [pLs pGrp gs, pQ K q, pB fr] ∧ R = pZs (touched (limB fr q) q gs)
theorem sc17 : FnScope ["groups", "question", "free", "limited", "left", "out", "values", "rows"] ["groups", "question", "free"] (defScope (top 17)) := ⟨rfl, rfl, rfl, by decide +kernel, rfl, by decide +kernel, by decide +kernel⟩
theorem ok_touch (E : Tp T K mg base) : DefOk P w K mg base T 2 "touched_rows" ["groups", "question", "free"] (sTouch K) := by
  refine def_ok E E.g_touched_rows E.d_touched_rows sc17 (fun _ _ _ _ _ _ us hl => match us, hl with | [_, _, _], _ => rfl) (fun ps R ⟨_, _, _, _, _, h, _⟩ => by rw [h]; rfl) ?_
  rintro X A0 H0 ps R hx hf ⟨gs, q, fr, h1, h2, rfl, rfl⟩
  refine st_seq (ss_set hx hf 3 ((ev_and (ev_var hx 2) fun _ => ev_gt (f_limit E hx (ev_var hx 1)) ev_int).eq (R' := pB (limB fr q)) (by unfold limB; congr 2; exact decide_eq_decide.mpr (by omega)))) ?_
  refine st_seq (ss_set hx hf 4 (f_limit E hx (ev_var hx 1))) (st_seq (ss_setM hx hf 5 evs_nil) ?_)
  refine st_fold (R := pGrp) (xs := gs) hx (fun s : Nat × List Nat => [.im (pLs pGrp gs), .im (pQ K q), .im (pB fr), .im (pB (limB fr q)), .im (pZ s.1), .mu (s.2.map pZ), .un, .un]) (touchStep (limB fr q) q.filters) (fun i s => s.2.length ≤ i) (q.limit, []) (ev_var hx 0) (Fg.refl _) (Nat.le_refl _)
    (fun i s g hg hl => ⟨by rw [touch_len]; omega, ?_⟩) fun _ => st_last (ss_retM hx 5)
  have hi := lt_of_get hg
  have hz : s.2.length < sizeLine := small_lt (by omega)
  refine ⟨_, _, tg_tup2 hx 6 7 (R1 := pZs g.row) (R2 := pZ g.count), st_seq (Γ1 := [.im (pLs pGrp gs), .im (pQ K q), .im (pB fr), .im (pB (limB fr q)), .im (pZ (touchStep (limB fr q) q.filters s g).1), .mu ((touchStep (limB fr q) q.filters s g).2.map pZ), .un, .un])
    (ss_if (x := limB fr q && decide (s.1 = 0)) (evt_and (evt_val (ev_var hx 3)) fun _ => (evt_eq (ev_var hx 4) ev_int).eq (decide_eq_decide.mpr (by omega))) (fun hc => ?_) fun hc => ?_) st_nil⟩
  · refine st_seq (ss_app (ps := s.2.map pZ) (R := pZ 0) hx 5 ev_int (oneMu_of rfl) (by rw [List.length_map]; exact hz)) (st_end ?_)
    unfold touchStep
    rw [if_pos hc, List.map_append]
    walk_at "fg"
  · refine st_seq (Γ1 := [.im (pLs pGrp gs), .im (pQ K q), .im (pB fr), .im (pB (limB fr q)), .im (pZ (touchStep (limB fr q) q.filters s g).1), .mu ((touchStep (limB fr q) q.filters s g).2.map pZ), .un, .un]) (ss_if (x := limB fr q && q.filters.all (VaidxBase.passes g.row)) (evt_and (evt_val (ev_var hx 3)) fun _ => evt_val (ev_call hx (ok_passes E) (evs_cons (ev_var hx 6) (evs_cons (f_filters E hx (ev_var hx 1)) evs_nil)) ⟨g.row, _, h2 g (List.mem_of_getElem? hg), rfl, rfl⟩)) (fun hd => ?_) fun hd => ?_) st_nil
    · refine st_seq (ss_app (ps := s.2.map pZ) (R := pZ (min g.count s.1)) hx 5 ((ev_min2 hx E.b_min (ev_var hx 7) (ev_var hx 4)).eq (by show pI _ = pI _; congr 1; omega)) (oneMu_of rfl) (by rw [List.length_map]; exact hz)) ?_
      refine st_seq (ss_set hx hf 4 (R := pZ (s.1 - min g.count s.1)) ((ev_sub (ev_var hx 4) (ev_min2 hx E.b_min (ev_var hx 7) (ev_var hx 4))).eq (by show pI _ = pI _; congr 1; omega))) (st_end ?_)
      unfold touchStep
      rw [if_neg (by rw [hc]; decide), if_pos hd, List.map_append]
      walk_at "fg"
    · refine st_seq (ss_app (ps := s.2.map pZ) (R := pZ g.count) hx 5 (ev_var hx 7) (oneMu_of rfl) (by rw [List.length_map]; exact hz)) (st_end ?_)
      unfold touchStep
      rw [if_neg (by rw [hc]; decide), if_neg (by rw [hd]; decide), List.map_append]
      walk_at "fg"
/-! ### rows_passing -/
def rowsStep (fs : List VaidxBase.Filter) (s : Nat) (x : VaidxBase.Group × Nat) : Nat := if fs.all (VaidxBase.passes x.1.row) then s + x.2 else s
def rowsP (gs : List VaidxBase.Group) (ts : List Nat) (fs : List VaidxBase.Filter) : Nat := (gs.zip ts).foldl (rowsStep fs) 0
def sRows (ps : List Pm) (R : Pm) : Prop := ∃ (gs : List VaidxBase.Group) (ts : List Nat) (fs : List VaidxBase.Filter), gs.length = ts.length ∧ (∀ g ∈ gs, ∀ f ∈ fs, f.col < g.row.length) ∧ ps = [pLs pGrp gs, pZs ts, pLs pFil fs] ∧ R = pZ (rowsP gs ts fs)
theorem sc18 : FnScope ["groups", "touched", "filters", "total", "group", "rows"] ["groups", "touched", "filters"] (defScope (top 18)) := ⟨rfl, rfl, rfl, by decide +kernel, rfl, by decide +kernel, by decide +kernel⟩
theorem ok_rows (E : Tp T K mg base) : DefOk P w K mg base T 2 "rows_passing" ["groups", "touched", "filters"] sRows := by
  refine def_ok E E.g_rows_passing E.d_rows_passing sc18 (fun _ _ _ _ _ _ us hl => match us, hl with | [_, _, _], _ => rfl) (fun ps R ⟨_, _, _, _, _, h, _⟩ => by rw [h]; rfl) ?_
  rintro X A0 H0 ps R hx hf ⟨gs, ts, fs, h1, h2, rfl, rfl⟩
  refine st_seq (ss_set hx hf 3 (R := pZ 0) ev_int) ?_
  refine st_fold_zip (R := pGrp) (R' := pZ) (xs := gs) (ys := ts) hx E.b_zip (fun s : Nat => [.im (pLs pGrp gs), .im (pZs ts), .im (pLs pFil fs), .im (pZ s), .un, .un]) (rowsStep fs) (fun _ _ => True) 0 h1 (ev_var hx 0) (ev_var hx 1) (Fg.refl _) trivial
    (fun i s g n hg hn _ => ⟨trivial, ?_⟩) fun _ => st_last (ss_ret (ev_var hx 3))
  refine ⟨_, _, tg_tup2 hx 4 5, st_seq (Γ1 := [.im (pLs pGrp gs), .im (pZs ts), .im (pLs pFil fs), .im (pZ (rowsStep fs s (g, n))), .un, .un]) (ss_if (x := fs.all (VaidxBase.passes g.row)) (evt_val (ev_call hx (ok_passes E) (evs_cons (ev_ixT (ev_var hx 4 (R := pGrp g)) ev_int rfl) (evs_cons (ev_var hx 2) evs_nil)) ⟨g.row, _, h2 g (List.mem_of_getElem? hg), rfl, rfl⟩)) (fun hd => ?_) fun hd => ?_) st_nil⟩
  · refine st_seq (ss_set hx hf 3 (R := pZ (s + n)) ((ev_add (ev_var hx 3) (ev_var hx 5)).eq rfl)) (st_end ?_)
    unfold rowsStep
    rw [if_pos hd]
    walk_at "fg"
  · refine st_end ?_
    unfold rowsStep
    rw [if_neg (by rw [hd]; decide)]
    walk_at "fg"
end
end IX
end

section
set_option Elab.async false
set_option linter.all false
set_option maxRecDepth 100000
set_option maxHeartbeats 2000000
/-! sorted(xs, key=lambda ..): the lambda captures a name, the keys are lists of whole numbers -/
namespace IX
open PySem PySem.Spec PyProof.Rows L2
section
variable {X : Cx} {pins : List (Addr × Obj)} {σ : L2.St} {H : Hp} {s : Shared}
abbrev CXF : CXT := fun _ _ _ _ _ _ => False
/-- the lambda called -/
theorem lam_call {f : Addr} {F : NdefX.NF} {body : Expr} {pm ctv : Value} {N' ps' fr : List Str} {ws : List (Option V)} {us : List Value} {vs : List V} {k : Nat} {Q : VK} {E : Value → Shared → Prop} (I : Inv X pins σ H s)
    (hf : s.heap.get? f = some (PySem.W.kla_obj "<lambda>" F.qual F.params body F.scope F.cl pm F.c ctv)) (hc : H F.c = some (LamX.CodeO F.c F.qual)) (S : NdefX.NScope N' ps' fr F.scope)
    (hb : bindArgs (PySem.W.kla_fn "<lambda>" F.qual F.params body F.scope F.cl pm (.ref F.c) ctv) ⟨us, []⟩ = pure (ps'.zip us)) (C : NdefX.CellsAt F.cl fr ws s.heap H) (r : Vals vs us) (hl : vs.length = ps'.length) (hr : Room (k + 1) X.A.in1.in1)
    (hbody : cE (NdefX.ncx CXF X.prog X.w X.K X.mg X.base N' F f X.A.in1.in1 X.stack s H (fun _ _ _ => False)).nox body (NdefX.startF N' vs ws) H Q) :
    wpAny (model X.prog X.w) X.A.in1.in1 (call (.ref f) us) (EP X pins σ Q) E s := by
  have e0 : Env0 X.prog X.w X.K X.mg X.base X.A.in1.in1 X.stack s H := I.env0.in1.in1
  have lim : s.heap.NoLimit := e0.mod.nolimit.keeps fun b o e => (e0.bs b o e).1
  have rc : codeAny (model X.prog X.w) X.A.in1.in1 (.call (.ref f) ⟨us, []⟩) (CR CXF X.stack X.prog X.w H s Q (fun _ _ _ => False)) s := by
    refine PySem.W.kla_callFunE hr.depth hf rfl S.co S.gen rfl (NdefX.codeO_at e0.hok hc) ?_
    rw [hb]
    refine wpAny_pure (wpAny_newFunctionEnv S.nocell (fun ⟨n, _⟩ hy => S.par n (List.of_mem_zip hy).1) (fun h₁ hns hsb => ⟨lim.fresh _ hsb, ?_⟩) S.kind)
    show codeAny _ _ (.expr body (NdefX.envF F f s.heap.objs.size)) _ _
    have kp : ∀ b o, s.heap.get? b = some o → h₁.get? b = some o := fun b o e => hsb.extBut b o (Nat.ne_of_lt (Heap.lt_size e)) (Heap.get?_push_of_some _ e)
    have J := (NdefX.inv_startN (CX := CXF) (E := fun _ _ _ => False) (F := F) (f := f) (tk := s.toks + (ps'.zip us).length) S hr.hd e0 hl r C hns kp).wish (fun _ _ => False)
    refine PySem.W.kla_codeExpr (wpAny_mono (hbody [] _ J) (fun v s' hq => ?_) fun e s' hq => False.elim hq)
    obtain ⟨w', H', J', rv, q⟩ := hq
    exact ⟨w', H', J'.os, J'.bare, J'.base, J'.hok, rv, q⟩
  refine wpAny_call (codeAny_mono rc fun r s' hq => ?_)
  cases r with
  | error e => exact False.elim hq
  | ok fl =>
    cases fl with
    | ret u => exact I.after hq
    | next => exact False.elim hq
    | brk => exact False.elim hq
    | cont => exact False.elim hq
/-- a pinned object written -/
theorem inv_pin2 {pa : Addr × Obj} {kS : Addr} {o o' : Obj} {h' : Heap} {t' : Nat} (I : Inv X (pa :: (kS, o) :: pins) σ H s) (k : ∀ b u, b ≠ kS → s.heap.get? b = some u → h'.get? b = some u) (ho : h'.get? kS = some o') (hd : ∀ v, o'.data ≠ .cell v)
    (h0 : X.s_0.heap.objs.size ≤ kS) (hp : ∀ p ∈ X.pn ++ pa :: pins, p.1 ≠ kS) : Inv X (pa :: (kS, o') :: pins) σ H { s with heap := h', toks := t' } := by
  obtain ⟨e1, e2, e3, e4, e5⟩ := I.pin (kS, o) (List.mem_append_right _ (.tail _ (.head _)))
  have I1 : Inv X (pa :: pins) σ H s := I.pins_of fun p hp => I.pin p (List.mem_append_right _ (by
    rcases List.mem_cons.mp hp with z | z
    · rw [z]; exact .head _
    · exact .tail _ (.tail _ z)))
  have I2 : Inv X (pa :: pins) σ H { s with heap := h', toks := t' } := I1.turned k e2 e3 (.inr h0) (fun x c e z => ?_) hp
  · refine I2.pins_of fun p hp => ?_
    rcases List.mem_cons.mp hp with z | z
    · rw [z]
      exact I2.pin pa (List.mem_append_right _ (.head _))
    · rcases List.mem_cons.mp z with z | z
      · rw [z]
        exact ⟨ho, e2, e3, e4, hd⟩
      · exact I2.pin p (List.mem_append_right _ (.tail _ z))
  · obtain ⟨v, o1, h1, h2⟩ := I1.cell x c e
    rw [z, show s.heap.get? kS = some o from e1] at h1
    cases h1
    exact e5 v h2
/-- one pinned object is known from now on, the other is let go -/
theorem inv_two {a kS : Addr} {oa ok : Obj} {o : HO} {h' : Heap} {t' : Nat} (I : Inv X ((a, oa) :: (kS, ok) :: pins) σ H s) (k : ∀ b u, b ≠ a → b ≠ kS → s.heap.get? b = some u → h'.get? b = some u) (new : ObjOk X.prog X.w (upd H a o) h' a o)
    (h0 : X.s_0.heap.objs.size ≤ a ∧ X.s_0.heap.objs.size ≤ kS) (hp : ∀ p ∈ X.pn ++ pins, p.1 ≠ a ∧ p.1 ≠ kS) (hu : ∃ u, h'.get? a = some u) : Inv X pins σ (upd H a o) { s with heap := h', toks := t' } := by
  obtain ⟨a1, a2, a3, a4, a5⟩ := I.pin (a, oa) (List.mem_append_right _ (.head _))
  obtain ⟨e1, e2, e3, e4, e5⟩ := I.pin (kS, ok) (List.mem_append_right _ (.tail _ (.head _)))
  have a2 : H a = none := a2
  have e2 : H kS = none := e2
  have I1 : Inv X pins σ H s := I.pins_of fun p hp => I.pin p (List.mem_append_right _ (.tail _ (.tail _ hp)))
  have neA : ∀ b u, H b = some u → b ≠ a := fun b u e => ne_of_none e a2
  have neK : ∀ b u, H b = some u → b ≠ kS := fun b u e => ne_of_none e e2
  have mem : ∀ b, b ∉ [a, kS] → b ≠ a ∧ b ≠ kS := fun b hb => ⟨fun z => hb (by simp [z]), fun z => hb (by simp [z])⟩
  refine I1.step (g' := s.gens) (d' := s.drawn) (ch := [a, kS]) (fun b hb => ?_) (fun b o _ _ hc e _ => k b o (mem b hc).1 (mem b hc).2 e) (fun b o _ _ hc e _ => ⟨o.slots, k b o (mem b hc).1 (mem b hc).2 e⟩)
    (fun b o hc _ n => by rw [upd_ne (mem b hc).1]; exact n) (fun b o hc e => ⟨o, k b o (mem b hc).1 (mem b hc).2 e⟩) (fun b xs e => by rw [upd_ne (neA b _ e)]; exact e) (fun b o u e => by rw [upd_ne (neA b _ e)]; exact e)
    (fun b ps e => ⟨#[], by rw [upd_ne (neA b _ e), e]; simp⟩) (fun m hm => ?_) (fun b u e => ?_) I1.bare
  · have hb' : b = a ∨ b = kS := by simpa using hb
    have cellNe : ∀ (b : Addr) (ob : Obj), s.heap.get? b = some ob → (∀ v, ob.data ≠ .cell v) → ∀ x c, X.env.cells.lookup x = some c → c ≠ b := fun b ob hob hd x c e z => by
      obtain ⟨v, o1, h1, h2⟩ := I1.cell x c e
      rw [z, hob] at h1
      cases h1
      exact hd v h2
    rcases hb' with rfl | rfl
    · exact ⟨.inr h0.1, a3, cellNe _ _ a1 a5, fun p hq => (hp p hq).1⟩
    · exact ⟨.inr h0.2, e3, cellNe _ _ e1 e5, fun p hq => (hp p hq).2⟩
  · obtain ⟨o', es, ep, ho, r⟩ := hm
    exact ⟨o', es, ep, k _ o' (Ne.symm a3) (Ne.symm e3) ho, r⟩
  · by_cases hb : b = a
    · subst hb
      rw [upd_same] at e
      cases e
      exact new
    · rw [upd_ne hb] at e
      refine (I1.hok b u e).stay (fun c v hc q => ?_) (fun c q => by rw [upd_ne (neA c _ q)]; exact q) fun c xs q => by rw [upd_ne (neA c _ q)]; exact q
      rcases hc with z | z
      · subst z
        exact k _ v hb (neK _ _ e) q
      · exact k _ v (neA _ _ z) (neK _ _ z) q
end
end IX
end

section
set_option Elab.async false
set_option linter.all false
set_option maxRecDepth 100000
set_option maxHeartbeats 2000000
namespace IX
open PySem PySem.Spec PyProof.Rows L2
section
variable {P : Program} {w : World} {K : PySem.W.Frag} {mg : Str → Option Value} {base : Heap} {k : Nat} {N : List Str} {sc : Scope}
variable {X : Cx} {T : List (Addr × Str)} {pins : List (Addr × Obj)} {σ : L2.St} {A H : Hp} {s : Shared} {α : Type} {R : α → Pm} {key : α → List Int} {gs : List α}
/-- the items of the list as values -/
def Itm (A : Hp) (R : α → Pm) (v : Value) (g : α) : Prop := ∃ x, RelV x v ∧ (R g).p A x
theorem itm_of : ∀ {gs : List α} {xs : List V} {vs : List Value}, Vs A xs (gs.map R) → Vals xs vs → PySem.W.EachIs (Itm A R) vs gs
  | [], _, _, .nil, .nil => .nil
  | _ :: _, _, _, .cons h t, .cons r q => .cons ⟨_, r, h⟩ (itm_of t q)
theorem itm_back : ∀ {gs : List α} {vs : List Value}, PySem.W.EachIs (Itm A R) vs gs → ∃ xs : List V, Vals xs vs ∧ Vs A xs (gs.map R)
  | _, _, .nil => ⟨[], .nil, .nil⟩
  | _, _, .cons ⟨x, r, h⟩ t => by
    obtain ⟨xs, q, z⟩ := itm_back t
    exact ⟨x :: xs, .cons r q, .cons h z⟩
theorem itm_up {B : Hp} (u : Sub A B) {v : Value} {g : α} : Itm A R v g → Itm B R v g := fun ⟨x, r, h⟩ => ⟨x, r, (R g).up u h⟩
theorem each_get {β γ : Type} {Rl : β → γ → Prop} : ∀ {as : List β} {bs : List γ} {i : Nat} {a : β}, PySem.W.EachIs Rl as bs → as[i]? = some a → ∃ b, bs[i]? = some b ∧ Rl a b
  | _, _, 0, a, .cons r _, h => by
    have e := Option.some.inj h
    subst e
    exact ⟨_, rfl, r⟩
  | _, _, i + 1, a, .cons _ t, h => each_get (i := i) t h
  | _, _, i, a, .nil, h => by simp at h
/-- sorted(xs, key=f), f gives lists of whole numbers -/
theorem sorted_lam (hz : gs.length ≤ sizeLine) (hroom : Room 1 X.A) (I : Inv X pins σ H s) (wf : Wf T A H) {l f : Addr} {ys : List V} (hA : A l = some (.lst ys)) (hv : Vs A ys (gs.map R)) (hpn : ∀ p ∈ X.pn ++ pins, p.1 < s.heap.objs.size)
    (turn : ∀ g ∈ gs, ∀ (p1 p2 : Addr × Obj) (A1 H1 : Hp) (s1 : Shared) (x : V) (v : Value), Stp T A H A1 H1 → Inv X (p1 :: p2 :: pins) σ H1 s1 → (R g).p A1 x → RelV x v → ∀ Q : VK, (∀ r A2 H2, Stp T A1 H1 A2 H2 → (pIs (key g)).p A2 r → Q r H2) →
      wpAny (model X.prog X.w) X.A.in1.in1 (call (.ref f) [v]) (EP X (p1 :: p2 :: pins) σ Q) (fun _ _ => False) s1)
    {Q : VK} {E : Value → Shared → Prop} (q : ∀ r A' H', Stp T A H A' H' → (pL ((gs.mergeSort fun a b => decide (key a ≤ key b)).map R)).p A' r → Q r H') :
    wpAny (model X.prog X.w) X.A (call (.builtin "sorted") [.ref l] [(Str.ofString "key", .ref f)]) (EP X pins σ Q) E s := by
  obtain ⟨its, rv, hl, hzz⟩ := I.list (SqL.of (wf.ah _ _ hA))
  have e := itm_of hv rv
  have hlen : its.length = gs.length := e.length
  have hS0 : X.s_0.heap.objs.size ≤ s.heap.objs.size := I.sz
  refine PySem.W.sorted_of_sort hl.isList (by rw [hlen]; exact hz) (PyProof.Rows.ksk_s1 _ _) (fun _ => PyProof.Rows.ksk_l1 _ _) fun E' => ?_
  rw [PyProof.Rows.ksk_t1]
  have ho := PySem.W.copyHeap_at s.heap its
  obtain ⟨a, ea⟩ : ∃ a, a = s.heap.objs.size + 1 := ⟨_, rfl⟩
  rw [← ea] at ho ⊢
  have hcs : (PySem.W.copyHeap s.heap its).objs.size = s.heap.objs.size + 2 := by
    show (((s.heap.push (seqObj "list" #[] 0)).update s.heap.objs.size (Obj.mapSeq (· ++ its.toArray))).push (seqObj "list" its.toArray 0)).objs.size = _
    rw [PyProof.Rows.size_push', Heap.size_update, PyProof.Rows.size_push']
  obtain ⟨e1, ho1⟩ : ∃ e1, ((PySem.W.copyHeap s.heap its).update a (Obj.mapSeq fun _ => (#[] : Array Value))).get? a = some (seqObj "list" #[] e1) := ⟨_, get?_update_seq ho fun _ => #[]⟩
  have hkS : (((PySem.W.copyHeap s.heap its).update a (Obj.mapSeq fun _ => (#[] : Array Value))).push (seqObj "tuple" its.toArray 0)).objs.size = s.heap.objs.size + 3 := by
    rw [PyProof.Rows.size_push', Heap.size_update, hcs]
  unfold ksk_tree
  refine wpAny_bind (listItems_at ho rfl ?_)
  refine wpAny_bind (listUpdate_at ho rfl ?_ (by rw [List.size_toArray, hlen]; exact hz) (Nat.zero_le _))
  refine wpAny_bind (seqEpoch_at ho1 rfl ?_)
  refine wpAny_bind (wpAny_newTuple ?_ (by show its.length ≤ _; rw [hlen]; exact hz))
  refine wpAny_bind (wpAny_newList ?_ (Nat.zero_le _))
  refine wpAny_holding ?_
  obtain ⟨kS, ekS⟩ : ∃ kS, kS = (((PySem.W.copyHeap s.heap its).update a (Obj.mapSeq fun _ => (#[] : Array Value))).push (seqObj "tuple" its.toArray 0)).objs.size := ⟨_, rfl⟩
  have hka : kS ≠ a := by rw [ekS, hkS, ea]; omega
  have hltK : s.heap.objs.size ≤ kS := by rw [ekS, hkS]; omega
  have hltA : s.heap.objs.size ≤ a := by rw [ea]; omega
  have old : ∀ b o, s.heap.get? b = some o → ((((PySem.W.copyHeap s.heap its).update a (Obj.mapSeq fun _ => (#[] : Array Value))).push (seqObj "tuple" its.toArray 0)).push (seqObj "list" #[] 0)).get? b = some o := fun b o hb => by
    have hlt : b < s.heap.objs.size := Heap.lt_size hb
    refine Heap.get?_push_of_some _ (Heap.get?_push_of_some _ ?_)
    rw [Heap.get?_update_ne _ _ _ _ (show b ≠ a from Nat.ne_of_lt (Nat.lt_of_lt_of_le hlt hltA))]
    exact PySem.W.copyHeap_old hb
  have nk : ((((PySem.W.copyHeap s.heap its).update a (Obj.mapSeq fun _ => (#[] : Array Value))).push (seqObj "tuple" its.toArray 0)).push (seqObj "list" #[] 0)).get? kS = some (seqObj "list" #[] 0) := by
    rw [ekS]
    exact Heap.get?_push_size _ rfl
  have na : ((((PySem.W.copyHeap s.heap its).update a (Obj.mapSeq fun _ => (#[] : Array Value))).push (seqObj "tuple" its.toArray 0)).push (seqObj "list" #[] 0)).get? a = some (seqObj "list" #[] e1) := Heap.get?_push_of_some _ (Heap.get?_push_of_some _ ho1)
  rw [← ekS]
  have nofs : ∀ b, s.heap.objs.size ≤ b → H b = none ∧ b ≠ X.env.locals ∧ b ∉ X.fs := fun b hb => ⟨I.hok.fresh hb, fun z => Nat.lt_irrefl _ (Nat.lt_of_lt_of_le (by rw [z]; exact I.lt) hb), I.nofs hb⟩
  have I0 : Inv X ((a, seqObj "list" #[] e1) :: (kS, seqObj "list" #[] 0) :: pins) σ H { s with heap := (((PySem.W.copyHeap s.heap its).update a (Obj.mapSeq fun _ => (#[] : Array Value))).push (seqObj "tuple" its.toArray 0)).push (seqObj "list" #[] 0) } := by
    have I1 := I.kept (t' := s.toks) old
    refine I1.pins_of fun p hp => ?_
    rcases List.mem_cons.mp hp with z | z
    · rw [z]
      obtain ⟨h1, h2, h3⟩ := nofs a hltA
      exact ⟨na, h1, h2, h3, fun v z => by cases z⟩
    · rcases List.mem_cons.mp z with z | z
      · rw [z]
        obtain ⟨h1, h2, h3⟩ := nofs kS hltK
        exact ⟨nk, h1, h2, h3, fun v z => by cases z⟩
      · exact I1.pin p (List.mem_append_right _ z)
  have hpnK : ∀ p ∈ X.pn ++ pins, p.1 ≠ a ∧ p.1 ≠ kS := fun p hp => by
    have := hpn p hp
    exact ⟨Nat.ne_of_lt (Nat.lt_of_lt_of_le this hltA), Nat.ne_of_lt (Nat.lt_of_lt_of_le this hltK)⟩
  unfold ksk_rest
  refine wpAny_bind (wpAny_rule ?_)
  first
    | rw [List.forIn_toArray]
    | (rw [← Array.forIn_toList]; simp only [List.toList_toArray])
    | rw [← Array.forIn_toList]
  refine wpAny_bind (ksk_fold (fun i s' => ∃ A1 H1 kA ep, Inv X ((a, seqObj "list" #[] e1) :: (kS, seqObj "list" kA ep) :: pins) σ H1 s' ∧ Stp T A H A1 H1 ∧ PySem.W.EachIs (Itm A1 fun g => pIs (key g)) kA.toList (gs.take i)) its 0 _
    ⟨A, H, #[], 0, I0, Stp.refl wf, by rw [List.take_zero]; exact .nil⟩ ?step ?done)
  case step =>
    rintro j v s' hj ⟨A1, H1, kA, ep, I1, st, hk⟩
    simp only [Nat.zero_add] at hk ⊢
    obtain ⟨g, hg, hgv⟩ := each_get e hj
    obtain ⟨x, rx, hx⟩ := itm_up st.aa hgv
    have hzk : kA.size ≤ gs.length := by
      have h1 := hk.length
      rw [Array.length_toList, List.length_take] at h1
      omega
    refine wpAny_bind (wpAny_attempt (wpAny_mono (turn g (List.mem_of_getElem? hg) _ _ A1 H1 s' x v st I1 hx rx (fun r H2 => ∃ A2, Stp T A1 H1 A2 H2 ∧ (pIs (key g)).p A2 r) (fun r A2 H2 s2 p2 => ⟨A2, s2, p2⟩)) (fun u s2 he => ?_) fun _ _ hF => hF.elim))
    obtain ⟨r, H2, I2, ru, A2, st2, pr⟩ := he
    try dsimp only
    have nk2 : s2.heap.get? kS = some (seqObj "list" kA ep) := (I2.pin (kS, seqObj "list" kA ep) (List.mem_append_right _ (.tail _ (.head _)))).1
    obtain ⟨c2, hc2⟩ : ∃ c2, (s2.heap.update kS (Obj.mapSeq (·.push u))).get? kS = some (seqObj "list" (kA.push u) c2) := ⟨_, get?_update_seq nk2 (·.push u)⟩
    refine wpAny_bind (listUpdate_at nk2 rfl ?_ (Nat.le_trans hzk hz) (Nat.le_trans (Nat.le_of_eq (Array.size_push ..)) (Nat.succ_le_succ (Nat.le_trans hzk hz))))
    refine wpAny_pure ⟨rfl, A2, H2, kA.push u, c2, inv_pin2 (t' := s2.toks) I2 (fun b o hb q => (Heap.get?_update_ne _ _ _ _ hb).trans q) hc2 (fun v z => by cases z) (Nat.le_trans hS0 hltK) (fun p hp => ?_), st.trans st2, ?_⟩
    · rcases List.mem_append.mp hp with z | z
      · exact (hpnK p (List.mem_append_left _ z)).2
      · rcases List.mem_cons.mp z with z | z
        · rw [z]; exact fun y => hka y.symm
        · exact (hpnK p (List.mem_append_right _ z)).2
    · have ek : gs.take (j + 1) = gs.take j ++ [g] := by rw [List.take_add_one, hg]; rfl
      have eu : (kA.push u).toList = kA.toList ++ [u] := by simp
      rw [ek, eu]
      exact PySem.W.each_snoc ⟨r, ru, pr⟩ (hk.mono fun v g z => itm_up st2.aa z)
  case done =>
    rintro s' ⟨A1, H1, kA, ep, I1, st, hk⟩
    rw [Nat.zero_add, hlen, List.take_length] at hk
    have nk' : s'.heap.get? kS = some (seqObj "list" kA ep) := (I1.pin (kS, seqObj "list" kA ep) (List.mem_append_right _ (.tail _ (.head _)))).1
    have na' : s'.heap.get? a = some (seqObj "list" #[] e1) := (I1.pin (a, seqObj "list" #[] e1) (List.mem_append_right _ (.head _))).1
    have hsz : kA.size = its.length := by
      have h1 := hk.length
      rw [Array.length_toList] at h1
      omega
    try dsimp only
    refine wpAny_bind (listItems_at nk' rfl ?_)
    have hread : PySem.W.EachIs (fun v d => ∃ as, Reads s'.heap v d as) kA.toList (gs.map fun g => dIs (key g)) :=
      PySem.W.each_map (R := fun v d => ∃ as, Reads s'.heap v d as) (fun g => dIs (key g)) (hk.mono fun v g ⟨r, rr, hp⟩ => Dp.reads I1 _ r v (dp_ints (key g) A1 r hp X.K H1 st.wf.ah) rr)
    have hal : PySem.W.AllAlike (gs.map fun g => dIs (key g)) := PySem.W.AllAlike.of fun b b' => by
      show PySem.W.alike (.list _) (.list _) = true
      rw [PySem.W.alike]
      exact PySem.W.alike_ints _ _
    have hsk : PySem.W.Sortable (gs.map fun g => dIs (key g)) := PySem.W.Sortable.others fun b => ⟨fun z => PyData.noConfusion z, fun xs z => PyData.noConfusion z⟩
    have S := PySem.W.SortsAt.data (prog := X.prog) (w := X.w) (A := X.A.in1.in1) (s := s') hread hal hsk fun d hd => by
      obtain ⟨g, _, rfl⟩ := List.mem_map.mp hd
      rw [dIs_depth]
      have := hroom.un
      show X.A.units + 1 + 1 + 1 < _
      omega
    refine PySem.W.keyH_end (h₁ := PySem.W.hideAll s'.heap [kS]) (fun b o _ z => PySem.W.of_hideAll _ z) (PySem.W.hideAll_none _ (List.mem_singleton.mpr rfl)) nk' na' hka S hsz (by rw [hlen]; exact hz) fun h3 tk3 c k3 n3 => ⟨rfl, ?_⟩
    have ko : PySem.W.KeyedOut false (gs.map fun g => dIs (key g)) its (PySem.W.sortVals (PySem.W.dataKind s'.heap (gs.map fun g => dIs (key g))) false kA.toList its) := ⟨s'.heap, kA.toList, hal, rfl, hread⟩
    have hso := PySem.W.keyedOut_each (fun g => dIs (key g)) ko (e.mono fun v g z => itm_up st.aa z)
    have ele : PySem.W.dataLe false (fun g : α => dIs (key g)) = fun a b => decide (key a ≤ key b) := PySem.W.dataLe_rows key
    rw [ele] at hso
    obtain ⟨xs, rxs, hxs⟩ := itm_back hso
    have hxl : xs.length ≤ sizeLine := by
      rw [hxs.len, List.length_map, (List.mergeSort_perm gs _).length_eq]
      exact hz
    have hn : H1 a = none := (I1.pin (a, seqObj "list" #[] e1) (List.mem_append_right _ (.head _))).2.1
    have J := inv_two (t' := tk3) (h' := h3) (o := .lst xs) I1 (fun b u h1 h2 z => k3 b u h1 (PySem.W.hideAll_get _ z (fun y => h2 (List.mem_singleton.mp y)))) ⟨hxl, _, c, rxs, n3⟩ ⟨Nat.le_trans hS0 hltA, Nat.le_trans hS0 hltK⟩ hpnK ⟨_, n3⟩
    have hH : H a = none := I.hok.fresh hltA
    have nA1 : A1 a = none := sub_none st.wf.ah hn
    have s3 := Stp.new (T := T) (.lst xs) st.wf hn
    exact ⟨.ref a, _, J, rfl, q _ _ _ (st.trans s3) ⟨a, xs, rfl, upd_same, Vs.up s3.aa hxs⟩⟩
end
end IX
end

section
set_option Elab.async false
set_option linter.all false
set_option maxRecDepth 100000
set_option maxHeartbeats 2000000
namespace IX
open PySem PySem.Spec PyProof.Rows L2
section
variable {P : Program} {w : World} {K : PySem.W.Frag} {mg : Str → Option Value} {base : Heap} {k : Nat} {N : List Str} {sc : Scope}
variable {X : Cx} {T : List (Addr × Str)} {pins : List (Addr × Obj)} {σ : L2.St} {A H H0 : Hp} {s : Shared} {α : Type} {R : α → Pm} {key : α → List Int} {gs : List α} {Γ : List Slot}
/-- the lambda's object is made; the step told -/
theorem lam_make3 {c Pt : Addr} {ql : Str} {params : Arguments} {body : Expr} {scope : Scope} {pos : Pos} {E : Value → Shared → Prop} {Q : Value → Shared → Prop} (I : Inv X pins σ H s) (wf : Wf T A H) (TB : LamX.TabB X.base X.mg c Pt) (hcode : X.env.code = .ref c)
    (hT : T = [(Pt, ql)]) (hq : X.env.qual ++ "<lambda>" = ql) (hdef : defaultsOf params X.env = ([], [])) (hfree : ∀ y ∈ scope.names, y.2 = .free → ∃ c, X.env.cells.lookup y.1 = some c)
    (h : ∀ (f c' : Addr) (pm ctv : Value) (H1 : Hp) (s' : Shared), Inv X pins σ H1 s' → Stp T A H A H1 → s'.heap.get? f = some (PySem.W.kla_obj "<lambda>" ql params body scope (cloFrom X.env.cells scope.names []) pm c' ctv) → H1 f = none → f ∉ frs X.stack → H1 c' = some (LamX.CodeO c' ql) → Q (.ref f) s') :
    wpAny (model X.prog X.w) X.A (eval (.Lambda params body scope pos) X.env) Q E s := by
  subst hq
  subst hT
  obtain ⟨ps, hP, ht, ha⟩ := wf.tb _ (List.mem_singleton.mpr rfl)
  have hP : H Pt = some (.tbl ps) := hP
  have nA : A Pt = none := wf.nt _ (List.mem_singleton.mpr rfl)
  refine PySem.W.kla_eval hdef ?_
  have bP : s.heap.BuiltinsAt X.mg Pt := TB.bm.keeps I.bk
  have hP' : s.heap.get? Pt = some { cls := .none, data := .fields ps } := I.hok Pt _ hP
  have nofr : ∀ f, s.heap.objs.size ≤ f → f ∉ frs X.stack := fun f hf z => by
    rcases List.mem_cons.mp (I.stkSub _ z) with e | e
    · have h1 := I.lt
      rw [← e] at h1
      exact Nat.lt_irrefl _ (Nat.lt_of_lt_of_le h1 hf)
    · exact I.nofs hf e
  cases hc : codeAmong pos ps.toList with
  | none =>
    refine PySem.W.kla_makeFunction (mg := X.mg) (c := c) (P := Pt) (ps := ps) (closure_ok hfree) I.ok.glob (I.mod.glob.keeps I.bk) hcode (TB.code.keeps I.bk) hP' ht hc TB.gP bP fun c' ctv h' tk hx hge hlt hrec htb => ?_
    obtain ⟨c2, oc, vs, t, e2, hoc, hd, hv⟩ := hrec
    cases e2
    have hsz : s.heap.objs.size ≤ h'.objs.size := Nat.le_trans hge (Nat.le_of_lt hlt)
    have nC : H c' = none := I.hok.fresh hge
    have I1 := LamX.inv_table (t' := tk) (more := #[rawInt pos.line, rawInt pos.col, .ref c']) (h' := h'.push (PySem.W.kla_obj "<lambda>" (X.env.qual ++ "<lambda>") params body scope (cloFrom X.env.cells scope.names []) ((X.mg "__name__").getD .none) c' ctv)) I hP
      (fun b o hb e => Heap.get?_push_of_some _ (hx b o hb e)) (Heap.get?_push_of_some _ htb) hge ⟨oc, vs, t, Heap.get?_push_of_some _ hoc, hd, hv⟩
    have hE : LamX.ExtN H (upd (upd H Pt (.tbl (ps ++ #[rawInt pos.line, rawInt pos.col, .ref c']))) c' (LamX.CodeO c' (X.env.qual ++ "<lambda>"))) := fun b o e n => by
      rw [upd_ne (ne_of_none e nC), upd_ne (fun z => n ps (Option.some.inj (e.symm.trans (by rw [z]; exact hP))))]
      exact e
    have eL : (ps ++ #[rawInt pos.line, rawInt pos.col, .ref c']).toList = ps.toList ++ [rawInt pos.line, rawInt pos.col, .ref c'] := by simp
    have T1 : LamX.Tabs [(Pt, X.env.qual ++ "<lambda>")] (upd (upd H Pt (.tbl (ps ++ #[rawInt pos.line, rawInt pos.col, .ref c']))) c' (LamX.CodeO c' (X.env.qual ++ "<lambda>"))) := fun p hp => by
      rw [List.mem_singleton.mp hp]
      refine ⟨_, by rw [upd_ne (ne_of_none hP nC), upd_same], by rw [eL]; exact PySem.TriplesOk_snoc _ _ _ _ ht, fun p' cv hcv => ?_⟩
      rw [eL] at hcv
      rcases LamX.among_app _ ht hcv with z | z
      · obtain ⟨c0, e1, e2⟩ := ha p' cv z
        exact ⟨c0, e1, hE _ _ e2 LamX.codeO_ne⟩
      · exact ⟨c', z, upd_same⟩
    have sA : Sub A (upd (upd H Pt (.tbl (ps ++ #[rawInt pos.line, rawInt pos.col, .ref c']))) c' (LamX.CodeO c' (X.env.qual ++ "<lambda>"))) := fun b o e => by
      have e' := wf.ah b o e
      rw [upd_ne (ne_of_none e' nC), upd_ne (ne_of_none e nA)]
      exact e'
    refine h h'.objs.size c' ((X.mg "__name__").getD .none) ctv _ _ I1 ⟨⟨sA, T1, wf.nt⟩, Sub.refl _, hE, fun b hb => nn_new b (nn_new b hb), fun _ _ => rfl⟩ (Heap.get?_push_size _ rfl) ?_ (nofr _ hsz) upd_same
    have n1 : h'.objs.size ≠ c' := Nat.ne_of_gt hlt
    have n2 : h'.objs.size ≠ Pt := Nat.ne_of_gt (Nat.lt_of_lt_of_le (Heap.lt_size hP') hsz)
    rw [upd_ne n1, upd_ne n2]
    exact I.hok.fresh hsz
  | some cv =>
    obtain ⟨c', e, hco⟩ := ha pos cv hc
    subst e
    refine PySem.W.kla_makeFunctionHit (mg := X.mg) (c := c) (P := Pt) (ps := ps) (closure_ok hfree) I.ok.glob (I.mod.glob.keeps I.bk) hcode (TB.code.keeps I.bk) hP' ht hc bP fun ctv h' tk hx hsz => ?_
    have I1 : Inv X pins σ H { s with heap := h'.push (PySem.W.kla_obj "<lambda>" (X.env.qual ++ "<lambda>") params body scope (cloFrom X.env.cells scope.names []) ((X.mg "__name__").getD .none) c' ctv), toks := tk } := I.kept fun b o e => Heap.get?_push_of_some _ (hx b o e)
    exact h h'.objs.size c' ((X.mg "__name__").getD .none) ctv H _ I1 (Stp.refl wf) (Heap.get?_push_size _ rfl) (I.hok.fresh hsz) (nofr _ hsz) hco
theorem sls_at {σ : L2.St} {Γ : List Slot} {j : Nat} {Rj : Pm} (sl : Sls H0 A H σ Γ) (hj : Γ[j]? = some (.im Rj)) : ∃ v, NdefX.slotAt σ j = some v ∧ Rj.p A v := by
  obtain ⟨v, e, p⟩ := sl.im hj
  exact ⟨v, NdefX.slotAt_of e, p⟩
/-- sorted(e, key=lambda x: body), one name y captured (slot j, datum Rj) -/
theorem ev_sortLam {c Pt : Addr} {ql x y : Str} {params : Arguments} {body e : Expr} {scope : Scope} {lpos kpos p pos : Pos} {j : Nat} {Rj : Pm} {k' : Nat} (hx : XF P w K mg base k N sc X) (hm : mg "sorted" = none) (hcode : X.env.code = .ref c) (TB : LamX.TabB base mg c Pt) (hT : T = [(Pt, ql)]) (hq : X.env.qual ++ "<lambda>" = ql)
    (hz : gs.length ≤ sizeLine) (hk : k' + 3 ≤ k) (hstk : X.stack = X.env :: X.outer) (hfr : X.env.frame = some X.env.locals) (hi : EV X T H0 e Γ (pL (gs.map R))) (hj : Γ[j]? = some (.im Rj)) (hNj : N[j]? = some y)
    (S : NdefX.NScope [x, y] [x] [y] scope) (hcell : sc.names.lookup y = some .cell) (hyf : (y, NameKind.free) ∈ scope.names) (hbind : ∀ (q : Str) (cl : List (Str × Addr)) (pm cv ctv v : Value), bindArgs (PySem.W.kla_fn "<lambda>" q params body scope cl pm cv ctv) ⟨[v], []⟩ = pure [(x, v)])
    (hbody : ∀ Z H0', XF P w K mg base k' [x, y] scope Z → ∀ g ∈ gs, EV Z T H0' body [.im (R g), .im Rj] (pIs (key g)))
    (hdef : defaultsOf params X.env = ([], []) := by rfl) (hg : sc.names.lookup ("sorted" : Str) = some .globalImplicit := by rfl) (he : starEach [e] X.env = (false, eval e X.env) :: starEach [] X.env := by rfl)
    (hall : (backToKw pos (keywordEach [⟨some "key", .Lambda params body scope lpos, kpos⟩] X.env)).all (·.1.isSome) = true := by rfl) (hnone : (backToKw pos (keywordEach [⟨some "key", .Lambda params body scope lpos, kpos⟩] X.env)).any (·.1.isNone) = false := by rfl)
    (hks : (backToKw pos (keywordEach [⟨some "key", .Lambda params body scope lpos, kpos⟩] X.env)).filterMap (·.1) = [Str.ofString "key"] := by rfl) :
    EV X T H0 (.Call (.Name "sorted" p) [e] [⟨some "key", .Lambda params body scope lpos, kpos⟩] pos) Γ (pL ((gs.mergeSort fun a b => decide (key a ≤ key b)).map R)) := by
  intro σ A H sl wf Q q pins s I
  have hgl := gl_of hx hg
  obtain ⟨eP, ew, eK, em, eb, eN, es, _, _, room, _⟩ := hx
  subst eP ew eK em eb
  have hfree : ∀ z ∈ scope.names, z.2 = .free → X.env.scope.names.lookup z.1 = some .cell ∨ X.env.scope.names.lookup z.1 = some .free := fun z hz e => by
    have := S.free z hz e
    rw [List.mem_singleton.mp this, es]
    exact .inl hcell
  have hcells : ∀ z ∈ scope.names, z.2 = .free → ∃ c, X.env.cells.lookup z.1 = some c := fun z hz e => I.ok.has _ ((hfree z hz e).imp id id)
  have caps : NdefX.Caps X (cloFrom X.env.cells scope.names []) [y] [j] := NdefX.Caps.made I.ok hfree (fun z hz => by rw [List.mem_singleton.mp hz]; exact hyf) (by show [X.N[j]?] = [some y]; rw [eN, hNj])
  refine wpAny_Call_Name_kw (ld_blt I hgl hm boot_sorted ?_ (by decide) (by decide))
  refine PyProof.Rows.callWith_kw (thn (evs_cons hi evs_nil he σ A H sl wf (fun vs H1 => ∃ A1 l ys, Stp T A H A1 H1 ∧ vs = [V.ref l] ∧ A1 l = some (.lst ys) ∧ Vs A1 ys (gs.map R)) (fun vs A1 H1 s1 p1 => ?_) pos pins s I) fun us s1 ⟨vs, H1, I1, r1, A1, l, ys, st1, e1, hl, hv⟩ => ?_) (by rw [he]; rfl) (by rw [he]; rfl) hall hnone
  · cases p1 with
    | cons p1 t =>
      cases t
      obtain ⟨l, ys, rfl, g1, g2⟩ := p1
      exact ⟨A1, l, ys, s1, rfl, g1, g2⟩
  subst e1
  obtain rfl := Vals.ref1 r1
  show wpAny _ _ (evalAll ((do let v ← eval (.Lambda params body scope lpos) X.env; standAt pos; pure v) :: (backToKw pos (keywordEach [] X.env)).map (·.2))) _ _ s1
  refine wpAny_evalAll_cons (wpAny_bind (lam_make3 I1 st1.wf TB hcode hT hq hdef hcells fun f c' pm ctv H2 s2 I2 st2 hf hfn hffr hco => wpAny_bind (wpAny_standAt (wpAny_pure ?_))))
  refine wpAny_evalAll_nil ?_
  rw [hks]
  have hfL : f ≠ X.env.locals ∧ f ∉ X.fs := by
    rw [hstk] at hffr
    refine ⟨fun z => hffr ?_, fun z => hffr ?_⟩
    · unfold frs
      rw [List.filterMap_cons, hfr, z]
      exact List.mem_cons_self
    · unfold frs
      rw [List.filterMap_cons, hfr]
      exact List.mem_cons_of_mem _ z
  have I3 : Inv X ((f, PySem.W.kla_obj "<lambda>" ql params body scope (cloFrom X.env.cells scope.names []) pm c' ctv) :: pins) σ H2 s2 := I2.pins_of fun p hp => by
    rcases List.mem_cons.mp hp with z | z
    · rw [z]
      exact ⟨hf, hfn, hfL.1, hfL.2, fun v z => by cases z⟩
    · exact I2.pin p (List.mem_append_right _ z)
  have sl2 := sl.up (st1.trans st2)
  have wfin : wpAny (model X.prog X.w) X.A (call (.builtin "sorted") [.ref l] [(Str.ofString "key", .ref f)]) (EP X ((f, PySem.W.kla_obj "<lambda>" ql params body scope (cloFrom X.env.cells scope.names []) pm c' ctv) :: pins) σ Q) X.xe s2 := by
    refine sorted_lam (A := A1) hz (room.mono (by omega)) I3 st2.wf hl hv (fun p hp => Heap.lt_size (I3.pin p hp).1) (fun g hg p1 p2 A3 H3 s3 x' v' st3 I4 hxg hxr Q' q' => ?_) fun r A' H' st p => q r A' H' ((st1.trans st2).trans st) p
    have sl3 := sl2.up st3
    obtain ⟨vj, e5, p5⟩ := sls_at sl3 hj
    have hr : Room (k' + 1) X.A.in1.in1 := (Room.in1 (Room.in1 (k := k' + 2) (room.mono hk)))
    refine lam_call (F := ⟨"<lambda>", ql, params, [], scope, cloFrom X.env.cells scope.names [], c'⟩) (N' := [x, y]) (ps' := [x]) (fr := [y]) (vs := [x']) (ws := [j].map (NdefX.slotAt σ)) I4 (I4.pin (f, PySem.W.kla_obj "<lambda>" ql params body scope (cloFrom X.env.cells scope.names []) pm c' ctv) (List.mem_append_right _ (.tail _ (.tail _ (.head _))))).1 (st3.hh _ _ hco LamX.codeO_ne) S
      (hbind _ _ _ _ _ _) (NdefX.cells_of I4 caps) (.cons hxr .nil) rfl hr ?_
    have hZ : XF X.prog X.w X.K X.mg X.base k' [x, y] scope (NdefX.ncx CXF X.prog X.w X.K X.mg X.base [x, y] ⟨"<lambda>", ql, params, [], scope, cloFrom X.env.cells scope.names [], c'⟩ f X.A.in1.in1 X.stack s3 H3 (fun _ _ _ => False)).nox := ⟨rfl, rfl, rfl, rfl, rfl, rfl, rfl, rfl, rfl, hr.deeper _, S.nd⟩
    refine hbody _ H3 hZ g hg _ A3 H3 ?_ st3.wf Q' q'
    show Sls H3 A3 H3 (NdefX.startF [x, y] [x'] [NdefX.slotAt σ j]) [.im (R g), .im Rj]
    rw [e5]
    exact .cons hxg (.cons p5 .nil)
  exact thn wfin fun u s4 ⟨r, H', J, rr, qq⟩ => ⟨r, H', J.pins_of (fun p hp => J.pin p (List.mem_append_right _ (.tail _ hp))), rr, qq⟩
end
end IX
end

section
set_option Elab.async false
set_option linter.all false
set_option maxRecDepth 100000
set_option maxHeartbeats 2000000
namespace IX
open PySem PySem.Spec PyProof.Rows L2
local macro_rules | `(tactic| walk_at "fg") => `(tactic| repeat (first | exact All2.nil | exact Fg.refl _ | refine All2.cons (by first | exact Or.inl rfl | exact Or.inr rfl) ?_))
section
variable {P : Program} {w : World} {K : PySem.W.Frag} {mg : Str → Option Value} {base : Heap} {k : Nat} {N : List Str} {sc : Scope} {T : List (Addr × Str)} {body : List Stmt} {S : List Pm → Pm → Prop}
/-- a def that makes a lambda -/
theorem def_okL {x : Str} {params : Arguments} {ns : List Str} (E : Tp T K mg base) (hm : mg x = some (.ref (He.ga K x))) (F : ∃ fd, FunD K x x params body sc [] [] (He.ga K x) fd) (Sc : FnScope N ns sc)
    (hbind : ∀ (kV doc pm : Value) (an : Option Addr) (cdv ct : Value) (us : List Value), us.length = ns.length → bindArgs (PySem.W.fnOf x x params body sc .none kV doc pm an cdv ct) ⟨us, []⟩ = pure (ns.zip us)) (len : ∀ ps R, S ps R → ps.length = ns.length)
    (hb : ∀ (X : Cx) (A0 H0 : Hp) (ps : List Pm) (R : Pm), XF P w K mg base k N sc X → (∀ x, X.fn x = true) → X.env.code = .ref (He.cT K (x, none)).1 → X.env.qual = x ++ ".<locals>." → X.stack = X.env :: X.outer → X.env.frame = some X.env.locals → S ps R → ST X T A0 H0 body (startG N ps) (.rt R)) :
    DefOk P w K mg base T (k + 1) x ns S := by
  obtain ⟨fd, F⟩ := F
  refine ⟨He.ga K x, fd, hm, F.kp, F.bindsN hbind, ?_⟩
  obtain ⟨oc, od, dV, kV, doc, pm, an, cdv, ct, osl, rfl, lk, hcd, _, _⟩ := F.ex
  obtain ⟨c, rfl⟩ := He.codeIn_ref hcd
  have ec : (He.cT K (x, none)).1 = c := He.codeOf_eq (p := (x, none)) lk rfl
  refine fn_of lk hcd Sc (fun vs H Q E ⟨A, ps, R, _, hv, hS, _⟩ => hv.len.trans (len ps R hS)) (fun A outer s H vs Q E hr ⟨A', ps, R, wf, hv, hS, q⟩ => ?_)
  have hx : XF P w K mg base k N sc (cxOf CX0 P w K mg base N x sc (He.ga K x) (.ref c) A outer s H E).nox := ⟨rfl, rfl, rfl, rfl, rfl, rfl, rfl, rfl, rfl, hr, Sc.nd⟩
  refine ⟨_, PSs.nox canSs, ?_⟩
  exact hb _ A' H ps R hx (fun _ => rfl) (by rw [ec]; rfl) rfl rfl rfl hS _ A' H (.refl wf) (sls_start hv) _ fun v A2 H2 s2 p2 => q v A2 H2 s2 p2
/-! ### groups_in_range -/
def inside (t : VaidxBase.Table) (i : VaidxBase.Index) (q : VaidxBase.Question) : List VaidxBase.Group := (entryG t i).filter fun g => (rangeF i q).all (VaidxBase.passes g.row)
def keyRow (i : VaidxBase.Index) (g : VaidxBase.Group) : List Int := zs (i.keys.map (VaidxBase.valueAt g.row))
def sortedG (t : VaidxBase.Table) (i : VaidxBase.Index) (q : VaidxBase.Question) : List VaidxBase.Group := (inside t i q).mergeSort fun a b => decide (keyRow i a ≤ keyRow i b)
def inRange (t : VaidxBase.Table) (i : VaidxBase.Index) (q : VaidxBase.Question) : List VaidxBase.Group := if q.back then (sortedG t i q).reverse else sortedG t i q
def sInRange (K : PySem.W.Frag) (ps : List Pm) (R : Pm) : Prop := ∃ (t : VaidxBase.Table) (o : Vaidxd.Offer) (q : VaidxBase.Question), OkT t ∧ OkO t.cols o ∧ OkQ t.cols q ∧ ps = [pTab K t, pX K o, pQ K q] ∧ R = pLs pGrp (inRange t o.index q)
theorem sc16 : FnScope ["table", "index", "question", "picks", "inside", "in_order", "group"] ["table", "index", "question"] (defScope (top 16)) := ⟨rfl, rfl, rfl, by decide +kernel, rfl, by decide +kernel, by decide +kernel⟩
theorem entry_mem {t : VaidxBase.Table} {i : VaidxBase.Index} {g : VaidxBase.Group} (h : g ∈ entryG t i) : g ∈ t.groups := (List.mem_filter.mp h).1
theorem inside_mem {t : VaidxBase.Table} {i : VaidxBase.Index} {q : VaidxBase.Question} {g : VaidxBase.Group} (h : g ∈ inside t i q) : g ∈ t.groups := entry_mem (List.mem_filter.mp h).1
theorem inside_len (t : VaidxBase.Table) (i : VaidxBase.Index) (q : VaidxBase.Question) : (inside t i q).length ≤ t.groups.length := Nat.le_trans (List.length_filter_le _ _) (List.length_filter_le _ _)
def lamS : Expr → Scope
  | .Lambda _ _ s _ => s
  | _ => default
theorem ok_inRange (E : Tp T K mg base) : DefOk P w K mg base T 5 "groups_in_range" ["table", "index", "question"] (sInRange K) := by
  refine def_okL E E.g_groups_in_range E.d_groups_in_range sc16 (fun _ _ _ _ _ _ us hl => match us, hl with | [_, _, _], _ => rfl) (fun ps R ⟨_, _, _, _, _, _, h, _⟩ => by rw [h]; rfl) ?_
  rintro X A0 H0 ps R hx hf hcode hqual hstk hfr ⟨t, o, q, ht, ho, hq, rfl, rfl⟩
  refine st_seq (ss_set hx hf 3 (ev_call hx (ok_rangeF E) (evs_cons (ev_var hx 1) (evs_cons (ev_var hx 2) evs_nil)) ⟨o, q, ho.kl, hq.fl, rfl, rfl⟩)) ?_
  refine st_seq (ss_setLc (R := pGrp) (S := pGrp) (xs := entryG t o.index) hx 4 [("group", 6)] (fun g => (rangeF o.index q).all (VaidxBase.passes g.row)) (small_size (Nat.le_trans (List.length_filter_le _ _) (by have := ht.gl; omega)))
    (ev_call hx (ok_entry E) (evs_cons (ev_var hx 0) (evs_cons (ev_var hx 1) evs_nil)) ⟨t, o, ht.gl, fun g hg f hf => by rw [ht.row g hg]; exact ho.oc f hf, rfl, rfl⟩)
    (fun g hg => ⟨_, fun X' hx' => tg_name hx' 6, fun X' hx' => .one (evt_val (ev_call hx' (ok_passes E) (evs_cons (ev_ixT (ev_var hx' 6) ev_int rfl) (evs_cons (ev_var hx' 3) evs_nil)) ⟨g.row, _, fun f hf => by rw [ht.row g (entry_mem hg)]; exact hq.fc f (List.mem_filter.mp hf).1, rfl, rfl⟩)), fun _ X' hx' => ev_var hx' 6⟩)) ?_
  refine st_seq (ss_set hx hf 5 (ev_sortLam (R := pGrp) (gs := inside t o.index q) (key := keyRow o.index) (k' := 1) hx E.b_sorted hcode E.tb E.hT (by rw [hqual]; rfl) (small_size (Nat.le_trans (inside_len t o.index q) (by have := ht.gl; omega))) (by decide) hstk hfr
    (ev_var hx 4) (j := 1) (Rj := pX K o) rfl rfl (NdefX.nscope_by (by decide +kernel)) (by decide +kernel) (by decide +kernel) (fun _ _ _ _ _ _ => rfl) fun Z H0' hZ g hg => ?_)) ?_
  · refine (ev_call hZ (ok_keyV E) (evs_cons (ev_ixT (ev_var hZ 0) ev_int rfl) (evs_cons (f_keys E hZ (ev_var hZ 1)) evs_nil)) ⟨g.row, o.index.keys, by have := ho.kl; omega, fun c hc => by rw [ht.row g (inside_mem hg)]; exact ho.kc c hc, rfl, rfl⟩).eq ?_
    exact pZs_ints _
  · refine st_ifr (x := q.back) ((evt_eq (f_backwards E hx (ev_var hx 2)) ev_int).eq ?_) (fun h => ?_) fun h => ?_
    · cases q.back <;> rfl
    · refine st_last (ss_ret ((ev_rev (ev_var hx 5)).eq ?_))
      unfold inRange
      rw [if_pos h, pLs, List.map_reverse]
      rfl
    · refine st_last (ss_ret ((ev_var hx 5 (R := pLs pGrp (sortedG t o.index q))).eq ?_))
      unfold inRange
      rw [if_neg (by rw [h]; decide)]
end
end IX
end

section
set_option Elab.async false
set_option linter.all false
set_option maxRecDepth 100000
set_option maxHeartbeats 2000000
namespace IX
open PySem PySem.Spec PyProof.Rows L2
local macro_rules | `(tactic| walk_at "fg") => `(tactic| repeat (first | exact All2.nil | exact Fg.refl _ | refine All2.cons (by first | exact Or.inl rfl | exact Or.inr rfl) ?_))
/-! ### bounds -/
theorem cmulN {a b : Nat} (ha : a < 2 ^ 64) (hb : b < 2 ^ 64) : CMulW (a : Int) (b : Int) := wide_mul (a := 64) (b := 64) (by rw [Int.natAbs_natCast]; exact ha) (by rw [Int.natAbs_natCast]; exact hb) (by decide) (by decide) (by decide)
theorem zs_sum (l : List Nat) : (zs l).sum = (l.sum : Int) := by
  induction l with
  | nil => rfl
  | cons a r ih =>
    show (a : Int) + (zs r).sum = _
    rw [ih, List.sum_cons]
    omega
theorem sum_le_mul {l : List Nat} {m : Nat} (h : ∀ x ∈ l, x ≤ m) : l.sum ≤ l.length * m := by
  induction l with
  | nil => simp
  | cons a r ih =>
    have h1 := h a (List.mem_cons_self)
    have h2 := ih fun x hx => h x (List.mem_cons_of_mem _ hx)
    rw [List.sum_cons, List.length_cons, Nat.add_mul]
    omega
theorem touch_bound (lim : Bool) (fs : List VaidxBase.Filter) {m : Nat} : ∀ (gs : List VaidxBase.Group) (s : Nat × List Nat), (∀ g ∈ gs, g.count ≤ m) → (∀ x ∈ s.2, x ≤ m) → ∀ x ∈ (gs.foldl (touchStep lim fs) s).2, x ≤ m
  | [], s, _, h => h
  | g :: r, s, hg, h => by
    rw [List.foldl_cons]
    refine touch_bound lim fs r _ (fun g' hg' => hg g' (List.mem_cons_of_mem _ hg')) ?_
    have hc := hg g List.mem_cons_self
    intro x hx
    unfold touchStep at hx
    split at hx
    · rcases List.mem_append.mp hx with z | z
      · exact h x z
      · rw [List.mem_singleton.mp z]; omega
    · split at hx
      · rcases List.mem_append.mp hx with z | z
        · exact h x z
        · rw [List.mem_singleton.mp z]
          have : min g.count s.1 ≤ g.count := Nat.min_le_left _ _
          omega
      · rcases List.mem_append.mp hx with z | z
        · exact h x z
        · rw [List.mem_singleton.mp z]; exact hc
theorem touched_sum {lim : Bool} {q : VaidxBase.Question} {gs : List VaidxBase.Group} (h : ∀ g ∈ gs, g.count ≤ 1000000) (hl : gs.length ≤ 12) : (touched lim q gs).sum ≤ 12000000 := by
  have h1 := sum_le_mul (touch_bound lim q.filters gs (q.limit, []) h (fun x hx => by cases hx))
  have h2 := touched_len lim q gs
  have h3 : (touched lim q gs).sum ≤ (touched lim q gs).length * 1000000 := h1
  rw [h2] at h3
  omega
theorem rows_fold (fs : List VaidxBase.Filter) : ∀ (gs : List VaidxBase.Group) (ts : List Nat) (a : Nat), (gs.zip ts).foldl (rowsStep fs) a ≤ a + ts.sum
  | [], ts, a => by simp
  | g :: gs, [], a => by simp
  | g :: gs, t :: ts, a => by
    rw [List.zip_cons_cons, List.foldl_cons, List.sum_cons]
    have h := rows_fold fs gs ts (rowsStep fs a (g, t))
    have h2 : rowsStep fs a (g, t) ≤ a + t := by
      unfold rowsStep
      split
      · exact Nat.le_refl _
      · exact Nat.le_add_right _ _
    omega
theorem rows_le (gs : List VaidxBase.Group) (ts : List Nat) (fs : List VaidxBase.Filter) : rowsP gs ts fs ≤ ts.sum := by
  have := rows_fold fs gs ts 0
  unfold rowsP
  omega
/-! ### what is computed -/
def costOn (fr cov : Bool) (own : List VaidxBase.Filter) (q : VaidxBase.Question) (gs : List VaidxBase.Group) : Nat :=
  let ts := touched (limB fr q) q gs
  (ts.sum + if cov then 0 else 4 * rowsP gs ts own) + if fr then 0 else 3 * rowsP gs ts q.filters
def costI (t : VaidxBase.Table) (i : VaidxBase.Index) (q : VaidxBase.Question) : Nat := costOn (freeB i.keys q) (coversB i q) (ownF i q) q (inRange t i q)
def costT (t : VaidxBase.Table) (q : VaidxBase.Question) : Nat :=
  let fr := freeB [] q
  let ts := touched (limB fr q) q t.groups
  2 * ts.sum + if fr then 0 else 3 * rowsP t.groups ts q.filters
theorem inRange_mem {t : VaidxBase.Table} {i : VaidxBase.Index} {q : VaidxBase.Question} {g : VaidxBase.Group} (h : g ∈ inRange t i q) : g ∈ t.groups := by
  unfold inRange at h
  have key : ∀ g, g ∈ sortedG t i q → g ∈ t.groups := fun g hg => inside_mem ((List.mergeSort_perm (inside t i q) _).mem_iff.mp hg)
  split at h
  · exact key g (List.mem_reverse.mp h)
  · exact key g h
theorem inRange_len (t : VaidxBase.Table) (i : VaidxBase.Index) (q : VaidxBase.Question) : (inRange t i q).length ≤ t.groups.length := by
  have key : (sortedG t i q).length ≤ t.groups.length := by
    rw [show (sortedG t i q).length = _ from (List.mergeSort_perm (inside t i q) _).length_eq]
    exact inside_len t i q
  unfold inRange
  split
  · rw [List.length_reverse]; exact key
  · exact key
section
variable {t : VaidxBase.Table} {o : Vaidxd.Offer} {i : VaidxBase.Index} {q : VaidxBase.Question}
theorem costI_le (ht : OkT t) : costI t i q ≤ 96000000 := by
  have h1 : (touched (limB (freeB i.keys q) q) q (inRange t i q)).sum ≤ 12000000 := touched_sum (fun g hg => ht.cnt g (inRange_mem hg)) (Nat.le_trans (inRange_len t i q) ht.gl)
  have h2 := rows_le (inRange t i q) (touched (limB (freeB i.keys q) q) q (inRange t i q)) (ownF i q)
  have h3 := rows_le (inRange t i q) (touched (limB (freeB i.keys q) q) q (inRange t i q)) q.filters
  unfold costI costOn
  dsimp only
  split <;> split <;> omega
theorem costT_le (ht : OkT t) : costT t q ≤ 60000000 := by
  have h1 : (touched (limB (freeB [] q) q) q t.groups).sum ≤ 12000000 := touched_sum ht.cnt ht.gl
  have h3 := rows_le t.groups (touched (limB (freeB [] q) q) q t.groups) q.filters
  unfold costT
  dsimp only
  split <;> omega
end
def waysL (t : VaidxBase.Table) (q : VaidxBase.Question) (os : List Vaidxd.Offer) : List Int := (costT t q : Int) :: os.map fun o => if servesB o.index q then (costI t o.index q : Int) else -1
section
variable {P : Program} {w : World} {K : PySem.W.Frag} {mg : Str → Option Value} {base : Heap} {T : List (Addr × Str)}
/-! ### cost_by_index -/
def sCostI (K : PySem.W.Frag) (ps : List Pm) (R : Pm) : Prop := ∃ (t : VaidxBase.Table) (q : VaidxBase.Question) (o : Vaidxd.Offer), OkT t ∧ OkQ t.cols q ∧ OkO t.cols o ∧ ps = [pTab K t, pQ K q, pX K o] ∧ R = pZ (costI t o.index q)
theorem sc19 : FnScope ["table", "question", "index", "free", "groups", "touched", "cost"] ["table", "question", "index"] (defScope (top 19)) := ⟨rfl, rfl, rfl, by decide +kernel, rfl, by decide +kernel, by decide +kernel⟩
theorem ok_costI (E : Tp T K mg base) : DefOk P w K mg base T 6 "cost_by_index" ["table", "question", "index"] (sCostI K) := by
  refine def_ok E E.g_cost_by_index E.d_cost_by_index sc19 (fun _ _ _ _ _ _ us hl => match us, hl with | [_, _, _], _ => rfl) (fun ps R ⟨_, _, _, _, _, _, h, _⟩ => by rw [h]; rfl) ?_
  rintro X A0 H0 ps R hx hf ⟨t, q, o, ht, hq, ho, rfl, rfl⟩
  have hlen : (inRange t o.index q).length ≤ 12 := Nat.le_trans (inRange_len t o.index q) ht.gl
  have hrow : ∀ g ∈ inRange t o.index q, g.row.length = t.cols := fun g hg => ht.row g (inRange_mem hg)
  have hpas : ∀ g ∈ inRange t o.index q, ∀ f ∈ q.filters, f.col < g.row.length := fun g hg f hf => by rw [hrow g hg]; exact hq.fc f hf
  have hpow : ∀ g ∈ inRange t o.index q, ∀ f ∈ ownF o.index q, f.col < g.row.length := fun g hg f hf => hpas g hg f (List.mem_filter.mp hf).1
  have h1 : (touched (limB (freeB o.index.keys q) q) q (inRange t o.index q)).sum ≤ 12000000 := touched_sum (fun g hg => ht.cnt g (inRange_mem hg)) hlen
  have h2 := rows_le (inRange t o.index q) (touched (limB (freeB o.index.keys q) q) q (inRange t o.index q)) (ownF o.index q)
  have h3 := rows_le (inRange t o.index q) (touched (limB (freeB o.index.keys q) q) q (inRange t o.index q)) q.filters
  have htl := touched_len (limB (freeB o.index.keys q) q) q (inRange t o.index q)
  unfold costI costOn
  dsimp only
  generalize hts : touched (limB (freeB o.index.keys q) q) q (inRange t o.index q) = ts at h1 h2 h3 htl ⊢
  refine st_seq (ss_set hx hf 3 (ev_call hx (ok_free E) (evs_cons (f_keys E hx (ev_var hx 2)) (evs_cons (ev_var hx 1) evs_nil)) ⟨_, q, by have := ho.kl; omega, hq.fl, hq.ol, rfl, rfl⟩)) ?_
  refine st_seq (ss_set hx hf 4 (ev_call hx (ok_inRange E) (evs_cons (ev_var hx 0) (evs_cons (ev_var hx 2) (evs_cons (ev_var hx 1) evs_nil))) ⟨t, o, q, ht, ho, hq, rfl, rfl⟩)) ?_
  refine st_seq (ss_set hx hf 5 (ev_call hx (ok_touch E) (evs_cons (ev_var hx 4) (evs_cons (ev_var hx 1) (evs_cons (ev_var hx 3) evs_nil))) ⟨_, q, _, hlen, hpas, rfl, rfl⟩)) ?_
  rw [hts]
  refine st_seq (ss_set hx hf 6 (R := pZ ts.sum) ((ev_sum hx E.b_sum ((ev_var hx 5 (R := pZs ts)).eq (pZs_ints ts))).eq (by rw [zs_sum]))) ?_
  refine st_seq (Γ1 := [.im (pTab K t), .im (pQ K q), .im (pX K o), .im (pB (freeB o.index.keys q)), .im (pLs pGrp (inRange t o.index q)), .im (pZs ts), .im (pZ (ts.sum + if coversB o.index q then 0 else 4 * rowsP (inRange t o.index q) ts (ownF o.index q)))])
    (ss_if (x := !coversB o.index q) (evt_not (evt_val (ev_call hx (ok_covers E) (evs_cons (ev_var hx 2) (evs_cons (ev_var hx 1) evs_nil)) ⟨o, q, ho.kl, ho.il, hq.fl, hq.ol, hq.wl, rfl, rfl⟩))) (fun h => ?_) fun h => ?_) ?_
  · have hc : coversB o.index q = false := by simpa using h
    rw [hc, if_neg Bool.false_ne_true]
    refine st_seq (ss_set hx hf 6 ((ev_add (ev_var hx 6) (ev_mul (cmulN (a := 4) (b := rowsP (inRange t o.index q) ts (ownF o.index q)) (by decide) (by omega)) ev_int (ev_call hx (ok_rows E) (evs_cons (ev_var hx 4) (evs_cons (ev_var hx 5) (evs_cons (ev_call hx (ok_ownF E) (evs_cons (ev_var hx 2) (evs_cons (ev_var hx 1) evs_nil)) ⟨o, q, ho.kl, ho.il, hq.fl, rfl, rfl⟩) evs_nil))) ⟨_, _, _, htl.symm, hpow, rfl, rfl⟩))).eq (R' := pZ (ts.sum + 4 * rowsP (inRange t o.index q) ts (ownF o.index q))) rfl)) (st_end ?_)
    walk_at "fg"
  · have hc : coversB o.index q = true := by simpa using h
    rw [hc, if_pos rfl]
    refine st_end ?_
    walk_at "fg"
  · generalize (ts.sum + if coversB o.index q then 0 else 4 * rowsP (inRange t o.index q) ts (ownF o.index q)) = c0
    refine st_seq (Γ1 := [.im (pTab K t), .im (pQ K q), .im (pX K o), .im (pB (freeB o.index.keys q)), .im (pLs pGrp (inRange t o.index q)), .im (pZs ts), .im (pZ (c0 + if freeB o.index.keys q then 0 else 3 * rowsP (inRange t o.index q) ts q.filters))])
      (ss_if (x := !freeB o.index.keys q) (evt_not (evt_val (ev_var hx 3))) (fun h => ?_) fun h => ?_) (st_last (ss_ret (ev_var hx 6)))
    · have hc : freeB o.index.keys q = false := by simpa using h
      rw [hc, if_neg Bool.false_ne_true]
      refine st_seq (ss_set hx hf 6 ((ev_add (ev_var hx 6) (ev_mul (cmulN (a := 3) (b := rowsP (inRange t o.index q) ts q.filters) (by decide) (by omega)) ev_int (ev_call hx (ok_rows E) (evs_cons (ev_var hx 4) (evs_cons (ev_var hx 5) (evs_cons (f_filters E hx (ev_var hx 1)) evs_nil))) ⟨_, _, _, htl.symm, hpas, rfl, rfl⟩))).eq (R' := pZ (c0 + 3 * rowsP (inRange t o.index q) ts q.filters)) rfl)) (st_end ?_)
      walk_at "fg"
    · have hc : freeB o.index.keys q = true := by simpa using h
      rw [hc, if_pos rfl]
      refine st_end ?_
      walk_at "fg"
/-! ### cost_by_table -/
def sCostT (K : PySem.W.Frag) (ps : List Pm) (R : Pm) : Prop := ∃ (t : VaidxBase.Table) (q : VaidxBase.Question), OkT t ∧ OkQ t.cols q ∧ ps = [pTab K t, pQ K q] ∧ R = pZ (costT t q)
theorem sc20 : FnScope ["table", "question", "free", "touched", "cost"] ["table", "question"] (defScope (top 20)) := ⟨rfl, rfl, rfl, by decide +kernel, rfl, by decide +kernel, by decide +kernel⟩
theorem ok_costT (E : Tp T K mg base) : DefOk P w K mg base T 3 "cost_by_table" ["table", "question"] (sCostT K) := by
  refine def_ok E E.g_cost_by_table E.d_cost_by_table sc20 (fun _ _ _ _ _ _ us hl => match us, hl with | [_, _], _ => rfl) (fun ps R ⟨_, _, _, _, h, _⟩ => by rw [h]; rfl) ?_
  rintro X A0 H0 ps R hx hf ⟨t, q, ht, hq, rfl, rfl⟩
  have hpas : ∀ g ∈ t.groups, ∀ f ∈ q.filters, f.col < g.row.length := fun g hg f hf => by rw [ht.row g hg]; exact hq.fc f hf
  have h1 : (touched (limB (freeB [] q) q) q t.groups).sum ≤ 12000000 := touched_sum ht.cnt ht.gl
  have h3 := rows_le t.groups (touched (limB (freeB [] q) q) q t.groups) q.filters
  have htl := touched_len (limB (freeB [] q) q) q t.groups
  unfold costT
  dsimp only
  generalize hts : touched (limB (freeB [] q) q) q t.groups = ts at h1 h3 htl ⊢
  refine st_seq (ss_set hx hf 2 (ev_call hx (ok_free E) (evs_cons (ev_lst evs_nil) (evs_cons (ev_var hx 1) evs_nil)) ⟨[], q, by decide, hq.fl, hq.ol, rfl, rfl⟩)) ?_
  refine st_seq (ss_set hx hf 3 (ev_call hx (ok_touch E) (evs_cons (f_groups E hx (ev_var hx 0)) (evs_cons (ev_var hx 1) (evs_cons (ev_var hx 2) evs_nil))) ⟨_, q, _, ht.gl, hpas, rfl, rfl⟩)) ?_
  rw [hts]
  refine st_seq (ss_set hx hf 4 (R := pZ (2 * ts.sum)) ((ev_mul (cmulN (a := 2) (b := ts.sum) (by decide) (by omega)) ev_int ((ev_sum hx E.b_sum ((ev_var hx 3 (R := pZs ts)).eq (pZs_ints ts))).eq (by rw [zs_sum]))).eq rfl)) ?_
  generalize 2 * ts.sum = c0
  refine st_seq (Γ1 := [.im (pTab K t), .im (pQ K q), .im (pB (freeB [] q)), .im (pZs ts), .im (pZ (c0 + if freeB [] q then 0 else 3 * rowsP t.groups ts q.filters))])
    (ss_if (x := !freeB [] q) (evt_not (evt_val (ev_var hx 2))) (fun h => ?_) fun h => ?_) (st_last (ss_ret (ev_var hx 4)))
  · have hc : freeB [] q = false := by simpa using h
    rw [hc, if_neg Bool.false_ne_true]
    refine st_seq (ss_set hx hf 4 ((ev_add (ev_var hx 4) (ev_mul (cmulN (a := 3) (b := rowsP t.groups ts q.filters) (by decide) (by omega)) ev_int (ev_call hx (ok_rows E) (evs_cons (f_groups E hx (ev_var hx 0)) (evs_cons (ev_var hx 3) (evs_cons (f_filters E hx (ev_var hx 1)) evs_nil))) ⟨_, _, _, htl.symm, hpas, rfl, rfl⟩))).eq (R' := pZ (c0 + 3 * rowsP t.groups ts q.filters)) rfl)) (st_end ?_)
    walk_at "fg"
  · have hc : freeB [] q = true := by simpa using h
    rw [hc, if_pos rfl]
    refine st_end ?_
    walk_at "fg"
/-! ### ways_of -/
def wayStep (t : VaidxBase.Table) (q : VaidxBase.Question) (l : List Int) (o : Vaidxd.Offer) : List Int := l ++ [if servesB o.index q then (costI t o.index q : Int) else -1]
theorem wayStep_fold (t : VaidxBase.Table) (q : VaidxBase.Question) : ∀ (os : List Vaidxd.Offer) (l : List Int), os.foldl (wayStep t q) l = l ++ os.map fun o => if servesB o.index q then (costI t o.index q : Int) else -1
  | [], l => by simp
  | o :: r, l => by
    rw [List.foldl_cons, wayStep_fold t q r]
    unfold wayStep
    simp
def sWays (K : PySem.W.Frag) (ps : List Pm) (R : Pm) : Prop := ∃ (t : VaidxBase.Table) (q : VaidxBase.Question) (os : List Vaidxd.Offer), OkT t ∧ OkQ t.cols q ∧ (∀ o ∈ os, OkO t.cols o) ∧ os.length ≤ 8 ∧ ps = [pTab K t, pQ K q, pLs (pX K) os] ∧ R = pIs (waysL t q os)
theorem sc21 : FnScope ["table", "question", "indexes", "out", "index"] ["table", "question", "indexes"] (defScope (top 21)) := ⟨rfl, rfl, rfl, by decide +kernel, rfl, by decide +kernel, by decide +kernel⟩
theorem ok_ways (E : Tp T K mg base) : DefOk P w K mg base T 7 "ways_of" ["table", "question", "indexes"] (sWays K) := by
  refine def_ok E E.g_ways_of E.d_ways_of sc21 (fun _ _ _ _ _ _ us hl => match us, hl with | [_, _, _], _ => rfl) (fun ps R ⟨_, _, _, _, _, _, _, h, _⟩ => by rw [h]; rfl) ?_
  rintro X A0 H0 ps R hx hf ⟨t, q, os, ht, hq, ho, hl, rfl, rfl⟩
  refine st_seq (ss_setM hx hf 3 (ps := [pI (costT t q)]) (evs_cons (ev_call hx (ok_costT E) (evs_cons (ev_var hx 0) (evs_cons (ev_var hx 1) evs_nil)) ⟨t, q, ht, hq, rfl, rfl⟩) evs_nil)) ?_
  refine st_fold (R := pX K) (xs := os) hx (fun l : List Int => [.im (pTab K t), .im (pQ K q), .im (pLs (pX K) os), .mu (l.map pI), .un]) (wayStep t q) (fun i l => l.length = i + 1) [(costT t q : Int)] (ev_var hx 2) (Fg.refl _) rfl (fun i l o hi hl' => ⟨?_, ?_⟩) fun _ => ?_
  · unfold wayStep
    rw [List.length_append, hl']
    rfl
  · have hio := lt_of_get hi
    have hok := ho o (List.mem_of_getElem? hi)
    refine ⟨_, _, tg_name hx 4, st_seq (Γ1 := [.im (pTab K t), .im (pQ K q), .im (pLs (pX K) os), .mu ((wayStep t q l o).map pI), .un]) (ss_if (x := servesB o.index q) (evt_val (ev_call hx (ok_serves E) (evs_cons (ev_var hx 4) (evs_cons (ev_var hx 1) evs_nil)) ⟨o, q, rfl, rfl⟩)) (fun h => ?_) fun h => ?_) st_nil⟩
    · refine st_seq (ss_app (ps := l.map pI) (R := pI (costI t o.index q)) hx 3 (ev_call hx (ok_costI E) (evs_cons (ev_var hx 0) (evs_cons (ev_var hx 1) (evs_cons (ev_var hx 4) evs_nil))) ⟨t, q, o, ht, hq, hok, rfl, rfl⟩) (oneMu_of rfl) (small_lt (by rw [List.length_map]; omega))) (st_end ?_)
      unfold wayStep
      rw [if_pos h, List.map_append]
      walk_at "fg"
    · refine st_seq (ss_app (ps := l.map pI) (R := pI (-1)) hx 3 (ev_neg ev_int) (oneMu_of rfl) (small_lt (by rw [List.length_map]; omega))) (st_end ?_)
      unfold wayStep
      rw [if_neg (by rw [h]; decide), List.map_append]
      walk_at "fg"
  · rw [wayStep_fold]
    exact st_last (ss_retM hx 3)
end
end IX
end

section
set_option Elab.async false
set_option linter.all false
set_option maxRecDepth 100000
set_option maxHeartbeats 2000000
namespace IX
open PySem PySem.Spec PyProof.Rows L2
section
variable {P : Program} {w : World} {K : PySem.W.Frag} {mg : Str → Option Value} {base : Heap} {T : List (Addr × Str)}
theorem spRec_len {C : Addr} {fs : List Str} {n : Nat} (h : fs.length + 1 = n) : ∀ vs H Q E, spRec C fs vs H Q E → vs.length = n := by
  rintro vs H Q E ⟨p, dx, xs, rfl, hl, _⟩
  rw [List.length_cons, hl, h]
theorem nxe {Q : VK} {v : V} {H H' : Hp} (h : Q v H) (e : H = H') : Q v H' := e ▸ h
theorem scTable : FnScope ["self", "width", "groups"] ["self", "width", "groups"] (defScope (inClass (top 23) 0)) := ⟨rfl, rfl, rfl, by decide +kernel, rfl, by decide +kernel, by decide +kernel⟩
theorem mk_Table (E : Tp T K mg base) : MkOk P w K mg base "Table" ["self", "width", "groups"] ["width", "groups"] := by
  obtain ⟨fd, F⟩ := E.d_Table___init__
  refine ⟨_, _, fd, E.g_Table, rfl, E.m_Table, F.bindsN (fun _ _ _ _ _ _ us hl => match us, hl with | [_, _, _], _ => rfl), F.ok scTable (spRec_len rfl) ?_⟩
  rintro cdv A outer s H vs Q E' hr ⟨p, dx, xs, rfl, hl, hp, q⟩
  obtain ⟨x1, x2, rfl⟩ : ∃ x1 x2, xs = [x1, x2] := match xs, hl with | [a, b], _ => ⟨a, b, rfl⟩
  refine ⟨_, PSs.nox (pss_cons (ps_fld (pe_var (i := 0) rfl (Or.inl rfl)) (pe_var (i := 1) rfl (Or.inl rfl)) rfl) (pss_one (ps_fld (pe_var (i := 0) rfl (Or.inl rfl)) (pe_var (i := 2) rfl (Or.inl rfl)) rfl))), ?_⟩
  refine ⟨x1, rfl, _, rfl, p, _, dx, [], rfl, hp, E.c_Table, E.n_Table_width, by decide, ?_⟩
  refine ⟨x2, rfl, _, rfl, p, _, dx, _, rfl, upd_same, E.c_Table, E.n_Table_groups, Nat.lt_of_le_of_lt (length_putF _ _ _) (by decide), ?_⟩
  refine nxe q ?_
  rw [upd_upd]
  rfl
theorem scQuestion : FnScope ["self", "filters", "order", "backwards", "wanted", "limit", "times"] ["self", "filters", "order", "backwards", "wanted", "limit", "times"] (defScope (inClass (top 24) 0)) := ⟨rfl, rfl, rfl, by decide +kernel, rfl, by decide +kernel, by decide +kernel⟩
theorem mk_Question (E : Tp T K mg base) : MkOk P w K mg base "Question" ["self", "filters", "order", "backwards", "wanted", "limit", "times"] ["filters", "order", "backwards", "wanted", "limit", "times"] := by
  obtain ⟨fd, F⟩ := E.d_Question___init__
  refine ⟨_, _, fd, E.g_Question, rfl, E.m_Question, F.bindsN (fun _ _ _ _ _ _ us hl => match us, hl with | [_, _, _, _, _, _, _], _ => rfl), F.ok scQuestion (spRec_len rfl) ?_⟩
  rintro cdv A outer s H vs Q E' hr ⟨p, dx, xs, rfl, hl, hp, q⟩
  obtain ⟨x1, x2, x3, x4, x5, x6, rfl⟩ : ∃ x1 x2 x3 x4 x5 x6, xs = [x1, x2, x3, x4, x5, x6] := match xs, hl with | [a, b, c, d, e, f], _ => ⟨a, b, c, d, e, f, rfl⟩
  refine ⟨_, PSs.nox (pss_cons (ps_fld (pe_var (i := 0) rfl (Or.inl rfl)) (pe_var (i := 1) rfl (Or.inl rfl)) rfl) (pss_cons (ps_fld (pe_var (i := 0) rfl (Or.inl rfl)) (pe_var (i := 2) rfl (Or.inl rfl)) rfl) (pss_cons (ps_fld (pe_var (i := 0) rfl (Or.inl rfl)) (pe_var (i := 3) rfl (Or.inl rfl)) rfl)
    (pss_cons (ps_fld (pe_var (i := 0) rfl (Or.inl rfl)) (pe_var (i := 4) rfl (Or.inl rfl)) rfl) (pss_cons (ps_fld (pe_var (i := 0) rfl (Or.inl rfl)) (pe_var (i := 5) rfl (Or.inl rfl)) rfl) (pss_one (ps_fld (pe_var (i := 0) rfl (Or.inl rfl)) (pe_var (i := 6) rfl (Or.inl rfl)) rfl))))))), ?_⟩
  refine ⟨x1, rfl, _, rfl, p, _, dx, [], rfl, hp, E.c_Question, E.n_Question_filters, by decide, ?_⟩
  refine ⟨x2, rfl, _, rfl, p, _, dx, _, rfl, upd_same, E.c_Question, E.n_Question_order, Nat.lt_of_le_of_lt (length_putF _ _ _) (by decide), ?_⟩
  refine ⟨x3, rfl, _, rfl, p, _, dx, _, rfl, upd_same, E.c_Question, E.n_Question_backwards, (show 2 < 1000 by decide), ?_⟩
  refine ⟨x4, rfl, _, rfl, p, _, dx, _, rfl, upd_same, E.c_Question, E.n_Question_wanted, (show 3 < 1000 by decide), ?_⟩
  refine ⟨x5, rfl, _, rfl, p, _, dx, _, rfl, upd_same, E.c_Question, E.n_Question_limit, (show 4 < 1000 by decide), ?_⟩
  refine ⟨x6, rfl, _, rfl, p, _, dx, _, rfl, upd_same, E.c_Question, E.n_Question_times, (show 5 < 1000 by decide), ?_⟩
  refine nxe q ?_
  rw [upd_upd, upd_upd, upd_upd, upd_upd, upd_upd]
  rfl
theorem scIndex : FnScope ["self", "key_columns", "included", "conditions", "upkeep"] ["self", "key_columns", "included", "conditions", "upkeep"] (defScope (inClass (top 25) 0)) := ⟨rfl, rfl, rfl, by decide +kernel, rfl, by decide +kernel, by decide +kernel⟩
theorem mk_Index (E : Tp T K mg base) : MkOk P w K mg base "Index" ["self", "key_columns", "included", "conditions", "upkeep"] ["key_columns", "included", "conditions", "upkeep"] := by
  obtain ⟨fd, F⟩ := E.d_Index___init__
  refine ⟨_, _, fd, E.g_Index, rfl, E.m_Index, F.bindsN (fun _ _ _ _ _ _ us hl => match us, hl with | [_, _, _, _, _], _ => rfl), F.ok scIndex (spRec_len rfl) ?_⟩
  rintro cdv A outer s H vs Q E' hr ⟨p, dx, xs, rfl, hl, hp, q⟩
  obtain ⟨x1, x2, x3, x4, rfl⟩ : ∃ x1 x2 x3 x4, xs = [x1, x2, x3, x4] := match xs, hl with | [a, b, c, d], _ => ⟨a, b, c, d, rfl⟩
  refine ⟨_, PSs.nox (pss_cons (ps_fld (pe_var (i := 0) rfl (Or.inl rfl)) (pe_var (i := 1) rfl (Or.inl rfl)) rfl) (pss_cons (ps_fld (pe_var (i := 0) rfl (Or.inl rfl)) (pe_var (i := 2) rfl (Or.inl rfl)) rfl) (pss_cons (ps_fld (pe_var (i := 0) rfl (Or.inl rfl)) (pe_var (i := 3) rfl (Or.inl rfl)) rfl)
    (pss_one (ps_fld (pe_var (i := 0) rfl (Or.inl rfl)) (pe_var (i := 4) rfl (Or.inl rfl)) rfl))))), ?_⟩
  refine ⟨x1, rfl, _, rfl, p, _, dx, [], rfl, hp, E.c_Index, E.n_Index_key_columns, by decide, ?_⟩
  refine ⟨x2, rfl, _, rfl, p, _, dx, _, rfl, upd_same, E.c_Index, E.n_Index_included, Nat.lt_of_le_of_lt (length_putF _ _ _) (by decide), ?_⟩
  refine ⟨x3, rfl, _, rfl, p, _, dx, _, rfl, upd_same, E.c_Index, E.n_Index_conditions, (show 2 < 1000 by decide), ?_⟩
  refine ⟨x4, rfl, _, rfl, p, _, dx, _, rfl, upd_same, E.c_Index, E.n_Index_upkeep, (show 3 < 1000 by decide), ?_⟩
  refine nxe q ?_
  rw [upd_upd, upd_upd, upd_upd]
  rfl
theorem scPlan : FnScope ["self", "chosen", "upkeep", "rises"] ["self", "chosen", "upkeep", "rises"] (defScope (inClass (top 26) 0)) := ⟨rfl, rfl, rfl, by decide +kernel, rfl, by decide +kernel, by decide +kernel⟩
theorem mk_Plan (E : Tp T K mg base) : MkOk P w K mg base "Plan" ["self", "chosen", "upkeep", "rises"] ["chosen", "upkeep", "rises"] := by
  obtain ⟨fd, F⟩ := E.d_Plan___init__
  refine ⟨_, _, fd, E.g_Plan, rfl, E.m_Plan, F.bindsN (fun _ _ _ _ _ _ us hl => match us, hl with | [_, _, _, _], _ => rfl), F.ok scPlan (spRec_len rfl) ?_⟩
  rintro cdv A outer s H vs Q E' hr ⟨p, dx, xs, rfl, hl, hp, q⟩
  obtain ⟨x1, x2, x3, rfl⟩ : ∃ x1 x2 x3, xs = [x1, x2, x3] := match xs, hl with | [a, b, c], _ => ⟨a, b, c, rfl⟩
  refine ⟨_, PSs.nox (pss_cons (ps_fld (pe_var (i := 0) rfl (Or.inl rfl)) (pe_var (i := 1) rfl (Or.inl rfl)) rfl) (pss_cons (ps_fld (pe_var (i := 0) rfl (Or.inl rfl)) (pe_var (i := 2) rfl (Or.inl rfl)) rfl)
    (pss_one (ps_fld (pe_var (i := 0) rfl (Or.inl rfl)) (pe_var (i := 3) rfl (Or.inl rfl)) rfl)))), ?_⟩
  refine ⟨x1, rfl, _, rfl, p, _, dx, [], rfl, hp, E.c_Plan, E.n_Plan_chosen, by decide, ?_⟩
  refine ⟨x2, rfl, _, rfl, p, _, dx, _, rfl, upd_same, E.c_Plan, E.n_Plan_upkeep, Nat.lt_of_le_of_lt (length_putF _ _ _) (by decide), ?_⟩
  refine ⟨x3, rfl, _, rfl, p, _, dx, _, rfl, upd_same, E.c_Plan, E.n_Plan_rises, (show 2 < 1000 by decide), ?_⟩
  refine nxe q ?_
  rw [upd_upd, upd_upd]
  rfl
end
end IX
end

section
set_option Elab.async false
set_option linter.all false
set_option maxRecDepth 100000
set_option maxHeartbeats 2000000
namespace IX
open PySem PySem.Spec PyProof.Rows L2
local macro_rules | `(tactic| walk_at "fg") => `(tactic| repeat (first | exact All2.nil | exact Fg.refl _ | refine All2.cons (by first | exact Or.inl rfl | exact Or.inr rfl) ?_))
/-! ### what is computed -/
def roomR (t : VaidxBase.Table) (i : VaidxBase.Index) : Nat := ((entryG t i).map fun g => g.count).sum * (i.keys.length + i.others.length + 1)
def beginOf (s : List Nat) : Nat := match s.getLast? with
  | none => 0
  | some x => x + 1
def longStep (n : Nat) (out : List (List Nat)) (s : List Nat) : List (List Nat) := (List.range' (beginOf s) (n - beginOf s)).foldl (fun o k => o ++ [s ++ [k]]) out
def longer (level : List (List Nat)) (n : Nat) : List (List Nat) := level.foldl (longStep n) []
def setsStep (n : Nat) (s : List (List Nat) × List (List Nat)) (_ : Nat) : List (List Nat) × List (List Nat) := (longer s.1 n, s.2 ++ longer s.1 n)
def setsN (n : Nat) : List (List Nat) := ((List.range n).foldl (setsStep n) ([[]], [[]])).2
def setsFine (n i : Nat) : Bool :=
  let s := (List.range i).foldl (setsStep n) ([[]], [[]])
  decide (s.1.length ≤ 100) && (s.1.all fun x => decide (x.length ≤ 8) && x.all fun k => decide (k < n)) && decide (s.2.length ≤ 300)
theorem setsFine_all : ∀ n, n < 9 → ∀ i, i < 9 → setsFine n i = true := by decide +kernel
theorem setsN_fine : ∀ n, n < 9 → ((setsN n).all fun x => decide (x.length ≤ 8) && x.all fun k => decide (k < n)) = true := by decide +kernel
theorem setsN_len : ∀ n, n < 9 → (setsN n).length ≤ 300 := by decide +kernel
def wayAt (ws : List Int) (k : Nat) : Int := (ws[k]?).getD 0
def askStep (ws : List Int) (a : Int) (k : Nat) : Int := if 0 ≤ wayAt ws (k + 1) then min a (wayAt ws (k + 1)) else a
def askI (ws : List Int) (s : List Nat) : Int := s.foldl (askStep ws) (wayAt ws 0)
def askC (ws : List Int) (s : List Nat) : Nat := (askI ws s).toNat
def upkAt (os : List Vaidxd.Offer) (k : Nat) : Nat := ((os[k]?).map fun o => o.upkeep).getD 0
def planOf (os : List Vaidxd.Offer) (aws : List (List Int)) (s : List Nat) : Pl := ⟨s, (s.map (upkAt os)).sum, aws.map fun ws => askC ws s⟩
def natAt (l : List Nat) (k : Nat) : Nat := (l[k]?).getD 0
def plansIn (t : VaidxBase.Table) (qs : List VaidxBase.Question) (os : List Vaidxd.Offer) (room : Nat) : List Pl :=
  ((setsN os.length).filter fun s => decide ((s.map (natAt (os.map fun o => roomR t o.index))).sum ≤ room)).map (planOf os (qs.map fun q => waysL t q os))
def costStep (a : Nat) (x : Nat × Nat) : Nat := a + x.1 * x.2
def costOf (p : Pl) (ts : List Nat) : Nat := (p.rises.zip ts).foldl costStep p.upkeep
def costW (p : Pl) (ts : List Nat) (n : Nat) : Nat := costOf p ts - natAt p.rises n * natAt ts n
def leastStep (ts : List Nat) (b : Option Pl) (p : Pl) : Option Pl := match b with
  | none => some p
  | some x => if costOf p ts < costOf x ts then some p else some x
def firstP (ps : List Pl) (ts : List Nat) : Option Pl := ps.foldl (leastStep ts) none
/-! ### about these -/
theorem askStep_mem (ws : List Int) : ∀ (s : List Nat) (a : Int), s.foldl (askStep ws) a ∈ a :: (s.filter fun k => decide (0 ≤ wayAt ws (k + 1))).map fun k => wayAt ws (k + 1)
  | [], a => by simp
  | k :: r, a => by
    rw [List.foldl_cons]
    have ih := askStep_mem ws r (askStep ws a k)
    by_cases h : 0 ≤ wayAt ws (k + 1)
    · rw [List.filter_cons_of_pos (by simpa using h), List.map_cons]
      have e : askStep ws a k = min a (wayAt ws (k + 1)) := if_pos h
      rcases List.mem_cons.mp ih with z | z
      · rcases Int.le_total a (wayAt ws (k + 1)) with q | q
        · rw [Int.min_eq_left q] at e
          exact List.mem_cons.mpr (.inl (z.trans e))
        · rw [Int.min_eq_right q] at e
          exact List.mem_cons.mpr (.inr (List.mem_cons.mpr (.inl (z.trans e))))
      · exact List.mem_cons.mpr (.inr (List.mem_cons.mpr (.inr z)))
    · have e : askStep ws a k = a := if_neg h
      rw [e] at ih ⊢
      rw [List.filter_cons_of_neg (by simpa using h)]
      exact ih
theorem askStep_le (ws : List Int) : ∀ (s : List Nat) (a : Int), s.foldl (askStep ws) a ≤ a ∧ ∀ k ∈ s, 0 ≤ wayAt ws (k + 1) → s.foldl (askStep ws) a ≤ wayAt ws (k + 1)
  | [], a => ⟨Int.le_refl _, fun k hk => by cases hk⟩
  | k :: r, a => by
    rw [List.foldl_cons]
    obtain ⟨h1, h2⟩ := askStep_le ws r (askStep ws a k)
    have h3 : askStep ws a k ≤ a := by
      unfold askStep
      split
      · exact Int.min_le_left _ _
      · exact Int.le_refl _
    refine ⟨Int.le_trans h1 h3, fun j hj h0 => ?_⟩
    rcases List.mem_cons.mp hj with rfl | z
    · refine Int.le_trans h1 ?_
      unfold askStep
      rw [if_pos h0]
      exact Int.min_le_right _ _
    · exact h2 j z h0
theorem askI_nonneg {ws : List Int} {s : List Nat} (h : 0 ≤ wayAt ws 0) : 0 ≤ askI ws s := by
  have := askStep_mem ws s (wayAt ws 0)
  unfold askI
  rcases List.mem_cons.mp this with z | z
  · rw [z]; exact h
  · obtain ⟨k, hk, e⟩ := List.mem_map.mp z
    rw [← e]
    simpa using (List.mem_filter.mp hk).2
theorem askC_cast {ws : List Int} {s : List Nat} (h : 0 ≤ wayAt ws 0) : ((askC ws s : Nat) : Int) = askI ws s := Int.toNat_of_nonneg (askI_nonneg h)
theorem askC_le {ws : List Int} {s : List Nat} {m : Nat} (h : wayAt ws 0 ≤ (m : Int)) : askC ws s ≤ m := by
  have := (askStep_le ws s (wayAt ws 0)).1
  unfold askC askI
  omega
theorem waysL_at0 (t : VaidxBase.Table) (q : VaidxBase.Question) (os : List Vaidxd.Offer) : wayAt (waysL t q os) 0 = (costT t q : Int) := rfl
theorem waysL_len (t : VaidxBase.Table) (q : VaidxBase.Question) (os : List Vaidxd.Offer) : (waysL t q os).length = os.length + 1 := by
  unfold waysL
  rw [List.length_cons, List.length_map]
theorem longStep_len (n : Nat) (out : List (List Nat)) (s : List Nat) : (longStep n out s).length ≤ out.length + n := by
  have key : ∀ (l : List Nat) (o : List (List Nat)), (l.foldl (fun o k => o ++ [s ++ [k]]) o).length = o.length + l.length := by
    intro l
    induction l with
    | nil => intro o; rfl
    | cons a r ih => intro o; rw [List.foldl_cons, ih, List.length_append]; simp; omega
  unfold longStep
  rw [key, List.length_range']
  omega
theorem costStep_ge : ∀ (l : List (Nat × Nat)) (a : Nat), a ≤ l.foldl costStep a
  | [], a => Nat.le_refl _
  | x :: r, a => Nat.le_trans (Nat.le_add_right _ _) (costStep_ge r (costStep a x))
theorem cost_part : ∀ (rs ts : List Nat) (a n : Nat), natAt rs n * natAt ts n ≤ (rs.zip ts).foldl costStep a ∨ ¬ (n < rs.length ∧ n < ts.length)
  | [], ts, a, n => .inr (by simp)
  | r :: rs, [], a, n => .inr (by simp)
  | r :: rs, t :: ts, a, 0 => .inl (by
    rw [List.zip_cons_cons, List.foldl_cons]
    have h := costStep_ge (rs.zip ts) (costStep a (r, t))
    have e : costStep a (r, t) = a + r * t := rfl
    have e2 : natAt (r :: rs) 0 * natAt (t :: ts) 0 = r * t := rfl
    rw [e2]
    omega)
  | r :: rs, t :: ts, a, n + 1 => by
    rw [List.zip_cons_cons, List.foldl_cons]
    rcases cost_part rs ts (costStep a (r, t)) n with h | h
    · exact .inl h
    · refine .inr fun z => h ?_
      simp only [List.length_cons] at z
      omega
theorem costW_cast {p : Pl} {ts : List Nat} {n : Nat} (h1 : n < p.rises.length) (h2 : n < ts.length) : ((costW p ts n : Nat) : Int) = (costOf p ts : Int) - (natAt p.rises n : Int) * (natAt ts n : Int) := by
  rcases cost_part p.rises ts p.upkeep n with h | h
  · unfold costW
    have h' : natAt p.rises n * natAt ts n ≤ costOf p ts := h
    rw [Int.ofNat_sub h', Int.natCast_mul]
  · exact absurd ⟨h1, h2⟩ h
theorem natAt_get {l : List Nat} {k : Nat} (h : k < l.length) : l[k]? = some (natAt l k) := by
  unfold natAt
  rw [List.getElem?_eq_getElem h]
  rfl
theorem wayAt_get {l : List Int} {k : Nat} (h : k < l.length) : l[k]? = some (wayAt l k) := by
  unfold wayAt
  rw [List.getElem?_eq_getElem h]
  rfl
theorem wayAt_atI {ws : List Int} {k : Nat} (h : k < ws.length) {j : Int} (hj : j = (k : Int)) : atI (ws.map pI) j = some (pI (wayAt ws k)) := by
  subst hj
  exact atI_map (R := pI) (wayAt_get h)
structure OkPl (n : Nat) (p : Pl) : Prop where
  rl : p.rises.length = n
  rb : ∀ r ∈ p.rises, r ≤ 100000000
  up : p.upkeep ≤ 8000000000
theorem natAt_mem {l : List Nat} {k : Nat} (h : k < l.length) : natAt l k ∈ l := List.mem_of_getElem? (natAt_get h)
section
variable {P : Program} {w : World} {K : PySem.W.Frag} {mg : Str → Option Value} {base : Heap} {T : List (Addr × Str)}
/-! ### room_of -/
theorem entry_sum {t : VaidxBase.Table} {i : VaidxBase.Index} (ht : OkT t) : ((entryG t i).map fun g => g.count).sum ≤ 12000000 := by
  have h1 : ∀ x ∈ (entryG t i).map fun g => g.count, x ≤ 1000000 := fun x hx => by
    obtain ⟨g, hg, rfl⟩ := List.mem_map.mp hx
    exact ht.cnt g (entry_mem hg)
  have h2 := sum_le_mul h1
  have h3 : ((entryG t i).map fun g => g.count).length ≤ 12 := by
    rw [List.length_map]
    exact Nat.le_trans (List.length_filter_le _ _) ht.gl
  have h4 : ((entryG t i).map fun g => g.count).length * 1000000 ≤ 12 * 1000000 := Nat.mul_le_mul_right _ h3
  omega
def sRoom (K : PySem.W.Frag) (ps : List Pm) (R : Pm) : Prop := ∃ (t : VaidxBase.Table) (o : Vaidxd.Offer), OkT t ∧ OkO t.cols o ∧ ps = [pTab K t, pX K o] ∧ R = pZ (roomR t o.index)
theorem sc28 : FnScope ["table", "index", "columns", "values", "rows"] ["table", "index"] (defScope (top 28)) := ⟨rfl, rfl, rfl, by decide +kernel, rfl, by decide +kernel, by decide +kernel⟩
theorem ok_room (E : Tp T K mg base) : DefOk P w K mg base T 3 "room_of" ["table", "index"] (sRoom K) := by
  refine def_ok E E.g_room_of E.d_room_of sc28 (fun _ _ _ _ _ _ us hl => match us, hl with | [_, _], _ => rfl) (fun ps R ⟨_, _, _, _, h, _⟩ => by rw [h]; rfl) ?_
  rintro X A0 H0 ps R hx hf ⟨t, o, ht, ho, rfl, rfl⟩
  have hs := entry_sum (i := o.index) ht
  have hk := ho.kl
  have hi := ho.il
  refine st_seq (ss_set hx hf 2 (R := pZ (o.index.keys.length + o.index.others.length)) ((ev_add (ev_len hx E.b_len (f_keys E hx (ev_var hx 1))) (ev_len hx E.b_len (f_included E hx (ev_var hx 1)))).eq (by rw [List.length_map, List.length_map]; rfl))) ?_
  refine st_last (ss_ret ((ev_mul (x := (((entryG t o.index).map fun g => g.count).sum : Nat)) (y := ((o.index.keys.length + o.index.others.length + 1 : Nat) : Int)) (cmulN (by omega) (by omega)) ((ev_sum (ns := zs ((entryG t o.index).map fun g => g.count)) hx E.b_sum ((ev_lc (R := pGrp) (S := fun g => pZ g.count) (xs := entryG t o.index) hx [("values", 3), ("rows", 4)] (fun _ => true) (small_size (Nat.le_trans (List.length_filter_le _ _) (by have := ht.gl; omega)))
    (ev_call hx (ok_entry E) (evs_cons (ev_var hx 0) (evs_cons (ev_var hx 1) evs_nil)) ⟨t, o, ht.gl, fun g hg f hf => by rw [ht.row g hg]; exact ho.oc f hf, rfl, rfl⟩)
    (fun g hg => ⟨_, fun X' hx' => tg_tup2 hx' 3 4 (R1 := pZs g.row) (R2 := pZ g.count), fun X' hx' => .nil, fun _ X' hx' => ev_var hx' 4⟩)).eq ?_)).eq (by rw [zs_sum])) ((ev_add (ev_var hx 2) ev_int).eq rfl)).eq ?_))
  · rw [filter_true, ← pZs_ints, pZs, pLs, List.map_map]
    rfl
  · unfold roomR
    rw [← Int.natCast_mul]
/-! ### one_longer, sets_in_order -/
theorem getLast_at {s : List Nat} (h : 0 < s.length) : ∃ x, s.getLast? = some x ∧ atI (s.map pZ) (-1) = some (pZ x) ∧ x ∈ s := by
  refine ⟨s[s.length - 1], ?_, ?_, List.getElem_mem _⟩
  · rw [List.getLast?_eq_getElem?, List.getElem?_eq_getElem (by omega)]
  · have e2 : ixN (s.map pZ).length (-1) = some (s.length - 1) := by
      unfold ixN
      rw [List.length_map, if_neg (by decide), if_pos (by omega)]
      congr 1
      omega
    unfold atI
    rw [e2]
    show (s.map pZ)[s.length - 1]? = _
    rw [List.getElem?_map, List.getElem?_eq_getElem (by omega)]
    rfl
theorem beginOf_pos {s : List Nat} {x : Nat} (h : s.getLast? = some x) : beginOf s = x + 1 := by
  unfold beginOf
  rw [h]
def sLonger (ps : List Pm) (R : Pm) : Prop := ∃ (level : List (List Nat)) (n : Nat), level.length ≤ 1000 ∧ n ≤ 100 ∧ (∀ s ∈ level, s.length ≤ 100 ∧ ∀ k ∈ s, k ≤ 1000) ∧ ps = [pLs pZs level, pZ n] ∧ R = pLs pZs (longer level n)
theorem sc29 : FnScope ["level", "many", "out", "chosen", "begin", "k"] ["level", "many"] (defScope (top 29)) := ⟨rfl, rfl, rfl, by decide +kernel, rfl, by decide +kernel, by decide +kernel⟩
theorem ok_longer (E : Tp T K mg base) : DefOk P w K mg base T 1 "one_longer" ["level", "many"] sLonger := by
  refine def_ok E E.g_one_longer E.d_one_longer sc29 (fun _ _ _ _ _ _ us hl => match us, hl with | [_, _], _ => rfl) (fun ps R ⟨_, _, _, _, _, h, _⟩ => by rw [h]; rfl) ?_
  rintro X A0 H0 ps R hx hf ⟨level, n, h1, h2, h3, rfl, rfl⟩
  refine st_seq (ss_setM hx hf 2 evs_nil) ?_
  refine st_fold (R := pZs) (xs := level) hx (fun out : List (List Nat) => [.im (pLs pZs level), .im (pZ n), .mu (out.map pZs), .un, .un, .un]) (longStep n) (fun i out => out.length ≤ i * 100) [] (ev_var hx 0) (Fg.refl _) (by decide) (fun i out s hi hl => ⟨?_, ?_⟩) fun _ => st_last (ss_retM hx 2)
  · have := longStep_len n out s
    omega
  · have hio := lt_of_get hi
    obtain ⟨hs1, hs2⟩ := h3 s (List.mem_of_getElem? hi)
    refine ⟨_, _, tg_name hx 3, ?_⟩
    have hbeg : beginOf s ≤ 1001 := by
      unfold beginOf
      cases e : s.getLast? with
      | none => decide
      | some x => have := hs2 x (List.mem_of_getLast? e); show x + 1 ≤ 1001; omega
    refine st_seq (ss_set hx hf 4 (R := pZ (beginOf s)) (ev_if (x := decide (0 < s.length)) ((evt_gt (ev_len hx E.b_len (ev_var hx 3 (R := pZs s))) ev_int).eq (by rw [List.length_map]; exact decide_eq_decide.mpr (by omega))) (fun h => ?_) fun h => ?_)) ?_
    · obtain ⟨x, g1, g2, _⟩ := getLast_at (of_decide_eq_true h)
      rw [beginOf_pos g1]
      exact (ev_add (ev_ixL (ev_var hx 3 (R := pZs s)) (ev_neg ev_int) g2) ev_int).eq rfl
    · have h' : s = [] := List.eq_nil_of_length_eq_zero (by have := of_decide_eq_false h; omega)
      subst h'
      exact ev_int
    · refine st_fold_range2 (S := List (List Nat)) hx E.b_range (fun o => [.im (pLs pZs level), .im (pZ n), .mu (o.map pZs), .im (pZs s), .im (pZ (beginOf s)), .un]) (fun o k => o ++ [s ++ [k]]) (fun k o => o.length + beginOf s ≤ out.length + k) out (beginOf s) n ⟨by omega, by omega⟩ (ev_var hx 4) (ev_var hx 1) (by walk_at "fg") (Nat.le_refl _)
        (fun k o hk1 hk2 ho => ⟨by rw [List.length_append]; simp; omega, _, _, tg_name hx 5, ?_⟩) (st_end ?_)
      · refine st_seq (ss_app (ps := o.map pZs) (R := pZs (s ++ [k])) hx 2 ((ev_cat (small_size (by rw [List.length_map]; show s.length + 1 ≤ _; omega)) (ev_var hx 3 (R := pZs s)) (ev_lst (evs_cons (ev_var hx 5 (R := pZ k)) evs_nil))).eq (by rw [pZs, pLs, List.map_append]; rfl)) (oneMu_of rfl) (small_lt (by rw [List.length_map]; omega))) (st_end ?_)
        rw [List.map_append]
        walk_at "fg"
      · show Fg [.im (pLs pZs level), .im (pZ n), .mu ((longStep n out s).map pZs), .im (pZs s), .im (pZ (beginOf s)), .un] _
        walk_at "fg"
def sSets (ps : List Pm) (R : Pm) : Prop := ∃ n : Nat, n < 9 ∧ ps = [pZ n] ∧ R = pLs pZs (setsN n)
theorem sc30 : FnScope ["many", "level", "out", "size"] ["many"] (defScope (top 30)) := ⟨rfl, rfl, rfl, by decide +kernel, rfl, by decide +kernel, by decide +kernel⟩
theorem ok_sets (E : Tp T K mg base) : DefOk P w K mg base T 2 "sets_in_order" ["many"] sSets := by
  refine def_ok E E.g_sets_in_order E.d_sets_in_order sc30 (fun _ _ _ _ _ _ us hl => match us, hl with | [_], _ => rfl) (fun ps R ⟨_, _, h, _⟩ => by rw [h]; rfl) ?_
  rintro X A0 H0 ps R hx hf ⟨n, hn, rfl, rfl⟩
  refine st_seq (ss_set hx hf 1 (R := pLs pZs [[]]) (ev_lst (evs_cons (ev_lst evs_nil) evs_nil))) ?_
  refine st_seq (ss_set hx hf 2 (R := pLs pZs [[]]) (ev_lst (evs_cons (ev_lst evs_nil) evs_nil))) ?_
  refine st_fold_range1 (S := List (List Nat) × List (List Nat)) hx E.b_range (fun s => [.im (pZ n), .im (pLs pZs s.1), .im (pLs pZs s.2), .un]) (setsStep n) (fun i s => i ≤ n ∧ s = (List.range i).foldl (setsStep n) ([[]], [[]])) ([[]], [[]]) n (by omega) (ev_var hx 0) (Fg.refl _) ⟨Nat.zero_le _, rfl⟩
    (fun i s hi hs => ⟨⟨by omega, by rw [List.range_succ, List.foldl_append, ← hs.2]; rfl⟩, _, _, tg_name hx 3, ?_⟩) fun _ => st_last (ss_ret (ev_var hx 2))
  have hfine := setsFine_all n hn i (by omega)
  have hfine2 := setsFine_all n hn (i + 1) (by omega)
  unfold setsFine at hfine hfine2
  rw [← hs.2] at hfine
  rw [List.range_succ, List.foldl_append, ← hs.2] at hfine2
  simp only [Bool.and_eq_true, decide_eq_true_eq, List.all_eq_true] at hfine
  have h2 : (longer s.1 n).length ≤ 100 := by
    have h3 : setsStep n s i = (longer s.1 n, s.2 ++ longer s.1 n) := rfl
    simp only [List.foldl_cons, List.foldl_nil, h3, Bool.and_eq_true, decide_eq_true_eq] at hfine2
    exact hfine2.1.1
  obtain ⟨⟨g1, g2⟩, g3⟩ := hfine
  refine st_seq (ss_set hx hf 1 (R := pLs pZs (longer s.1 n)) (ev_call hx (ok_longer E) (evs_cons (ev_var hx 1) (evs_cons (ev_var hx 0) evs_nil)) ⟨s.1, n, by omega, by omega, fun x hx => ⟨by have := (g2 x hx).1; omega, fun k hk => by have := (g2 x hx).2 k hk; omega⟩, rfl, rfl⟩)) ?_
  refine st_seq (ss_set hx hf 2 (R := pLs pZs (s.2 ++ longer s.1 n)) ((ev_cat (small_size (by rw [List.length_map, List.length_map]; omega)) (ev_var hx 2 (R := pLs pZs s.2)) (ev_var hx 1 (R := pLs pZs (longer s.1 n)))).eq (congrArg pL List.map_append.symm))) (st_end ?_)
  show Fg _ [.im (pZ n), .im (pLs pZs (longer s.1 n)), .im (pLs pZs (s.2 ++ longer s.1 n)), .un]
  walk_at "fg"
end
end IX
end

section
set_option Elab.async false
set_option linter.all false
set_option maxRecDepth 100000
set_option maxHeartbeats 2000000
namespace IX
open PySem PySem.Spec PyProof.Rows L2
local macro_rules | `(tactic| walk_at "fg") => `(tactic| repeat (first | exact All2.nil | exact Fg.refl _ | refine All2.cons (by first | exact Or.inl rfl | exact Or.inr rfl) ?_))
theorem fold_filter {α β : Type} (c : α → Bool) (g : α → β) : ∀ (xs : List α) (o : List β), xs.foldl (fun o s => if c s then o ++ [g s] else o) o = o ++ (xs.filter c).map g
  | [], o => by simp
  | x :: r, o => by
    rw [List.foldl_cons, fold_filter c g r]
    by_cases h : c x = true
    · rw [if_pos h, List.filter_cons_of_pos h, List.map_cons, List.append_assoc]
      rfl
    · rw [if_neg h, List.filter_cons_of_neg h]
theorem lcmap {α β : Type} (R : β → Pm) (g : α → β) (xs : List α) : (xs.filter fun _ => true).map (fun x => R (g x)) = (xs.map g).map R := by
  rw [filter_true, List.map_map]
  rfl
theorem sw_cell {elt : Expr} {gs : List Comprehension} {scope : Scope} {pos py : Pos} {y : Str} {l : Nat} {env : Env} (hy : env.scope.names.lookup y = some .cell) : swapsWith (.ListComp elt gs scope pos) (some (.Name y py)) l env = pure false := by
  have ky : env.kindOf y = some .cell := hy
  have e : (some NameKind.cell == some NameKind.local) = false := rfl
  unfold swapsWith
  simp only [ky, e, Bool.and_false, Bool.false_and]
theorem pO_ne {C : Addr} {fs : List (Str × Pm)} {A : Hp} {v : V} (h : (pO C fs).p A v) : v ≠ .non := by
  obtain ⟨a, _, _, rfl, _⟩ := h
  exact fun z => by cases z
theorem pL_ne {qs : List Pm} {A : Hp} {v : V} (h : (pL qs).p A v) : v ≠ .non := by
  obtain ⟨a, _, rfl, _⟩ := h
  exact fun z => by cases z
section
variable {P : Program} {w : World} {K : PySem.W.Frag} {mg : Str → Option Value} {base : Heap} {T : List (Addr × Str)}
/-! ### asking_cost -/
def sAsk (ps : List Pm) (R : Pm) : Prop := ∃ (ws : List Int) (s : List Nat), 0 < ws.length ∧ 0 ≤ wayAt ws 0 ∧ s.length ≤ 1000 ∧ (∀ k ∈ s, k + 1 < ws.length) ∧ ps = [pIs ws, pZs s] ∧ R = pZ (askC ws s)
theorem sc31 : FnScope ["ways", "chosen", "k"] ["ways", "chosen"] (defScope (top 31)) := ⟨rfl, rfl, rfl, by decide +kernel, rfl, by decide +kernel, by decide +kernel⟩
theorem ok_ask (E : Tp T K mg base) : DefOk P w K mg base T 1 "asking_cost" ["ways", "chosen"] sAsk := by
  refine def_ok E E.g_asking_cost E.d_asking_cost sc31 (fun _ _ _ _ _ _ us hl => match us, hl with | [_, _], _ => rfl) (fun ps R ⟨_, _, _, _, _, _, h, _⟩ => by rw [h]; rfl) ?_
  rintro X A0 H0 ps R hx hf ⟨ws, s, h0, h1, h2, h3, rfl, rfl⟩
  have key : ∀ {X' : Cx} {sc' : Scope} {Γ : List Slot} {H0' : Hp}, XF P w K mg base 0 ["ways", "chosen", "k"] sc' X' → True := fun _ => trivial
  refine st_last (ss_ret ((ev_minL (ns := wayAt ws 0 :: (s.filter fun k => decide (0 ≤ wayAt ws (k + 1))).map fun k => wayAt ws (k + 1)) (m := askI ws s) hx E.b_min (askStep_mem ws s _) (fun y hy => ?_)
    ((ev_cat (small_size (Nat.le_trans (Nat.add_le_add_left (by rw [List.length_map]; exact List.length_filter_le _ _) _) (show 1 + s.length ≤ _ by omega))) (ev_lst (evs_cons (ev_ixL (R := pI (wayAt ws 0)) (ev_var hx 0) ev_int (wayAt_atI h0 rfl)) evs_nil))
      (ev_lc (R := pZ) (S := fun k => pI (wayAt ws (k + 1))) (xs := s) hx [("k", 2)] (fun k => decide (0 ≤ wayAt ws (k + 1))) (small_size (by omega)) (ev_var hx 1)
        (fun k hk => ⟨_, fun X' hx' => tg_name hx' 2, fun X' hx' => .one (evt_ge (ev_ixL (R := pI (wayAt ws (k + 1))) (ev_var hx' 0) (ev_add (ev_var hx' 2) ev_int) (wayAt_atI (h3 k hk) rfl)) ev_int), fun _ X' hx' => ev_ixL (R := pI (wayAt ws (k + 1))) (ev_var hx' 0) (ev_add (ev_var hx' 2) ev_int) (wayAt_atI (h3 k hk) rfl)⟩))).eq ?_)).eq ?_))
  · rcases List.mem_cons.mp hy with rfl | z
    · exact (askStep_le ws s _).1
    · obtain ⟨k, hk, rfl⟩ := List.mem_map.mp z
      obtain ⟨g1, g2⟩ := List.mem_filter.mp hk
      exact (askStep_le ws s _).2 k g1 (of_decide_eq_true g2)
  · show pL _ = pL _
    rw [List.map_cons, List.map_map]
    rfl
  · show pI _ = pI _
    rw [askC_cast h1]
/-! ### plan_of -/
def sPlanOf (K : PySem.W.Frag) (ps : List Pm) (R : Pm) : Prop := ∃ (s : List Nat) (os : List Vaidxd.Offer) (aws : List (List Int)), s.length ≤ 1000 ∧ aws.length ≤ 1000 ∧ (∀ k ∈ s, k < os.length) ∧ (∀ ws ∈ aws, ws.length = os.length + 1 ∧ 0 ≤ wayAt ws 0) ∧ ps = [pZs s, pLs (pX K) os, pLs pIs aws] ∧ R = pPl K (planOf os aws s)
theorem sc32 : FnScope ["chosen", "indexes", "all_ways", "upkeep", "k", "ways"] ["chosen", "indexes", "all_ways"] (defScope (top 32)) := ⟨rfl, rfl, rfl, by decide +kernel, rfl, by decide +kernel, by decide +kernel⟩
theorem upkAt_get {os : List Vaidxd.Offer} {k : Nat} (h : k < os.length) : ∃ o, os[k]? = some o ∧ upkAt os k = o.upkeep := by
  refine ⟨os[k], List.getElem?_eq_getElem h, ?_⟩
  unfold upkAt
  rw [List.getElem?_eq_getElem h]
  rfl
theorem ok_planOf (E : Tp T K mg base) : DefOk P w K mg base T 3 "plan_of" ["chosen", "indexes", "all_ways"] (sPlanOf K) := by
  refine (def_ok E E.g_plan_of E.d_plan_of sc32 (fun _ _ _ _ _ _ us hl => match us, hl with | [_, _, _], _ => rfl) (fun ps R ⟨_, _, _, _, _, _, _, h, _⟩ => by rw [h]; rfl) ?_)
  rintro X A0 H0 ps R hx hf ⟨s, os, aws, h1, h2, h3, h4, rfl, rfl⟩
  refine st_seq (ss_set hx hf 3 (R := pZ (s.map (upkAt os)).sum) ((ev_sum (ns := zs (s.map (upkAt os))) hx E.b_sum ((ev_lc (R := pZ) (S := fun k => pZ (upkAt os k)) (xs := s) hx [("k", 4)] (fun _ => true) (small_size (by omega)) (ev_var hx 0)
    (fun k hk => ⟨_, fun X' hx' => tg_name hx' 4, fun X' hx' => .nil, fun _ X' hx' => ?_⟩)).eq ?_)).eq (by rw [zs_sum]))) ?_
  · obtain ⟨o, g1, g2⟩ := upkAt_get (h3 k hk)
    rw [g2]
    exact f_upkeep E hx' (ev_ixL (ev_var hx' 1) (ev_var hx' 4) (atI_map (R := pX K) g1))
  · rw [filter_true, ← pZs_ints, pZs, pLs, List.map_map]
    rfl
  · refine st_last (ss_ret ((ev_make hx (mk_Plan E) (evs_cons (ev_var hx 0) (evs_cons (ev_var hx 3) (evs_cons ((ev_lc (R := pIs) (S := fun ws => pZ (askC ws s)) (xs := aws) hx [("ways", 5)] (fun _ => true) (small_size (by omega)) (ev_var hx 2)
      (fun ws hw => ⟨_, fun X' hx' => tg_name hx' 5, fun X' hx' => .nil, fun _ X' hx' => ev_call hx' (ok_ask E) (evs_cons (ev_var hx' 5) (evs_cons (ev_var hx' 0) evs_nil)) ⟨ws, s, by have := (h4 ws hw).1; omega, (h4 ws hw).2, h1, fun k hk => by have := (h4 ws hw).1; have := h3 k hk; omega, rfl, rfl⟩⟩)).eq (R' := pZs (aws.map fun ws => askC ws s)) ?_) evs_nil)))).eq rfl))
    rw [filter_true, pZs, pLs, List.map_map]
    rfl
/-! ### plans_within -/
structure OkIn (t : VaidxBase.Table) (qs : List VaidxBase.Question) (os : List Vaidxd.Offer) : Prop where
  ht : OkT t
  hq : ∀ q ∈ qs, OkQ t.cols q
  ho : ∀ o ∈ os, OkO t.cols o
  ql : qs.length ≤ 6
  ol : os.length ≤ 8
def sPlans (K : PySem.W.Frag) (ps : List Pm) (R : Pm) : Prop := ∃ (t : VaidxBase.Table) (qs : List VaidxBase.Question) (os : List Vaidxd.Offer) (room : Nat), OkIn t qs os ∧ ps = [pTab K t, pLs (pQ K) qs, pLs (pX K) os, pZ room] ∧ R = pLs (pPl K) (plansIn t qs os room)
theorem sc33 : FnScope ["table", "questions", "indexes", "room", "rooms", "all_ways", "out", "chosen", "index", "question", "k"] ["table", "questions", "indexes", "room"] (defScope (top 33)) := ⟨rfl, rfl, rfl, by decide +kernel, rfl, by decide +kernel, by decide +kernel⟩
theorem ok_plans (E : Tp T K mg base) : DefOk P w K mg base T 8 "plans_within" ["table", "questions", "indexes", "room"] (sPlans K) := by
  refine def_ok E E.g_plans_within E.d_plans_within sc33 (fun _ _ _ _ _ _ us hl => match us, hl with | [_, _, _, _], _ => rfl) (fun ps R ⟨_, _, _, _, _, h, _⟩ => by rw [h]; rfl) ?_
  rintro X A0 H0 ps R hx hf ⟨t, qs, os, room, ⟨ht, hq, ho, ql, ol⟩, rfl, rfl⟩
  have hfine := setsN_fine os.length (by omega)
  have hslen := setsN_len os.length (by omega)
  simp only [List.all_eq_true, Bool.and_eq_true, decide_eq_true_eq] at hfine
  refine st_seq (ss_set hx hf 4 (R := pZs (os.map fun o => roomR t o.index)) ((ev_lc (R := pX K) (S := fun o => pZ (roomR t o.index)) (xs := os) hx [("index", 8)] (fun _ => true) (small_size (by omega)) (ev_var hx 2)
    (fun o ho' => ⟨_, fun X' hx' => tg_name hx' 8, fun X' hx' => .nil, fun _ X' hx' => ev_call hx' (ok_room E) (evs_cons (ev_var hx' 0) (evs_cons (ev_var hx' 8) evs_nil)) ⟨t, o, ht, ho o ho', rfl, rfl⟩⟩)).eq (congrArg pL (lcmap pZ (fun o : Vaidxd.Offer => roomR t o.index) os))) (hs := sw_cell (by rw [hx.es]; rfl))) ?_
  refine st_seq ((ss_setLc (R := pQ K) (S := fun q => pIs (waysL t q os)) (xs := qs) hx 5 [("question", 9)] (fun _ => true) (small_size (by omega)) (ev_var hx 1)
    (fun q hq' => ⟨_, fun X' hx' => tg_name hx' 9, fun X' hx' => .nil, fun _ X' hx' => ev_call hx' (ok_ways E) (evs_cons (ev_var hx' 0) (evs_cons (ev_var hx' 9) (evs_cons (ev_var hx' 2) evs_nil))) ⟨t, q, os, ht, hq q hq', ho, ol, rfl, rfl⟩⟩)).nx (Γ2 := [.im (pTab K t), .im (pLs (pQ K) qs), .im (pLs (pX K) os), .im (pZ room), .im (pZs (os.map fun o => roomR t o.index)), .im (pLs pIs (qs.map fun q => waysL t q os)), .un, .un, .un, .un, .un]) ?_) ?_
  · rw [lcmap pIs (fun q : VaidxBase.Question => waysL t q os) qs]
    rfl
  refine st_seq (ss_setM hx hf 6 evs_nil) ?_
  refine st_fold (R := pZs) (xs := setsN os.length) hx (fun out : List Pl => [.im (pTab K t), .im (pLs (pQ K) qs), .im (pLs (pX K) os), .im (pZ room), .im (pZs (os.map fun o => roomR t o.index)), .im (pLs pIs (qs.map fun q => waysL t q os)), .mu (out.map (pPl K)), .un, .un, .un, .un])
    (fun out s => if decide ((s.map (natAt (os.map fun o => roomR t o.index))).sum ≤ room) then out ++ [planOf os (qs.map fun q => waysL t q os) s] else out) (fun i out => out.length ≤ i) [] (ev_call hx (ok_sets E) (evs_cons (ev_len hx E.b_len (ev_var hx 2)) evs_nil) ⟨os.length, by omega, by rw [List.length_map], rfl⟩) (Fg.refl _) (Nat.le_refl _) (fun i out s hi hl => ⟨?_, ?_⟩) fun _ => ?_
  · split
    · rw [List.length_append]; simp; omega
    · omega
  · have hio := lt_of_get hi
    obtain ⟨s1, s2⟩ := hfine s (List.mem_of_getElem? hi)
    refine ⟨_, _, tg_name hx 7, st_seq (Γ1 := [.im (pTab K t), .im (pLs (pQ K) qs), .im (pLs (pX K) os), .im (pZ room), .im (pZs (os.map fun o => roomR t o.index)), .im (pLs pIs (qs.map fun q => waysL t q os)), .mu ((if decide ((s.map (natAt (os.map fun o => roomR t o.index))).sum ≤ room) then out ++ [planOf os (qs.map fun q => waysL t q os) s] else out).map (pPl K)), .un, .un, .un, .un])
      (ss_if (x := decide ((s.map (natAt (os.map fun o => roomR t o.index))).sum ≤ room)) ((evt_le ((ev_sum (ns := zs (s.map (natAt (os.map fun o => roomR t o.index)))) hx E.b_sum ((ev_lc (R := pZ) (S := fun k => pZ (natAt (os.map fun o => roomR t o.index) k)) (xs := s) hx [("k", 10)] (fun _ => true) (small_size (by omega)) (ev_var hx 7)
        (fun k hk => ⟨_, fun X' hx' => tg_name hx' 10, fun X' hx' => .nil, fun _ X' hx' => ev_ixL (ev_var hx' 4) (ev_var hx' 10) (atI_map (R := pZ) (natAt_get (by rw [List.length_map]; exact s2 k hk)))⟩)).eq ?_)).eq (R' := pZ (s.map (natAt (os.map fun o => roomR t o.index))).sum) (by rw [zs_sum])) (ev_var hx 3)).eq (dec_nat_le _ _)) (fun h => ?_) fun h => ?_) st_nil⟩
    · rw [filter_true, ← pZs_ints, pZs, pLs, List.map_map]
      rfl
    · refine st_seq (ss_app (ps := out.map (pPl K)) (R := pPl K (planOf os (qs.map fun q => waysL t q os) s)) hx 6 (ev_call hx (ok_planOf E) (evs_cons (ev_var hx 7) (evs_cons (ev_var hx 2) (evs_cons (ev_var hx 5) evs_nil))) ⟨s, os, _, by omega, by rw [List.length_map]; omega, s2, fun ws hw => ?_, rfl, rfl⟩) (oneMu_of rfl) (small_lt (by rw [List.length_map]; omega))) (st_end ?_)
      · obtain ⟨q, hq', rfl⟩ := List.mem_map.mp hw
        exact ⟨waysL_len t q os, by rw [waysL_at0]; omega⟩
      · rw [if_pos h, List.map_append]
        walk_at "fg"
    · refine st_end ?_
      rw [if_neg (by rw [h]; decide)]
      walk_at "fg"
  · rw [fold_filter]
    exact st_last (ss_retM hx 6)
/-! ### cost_of, cost_without, first_least -/
structure OkTm (n : Nat) (ts : List Nat) : Prop where
  tl : ts.length = n
  tb : ∀ x ∈ ts, x ≤ 1000
def sCost (K : PySem.W.Frag) (ps : List Pm) (R : Pm) : Prop := ∃ (n : Nat) (p : Pl) (ts : List Nat), OkPl n p ∧ OkTm n ts ∧ ps = [pPl K p, pZs ts] ∧ R = pZ (costOf p ts)
theorem sc34 : FnScope ["plan", "times", "total", "rise", "often"] ["plan", "times"] (defScope (top 34)) := ⟨rfl, rfl, rfl, by decide +kernel, rfl, by decide +kernel, by decide +kernel⟩
theorem ok_cost (E : Tp T K mg base) : DefOk P w K mg base T 1 "cost_of" ["plan", "times"] (sCost K) := by
  refine def_ok E E.g_cost_of E.d_cost_of sc34 (fun _ _ _ _ _ _ us hl => match us, hl with | [_, _], _ => rfl) (fun ps R ⟨_, _, _, _, _, h, _⟩ => by rw [h]; rfl) ?_
  rintro X A0 H0 ps R hx hf ⟨n, p, ts, hp, ht, rfl, rfl⟩
  refine st_seq (ss_set hx hf 2 (R := pZ p.upkeep) (f_pupkeep E hx (ev_var hx 0))) ?_
  refine st_fold_zip (R := pZ) (R' := pZ) (xs := p.rises) (ys := ts) hx E.b_zip (fun s : Nat => [.im (pPl K p), .im (pZs ts), .im (pZ s), .un, .un]) costStep (fun _ _ => True) p.upkeep (by rw [hp.rl, ht.tl]) (f_rises E hx (ev_var hx 0)) (ev_var hx 1) (Fg.refl _) trivial
    (fun i s r x hr hxx _ => ⟨trivial, _, _, tg_tup2 hx 3 4, ?_⟩) fun _ => st_last (ss_ret (ev_var hx 2))
  have h1 := hp.rb r (List.mem_of_getElem? hr)
  have h2 := ht.tb x (List.mem_of_getElem? hxx)
  refine st_seq (ss_set hx hf 2 (R := pZ (costStep s (r, x))) ((ev_add (ev_var hx 2) (ev_mul (cmulN (a := r) (b := x) (by omega) (by omega)) (ev_var hx 3) (ev_var hx 4))).eq (by unfold costStep; rw [← Int.natCast_mul]; rfl))) (st_end ?_)
  walk_at "fg"
def sCostW (K : PySem.W.Frag) (ps : List Pm) (R : Pm) : Prop := ∃ (n : Nat) (p : Pl) (ts : List Nat) (i : Nat), OkPl n p ∧ OkTm n ts ∧ i < n ∧ ps = [pPl K p, pZs ts, pZ i] ∧ R = pZ (costW p ts i)
theorem sc35 : FnScope ["plan", "times", "number"] ["plan", "times", "number"] (defScope (top 35)) := ⟨rfl, rfl, rfl, by decide +kernel, rfl, by decide +kernel, by decide +kernel⟩
theorem ok_costW (E : Tp T K mg base) : DefOk P w K mg base T 2 "cost_without" ["plan", "times", "number"] (sCostW K) := by
  refine def_ok E E.g_cost_without E.d_cost_without sc35 (fun _ _ _ _ _ _ us hl => match us, hl with | [_, _, _], _ => rfl) (fun ps R ⟨_, _, _, _, _, _, _, h, _⟩ => by rw [h]; rfl) ?_
  rintro X A0 H0 ps R hx hf ⟨n, p, ts, i, hp, ht, hi, rfl, rfl⟩
  have hr : i < p.rises.length := by rw [hp.rl]; exact hi
  have hx2 : i < ts.length := by rw [ht.tl]; exact hi
  have h1 := hp.rb _ (natAt_mem hr)
  have h2 := ht.tb _ (natAt_mem hx2)
  refine st_last (ss_ret ((ev_sub (ev_call hx (ok_cost E) (evs_cons (ev_var hx 0) (evs_cons (ev_var hx 1) evs_nil)) ⟨n, p, ts, hp, ht, rfl, rfl⟩) (ev_mul (cmulN (a := natAt p.rises i) (b := natAt ts i) (by omega) (by omega)) (ev_ixL (f_rises E hx (ev_var hx 0)) (ev_var hx 2) (atI_map (R := pZ) (natAt_get hr))) (ev_ixL (ev_var hx 1) (ev_var hx 2) (atI_map (R := pZ) (natAt_get hx2))))).eq ?_))
  show pI _ = pI _
  rw [costW_cast hr hx2]
def sFirst (K : PySem.W.Frag) (ps : List Pm) (R : Pm) : Prop := ∃ (n : Nat) (l : List Pl) (ts : List Nat), (∀ p ∈ l, OkPl n p) ∧ OkTm n ts ∧ ps = [pLs (pPl K) l, pZs ts] ∧ R = pOpt (pPl K) (firstP l ts)
theorem sc36 : FnScope ["plans", "times", "best", "plan"] ["plans", "times"] (defScope (top 36)) := ⟨rfl, rfl, rfl, by decide +kernel, rfl, by decide +kernel, by decide +kernel⟩
theorem ok_first (E : Tp T K mg base) : DefOk P w K mg base T 2 "first_least" ["plans", "times"] (sFirst K) := by
  refine def_ok E E.g_first_least E.d_first_least sc36 (fun _ _ _ _ _ _ us hl => match us, hl with | [_, _], _ => rfl) (fun ps R ⟨_, _, _, _, _, h, _⟩ => by rw [h]; rfl) ?_
  rintro X A0 H0 ps R hx hf ⟨n, l, ts, hp, ht, rfl, rfl⟩
  refine st_seq (ss_set hx hf 2 (R := pOpt (pPl K) none) ev_non) ?_
  refine st_fold (R := pPl K) (xs := l) hx (fun b : Option Pl => [.im (pLs (pPl K) l), .im (pZs ts), .im (pOpt (pPl K) b), .un]) (leastStep ts) (fun _ b => ∀ x, b = some x → OkPl n x) none (ev_var hx 0) (Fg.refl _) (fun x z => by cases z) (fun i b p hi hb => ⟨?_, ?_⟩) fun _ => st_last (ss_ret (ev_var hx 2))
  · intro x hx'
    unfold leastStep at hx'
    cases b with
    | none => cases hx'; exact hp p (List.mem_of_getElem? hi)
    | some y =>
      dsimp only at hx'
      split at hx'
      · cases hx'; exact hp p (List.mem_of_getElem? hi)
      · cases hx'; exact hb _ rfl
  · have hpk := hp p (List.mem_of_getElem? hi)
    refine ⟨_, _, tg_name hx 3, st_seq (Γ1 := [.im (pLs (pPl K) l), .im (pZs ts), .im (pOpt (pPl K) (leastStep ts b p)), .un]) (ss_if (x := b.isNone || (match b with | none => true | some x => decide (costOf p ts < costOf x ts))) (evt_or (evt_isN (S := pPl K) (fun y A v h => pO_ne h) (ev_var hx 2)) fun h => ?_) (fun h => ?_) fun h => ?_) st_nil⟩
    · cases b with
      | none => cases h
      | some y => exact (evt_lt (ev_call hx (ok_cost E) (evs_cons (ev_var hx 3) (evs_cons (ev_var hx 1) evs_nil)) ⟨n, p, ts, hpk, ht, rfl, rfl⟩) (ev_call hx (ok_cost E) (evs_cons (ev_var hx 2 (R := pPl K y)) (evs_cons (ev_var hx 1) evs_nil)) ⟨n, y, ts, hb y rfl, ht, rfl, rfl⟩)).eq (dec_nat_lt _ _)
    · have e : leastStep ts b p = some p := by
        unfold leastStep
        cases b with
        | none => rfl
        | some y => exact if_pos (by simpa using h)
      rw [e]
      refine st_seq (ss_set hx hf 2 (R := pOpt (pPl K) (some p)) (ev_var hx 3 (R := pPl K p))) (st_end ?_)
      walk_at "fg"
    · have e : leastStep ts b p = b := by
        unfold leastStep
        cases b with
        | none => cases h
        | some y => exact if_neg (by simpa using h)
      rw [e]
      refine st_end ?_
      walk_at "fg"
end
end IX
end

section
set_option Elab.async false
set_option linter.all false
set_option maxRecDepth 100000
set_option maxHeartbeats 2000000
namespace IX
open PySem PySem.Spec PyProof.Rows L2
local macro_rules | `(tactic| walk_at "fg") => `(tactic| repeat (first | exact All2.nil | exact Fg.refl _ | refine All2.cons (by first | exact Or.inl rfl | exact Or.inr rfl) ?_))
section
variable {P : Program} {w : World} {K : PySem.W.Frag} {mg : Str → Option Value} {base : Heap} {k : Nat} {N : List Str} {sc : Scope} {X : Cx} {T : List (Addr × Str)} {A0 H0 A H : Hp} {Γ Γ1 Γ2 : List Slot}
variable {a b c e o tg iter : Expr} {es : List Expr} {rest body orelse : List Stmt} {pos p : Pos} {R1 R2 R3 : Pm} {ps qs : List Pm} {out : Out}
theorem st_search_range1 (hx : XF P w K mg base k N sc X) (hm : mg "range" = none) (t : Nat → Bool) (Γ' : List Slot) (n : Nat) (hb1 : n ≤ 1000000) (ha : EV X T H0 a Γ (pZ n)) (h0 : Fg Γ Γ')
    (turn : ∀ i, i < n → ∃ Γ1 vs, TGo X T H0 tg vs Γ' (pZ i) Γ1 ∧ ST X T A0 H0 body Γ1 (if t i then .rt R2 else .nx Γ')) (h1 : (List.range n).any t = true → R2 = R3) (after : (List.range n).any t = false → ST X T A0 H0 rest Γ' (.rt R3))
    (hg : sc.names.lookup ("range" : Str) = some .globalImplicit := by rfl) (hs : ∀ x, foldedSetIterable (.Call (.Name "range" p) [a] [] pos) X.env x = pure x := by intro _; rfl)
    (he : starEach [a] X.env = [(false, eval a X.env)] := by rfl) {pos' : Pos} : ST X T A0 H0 (.For tg (.Call (.Name "range" p) [a] [] pos) body [] pos' :: rest) Γ (.rt R3) := by
  have hget : ∀ i, i < n → (List.range n)[i]? = some i := fun i h => List.getElem?_range h
  rcases all_or_first (fun x => !t x) (List.range n) with h | ⟨j, x, hj, hp, hlt⟩
  · have hn : ∀ x, x < n → t x = false := fun x hm => by
      have := List.all_eq_true.mp h x (List.mem_range.mpr hm)
      simpa using this
    refine st_seq (ss_for_range1 hx hm (fun _ => Γ') n (by omega) ha h0 (fun i hi => ?_) hg hs he) (after (List.any_eq_false.mpr fun x hm => by rw [hn x (List.mem_range.mp hm)]; decide))
    obtain ⟨Γ1, vs, g, b⟩ := turn i hi
    rw [hn i hi, if_neg Bool.false_ne_true] at b
    exact ⟨Γ1, vs, g, b⟩
  · have hjn : j < n := by
      have := lt_of_get hj
      rwa [List.length_range] at this
    have e : x = j := by
      rw [hget j hjn] at hj
      exact (Option.some.inj hj).symm
    subst e
    have ht : t x = true := by simpa using hp
    refine st_last (ss_for_range1_rt hx hm (fun _ => Γ') n x hjn (by omega) ha h0 (fun i hi => ?_) ?_ hg hs he)
    · obtain ⟨Γ1, vs, g, b⟩ := turn i (by omega)
      have hy : t i = false := by simpa using hlt i i hi (hget i (by omega))
      rw [hy, if_neg Bool.false_ne_true] at b
      exact ⟨Γ1, vs, g, b⟩
    · obtain ⟨Γ1, vs, g, b⟩ := turn x hjn
      rw [ht, if_pos rfl] at b
      rw [← h1 (List.any_eq_true.mpr ⟨x, List.mem_of_getElem? hj, ht⟩)]
      exact ⟨Γ1, vs, g, b⟩
end
theorem cutP_two (ps : List Pm) {a b : Nat} (h : b ≤ ps.length) : cutP ps (some (a : Int)) (some (b : Int)) = (ps.drop a).take (b - a) := by
  unfold cutP
  rw [HT.sIx_nat, HT.sIx_nat, Nat.min_eq_left h]
  by_cases h2 : a ≤ ps.length
  · rw [Nat.min_eq_left h2]
  · rw [Nat.min_eq_right (by omega), List.drop_length, List.drop_of_length_le (by omega), List.take_nil, List.take_nil]
theorem cutP_ints (xs : List Int) {a b : Nat} (h : b ≤ xs.length) {i j : Int} (hi : i = (a : Int)) (hj : j = (b : Int)) : pL (cutP (xs.map pI) (some i) (some j)) = pIs ((xs.drop a).take (b - a)) := by
  subst hi
  subst hj
  rw [cutP_two _ (by rw [List.length_map]; exact h), ← List.map_drop, ← List.map_take]
/-! ### what is computed -/
def btw (n lo hi : Int) : Bool := decide (lo ≤ n) && decide (n ≤ hi)
def dbl {α : Type} [DecidableEq α] (xs : List α) (i : Nat) : Bool := match xs[i]? with
  | none => false
  | some x => decide (x ∈ xs.take i)
def unlike {α : Type} [DecidableEq α] (xs : List α) : Bool := !(List.range xs.length).any (dbl xs)
abbrev RawG := List Int × Int
def pRG (g : RawG) : Pm := pT [pIs g.1, pI g.2]
def rawG (l : List Int) (at_ w : Nat) : RawG := ((l.drop at_).take w, wayAt l (at_ + w))
def okG (g : RawG) : Bool := (g.1.all fun v => btw v 0 9) && btw g.2 1 1000000
def toG (g : RawG) : VaidxBase.Group := ⟨g.1.map Int.toNat, g.2.toNat⟩
theorem any_eqv {α : Type} [DecidableEq α] (dd : α → PyData) (h : ∀ x y, PyData.eqv (dd x) (dd y) = decide (x = y)) (x : α) : ∀ ys : List α, ((ys.map dd).any fun z => PyData.eqv z (dd x)) = decide (x ∈ ys)
  | [] => by simp
  | y :: r => by
    rw [List.map_cons, List.any_cons, any_eqv dd h x r, h]
    by_cases e : y = x
    · simp [e]
    · have e' : ¬ x = y := fun z => e z.symm
      simp [e, e']
section
variable {P : Program} {w : World} {K : PySem.W.Frag} {mg : Str → Option Value} {base : Heap} {T : List (Addr × Str)}
/-! ### is_between -/
def sBtw (ps : List Pm) (R : Pm) : Prop := ∃ n lo hi : Int, ps = [pI n, pI lo, pI hi] ∧ R = pB (btw n lo hi)
theorem sc38 : FnScope ["number", "low", "high"] ["number", "low", "high"] (defScope (top 38)) := ⟨rfl, rfl, rfl, by decide +kernel, rfl, by decide +kernel, by decide +kernel⟩
theorem ok_btw (E : Tp T K mg base) : DefOk P w K mg base T 1 "is_between" ["number", "low", "high"] sBtw := by
  refine def_ok E E.g_is_between E.d_is_between sc38 (fun _ _ _ _ _ _ us hl => match us, hl with | [_, _, _], _ => rfl) (fun ps R ⟨_, _, _, h, _⟩ => by rw [h]; rfl) ?_
  rintro X A0 H0 ps R hx hf ⟨n, lo, hi, rfl, rfl⟩
  exact st_last (ss_ret (ev_and (ev_le (ev_var hx 1) (ev_var hx 0)) fun _ => ev_le (ev_var hx 0) (ev_var hx 2)))
/-! ### are_unlike -/
structure Dat {α : Type} [DecidableEq α] (R0 : α → Pm) (dd : α → PyData) : Prop where
  dp : ∀ x, DpOf (R0 x) (dd x)
  eq : ∀ x y, PyData.eqv (dd x) (dd y) = decide (x = y)
  lay : ∀ x, (dd x).canLay0 = true
  dep : ∀ x, (dd x).depth ≤ 5
theorem dat_int : Dat pI PyData.int := ⟨fun _ => dp_int, fun x y => by simp only [PyData.eqv]; by_cases h : x = y <;> simp [h], fun _ => by simp [PyData.canLay0], fun _ => by simp [PyData.depth]⟩
theorem dat_ints : Dat pIs dIs := ⟨dp_ints, eqv_ints, dIs_lay, fun x => by rw [dIs_depth]; decide⟩
def sUnlike (ps : List Pm) (R : Pm) : Prop := ∃ (α : Type) (_ : DecidableEq α) (R0 : α → Pm) (dd : α → PyData) (xs : List α), Dat R0 dd ∧ xs.length ≤ 1000 ∧ ps = [pLs R0 xs] ∧ R = pB (unlike xs)
theorem sc39 : FnScope ["things", "at"] ["things"] (defScope (top 39)) := ⟨rfl, rfl, rfl, by decide +kernel, rfl, by decide +kernel, by decide +kernel⟩
theorem ok_unlike (E : Tp T K mg base) : DefOk P w K mg base T 1 "are_unlike" ["things"] sUnlike := by
  refine def_ok E E.g_are_unlike E.d_are_unlike sc39 (fun _ _ _ _ _ _ us hl => match us, hl with | [_], _ => rfl) (fun ps R ⟨_, _, _, _, _, _, _, h, _⟩ => by rw [h]; rfl) ?_
  rintro X A0 H0 ps R hx hf ⟨α, _, R0, dd, xs, D, hn, rfl, rfl⟩
  refine st_search_range1 (R2 := pB false) hx E.b_range (dbl xs) [.im (pLs R0 xs), .un] xs.length (by omega) ((ev_len hx E.b_len (ev_var hx 0)).eq (by rw [List.length_map])) (by walk_at "fg") (fun i hi => ⟨_, _, tg_name hx 1, ?_⟩) (fun h => ?_) fun h => ?_
  · have hg : xs[i]? = some xs[i] := List.getElem?_eq_getElem hi
    refine st_ifx (evt_inD (R1 := R0 xs[i]) (R2 := pLs R0 (xs.take i)) (d := dd xs[i]) (ds := (xs.take i).map dd) hx (D.dp _) (dp_L (all2_map D.dp _)) (shaped_of (D.lay _) (Nat.le_trans (D.dep _) (by decide))) (shaped_list D.lay D.dep (by decide) _) ?_ (ev_ixL (ev_var hx 0) (ev_var hx 1) (atI_map (R := R0) hg)) ((ev_slice (ev_var hx 0 (R := pLs R0 xs)) .no (.yes (ev_var hx 1))).eq ?_)) (fun _ => st_last (ss_ret ev_bl)) (by walk_at "fg")
    · rw [any_eqv dd D.eq]
      unfold dbl
      rw [hg]
    · rw [cutP_take, ← List.map_take]
  · unfold unlike
    rw [h]
    rfl
  · unfold unlike
    rw [h]
    exact st_last (ss_ret ev_bl)
/-! ### group_at, is_group -/
def sGroupAt (ps : List Pm) (R : Pm) : Prop := ∃ (l : List Int) (at_ w : Nat), at_ + w < l.length ∧ ps = [pIs l, pZ at_, pZ w] ∧ R = pRG (rawG l at_ w)
theorem sc40 : FnScope ["numbers", "at", "width"] ["numbers", "at", "width"] (defScope (top 40)) := ⟨rfl, rfl, rfl, by decide +kernel, rfl, by decide +kernel, by decide +kernel⟩
theorem ok_groupAt (E : Tp T K mg base) : DefOk P w K mg base T 1 "group_at" ["numbers", "at", "width"] sGroupAt := by
  refine def_ok E E.g_group_at E.d_group_at sc40 (fun _ _ _ _ _ _ us hl => match us, hl with | [_, _, _], _ => rfl) (fun ps R ⟨_, _, _, _, h, _⟩ => by rw [h]; rfl) ?_
  rintro X A0 H0 ps R hx hf ⟨l, at_, w', h, rfl, rfl⟩
  refine st_last (ss_ret (ev_tup (evs_cons ((ev_slice (ev_var hx 0 (R := pIs l)) (.yes (ev_var hx 1)) (.yes (ev_add (ev_var hx 1) (ev_var hx 2)))).eq ?_) (evs_cons (ev_ixL (ev_var hx 0) (ev_add (ev_var hx 1) (ev_var hx 2)) (wayAt_atI h rfl)) evs_nil))))
  refine (cutP_ints l (a := at_) (b := at_ + w') (by omega) rfl (by omega)).trans ?_
  rw [Nat.add_sub_cancel_left]
  rfl
def sIsGroup (ps : List Pm) (R : Pm) : Prop := ∃ g : RawG, g.1.length ≤ 1000 ∧ ps = [pRG g] ∧ R = pB (okG g)
theorem sc41 : FnScope ["group", "values", "rows", "value"] ["group"] (defScope (top 41)) := ⟨rfl, rfl, rfl, by decide +kernel, rfl, by decide +kernel, by decide +kernel⟩
theorem all_map_id {α : Type} (f : α → Bool) (xs : List α) : ((xs.map f).all id) = xs.all f := by
  rw [List.all_map]
  rfl
theorem ok_isGroup (E : Tp T K mg base) : DefOk P w K mg base T 2 "is_group" ["group"] sIsGroup := by
  refine def_ok E E.g_is_group E.d_is_group sc41 (fun _ _ _ _ _ _ us hl => match us, hl with | [_], _ => rfl) (fun ps R ⟨_, _, h, _⟩ => by rw [h]; rfl) ?_
  rintro X A0 H0 ps R hx hf ⟨g, hn, rfl, rfl⟩
  refine st_seq (ss_asg (R := pRG g) (ev_var hx 0) (tg_tup2 hx 1 2)) ?_
  refine st_last (ss_ret (ev_and ((ev_all (bs := g.1.map fun v => btw v 0 9) hx E.b_all ((ev_lc (R := pI) (S := fun v => pB (btw v 0 9)) (xs := g.1) hx [("value", 3)] (fun _ => true) (small_size (by omega)) (ev_var hx 1)
    (fun v hv => ⟨_, fun X' hx' => tg_name hx' 3, fun X' hx' => .nil, fun _ X' hx' => ev_call hx' (ok_btw E) (evs_cons (ev_var hx' 3) (evs_cons ev_int (evs_cons ev_int evs_nil))) ⟨v, 0, 9, rfl, rfl⟩⟩)).eq (congrArg pL (lcmap pB (fun v : Int => btw v 0 9) g.1)))).eq (by rw [all_map_id])) fun _ => ev_call hx (ok_btw E) (evs_cons (ev_var hx 2) (evs_cons ev_int (evs_cons ev_int evs_nil))) ⟨g.2, 1, 1000000, rfl, rfl⟩))
end
end IX
end

section
set_option Elab.async false
set_option linter.all false
set_option maxRecDepth 100000
set_option maxHeartbeats 2000000
namespace IX
open PySem PySem.Spec PyProof.Rows L2
local macro_rules | `(tactic| walk_at "fg") => `(tactic| repeat (first | exact All2.nil | exact Fg.refl _ | refine All2.cons (by first | exact Or.inl rfl | exact Or.inr rfl) ?_))
/-! ### what is computed -/
def tableOf (l : List Int) : Option VaidxBase.Table :=
  if l.length < 2 then none else
  if (!btw (wayAt l 0) 1 4 || !btw (wayAt l 1) 0 12) = true then none else
  if ¬ (l.length : Int) = 2 + wayAt l 1 * (wayAt l 0 + 1) then none else
  let gs := (List.range (wayAt l 1).toNat).map fun k => rawG l (2 + k * ((wayAt l 0).toNat + 1)) (wayAt l 0).toNat
  if ¬ gs.all okG = true then none else
  if ¬ unlike (gs.map fun g => g.1) = true then none else some ⟨(wayAt l 0).toNat, gs.map toG⟩
def colsRaw (l : List Int) (at_ : Nat) : List Int := (l.drop (at_ + 1)).take (wayAt l at_).toNat
def colsAt (l : List Int) (at_ w : Nat) : Option (List Nat) :=
  if l.length ≤ at_ then none else
  if (!btw (wayAt l at_) 0 w || decide ((l.length : Int) < (at_ : Int) + 1 + wayAt l at_)) = true then none else
  if ¬ ((colsRaw l at_).all fun c => btw c 0 ((w : Int) - 1)) = true then none else
  if ¬ unlike (colsRaw l at_) = true then none else some ((colsRaw l at_).map Int.toNat)
abbrev RawF := Int × Int × Int
def pRF (f : RawF) : Pm := pT [pI f.1, pI f.2.1, pI f.2.2]
def okF (w : Nat) (f : RawF) : Bool := btw f.1 0 ((w : Int) - 1) && (btw f.2.1 0 9 && btw f.2.2 f.2.1 9)
def toF (f : RawF) : VaidxBase.Filter := ⟨f.1.toNat, f.2.1.toNat, f.2.2.toNat⟩
def filsRaw (l : List Int) (at_ : Nat) : List RawF := (List.range (wayAt l at_).toNat).map fun k => (wayAt l (at_ + 1 + 3 * k), wayAt l (at_ + 1 + 3 * k + 1), wayAt l (at_ + 1 + 3 * k + 2))
def filsAt (l : List Int) (at_ w : Nat) : Option (List VaidxBase.Filter) :=
  if l.length ≤ at_ then none else
  if (!btw (wayAt l at_) 0 w || decide ((l.length : Int) < (at_ : Int) + 1 + 3 * wayAt l at_)) = true then none else
  if ¬ ((filsRaw l at_).all (okF w)) = true then none else
  if ¬ unlike ((filsRaw l at_).map fun f => f.1) = true then none else some ((filsRaw l at_).map toF)
theorem pB_not {x : Bool} (h : x = true) : (!x) = false := by rw [h]; rfl
theorem toNat_pI {x : Int} (h : 0 ≤ x) : pI x = pZ x.toNat := by
  show pI x = pI (x.toNat : Int)
  rw [Int.toNat_of_nonneg h]
theorem btw_nonneg {n lo hi : Int} (h : btw n lo hi = true) : lo ≤ n ∧ n ≤ hi := by
  unfold btw at h
  simpa using h
theorem pIs_toNat {xs : List Int} (h : ∀ x ∈ xs, 0 ≤ x) : pIs xs = pZs (xs.map Int.toNat) := by
  show pL (xs.map pI) = pL ((xs.map Int.toNat).map pZ)
  rw [List.map_map]
  congr 1
  exact List.map_congr_left fun x hx => toNat_pI (h x hx)
theorem okG_toG {g : RawG} (h : okG g = true) : pRG g = pGrp (toG g) := by
  unfold okG at h
  rw [Bool.and_eq_true, List.all_eq_true] at h
  unfold pRG pGrp toG
  rw [pIs_toNat fun x hx => (btw_nonneg (h.1 x hx)).1, toNat_pI (x := g.2) (by have := btw_nonneg h.2; omega)]
theorem okF_toF {w : Nat} {f : RawF} (h : okF w f = true) : pRF f = pFil (toF f) := by
  unfold okF at h
  rw [Bool.and_eq_true, Bool.and_eq_true] at h
  have h1 := btw_nonneg h.1
  have h2 := btw_nonneg h.2.1
  have h3 := btw_nonneg h.2.2
  unfold pRF pFil toF
  rw [toNat_pI (x := f.1) h1.1, toNat_pI (x := f.2.1) h2.1, toNat_pI (x := f.2.2) (by omega)]
theorem map_congr_pm {α β : Type} {R : α → Pm} {S : β → Pm} {g : α → β} {xs : List α} (h : ∀ x ∈ xs, R x = S (g x)) : pLs R xs = pLs S (xs.map g) := by
  show pL (xs.map R) = pL ((xs.map g).map S)
  rw [List.map_map]
  congr 1
  exact List.map_congr_left h
section
variable {P : Program} {w : World} {K : PySem.W.Frag} {mg : Str → Option Value} {base : Heap} {T : List (Addr × Str)}
/-! ### table_of -/
def sTableOf (K : PySem.W.Frag) (ps : List Pm) (R : Pm) : Prop := ∃ l : List Int, l.length ≤ 1000 ∧ ps = [pIs l] ∧ R = pOpt (pTab K) (tableOf l)
theorem sc42 : FnScope ["numbers", "width", "many", "groups", "k", "group"] ["numbers"] (defScope (top 42)) := ⟨rfl, rfl, rfl, by decide +kernel, rfl, by decide +kernel, by decide +kernel⟩
theorem ok_tableOf (E : Tp T K mg base) : DefOk P w K mg base T 3 "table_of" ["numbers"] (sTableOf K) := by
  refine def_ok E E.g_table_of E.d_table_of sc42 (fun _ _ _ _ _ _ us hl => match us, hl with | [_], _ => rfl) (fun ps R ⟨_, _, h, _⟩ => by rw [h]; rfl) ?_
  rintro X A0 H0 ps R hx hf ⟨l, hn, rfl, rfl⟩
  unfold tableOf
  split
  · rename_i h1
    exact st_if1 ((evt_lt (ev_len hx E.b_len (ev_var hx 0)) ev_int).eq (by rw [List.length_map]; exact decide_eq_true (by omega))) (st_last (ss_ret ev_non))
  rename_i h1
  refine st_if0 ((evt_lt (ev_len hx E.b_len (ev_var hx 0)) ev_int).eq (by rw [List.length_map]; exact decide_eq_false (by omega))) ?_
  refine st_seq (ss_set hx hf 1 (R := pI (wayAt l 0)) (ev_ixL (ev_var hx 0) ev_int (wayAt_atI (by omega) rfl))) ?_
  refine st_seq (ss_set hx hf 2 (R := pI (wayAt l 1)) (ev_ixL (ev_var hx 0) ev_int (wayAt_atI (by omega) rfl))) ?_
  split
  · rename_i h2
    exact st_if1 ((evt_or (evt_not (evt_val (ev_call hx (ok_btw E) (evs_cons (ev_var hx 1) (evs_cons ev_int (evs_cons ev_int evs_nil))) ⟨wayAt l 0, 1, 4, rfl, rfl⟩))) fun _ => evt_not (evt_val (ev_call hx (ok_btw E) (evs_cons (ev_var hx 2) (evs_cons ev_int (evs_cons ev_int evs_nil))) ⟨wayAt l 1, 0, 12, rfl, rfl⟩))).eq h2) (st_last (ss_ret ev_non))
  rename_i h2
  refine st_if0 ((evt_or (evt_not (evt_val (ev_call hx (ok_btw E) (evs_cons (ev_var hx 1) (evs_cons ev_int (evs_cons ev_int evs_nil))) ⟨wayAt l 0, 1, 4, rfl, rfl⟩))) fun _ => evt_not (evt_val (ev_call hx (ok_btw E) (evs_cons (ev_var hx 2) (evs_cons ev_int (evs_cons ev_int evs_nil))) ⟨wayAt l 1, 0, 12, rfl, rfl⟩))).eq (by simpa using h2)) ?_
  have hb : btw (wayAt l 0) 1 4 = true ∧ btw (wayAt l 1) 0 12 = true := by
    simp only [Bool.or_eq_true, Bool.not_eq_true', not_or, Bool.not_eq_false] at h2
    exact h2
  have hw := btw_nonneg hb.1
  have hm := btw_nonneg hb.2
  obtain ⟨wd, hwd⟩ : ∃ wd : Nat, wayAt l 0 = (wd : Int) := ⟨(wayAt l 0).toNat, by omega⟩
  obtain ⟨mn, hmn⟩ : ∃ mn : Nat, wayAt l 1 = (mn : Int) := ⟨(wayAt l 1).toNat, by omega⟩
  rw [hwd, hmn]
  rw [hwd] at hw
  rw [hmn] at hm
  rw [Int.toNat_natCast, Int.toNat_natCast]
  split
  · rename_i h3
    exact st_if1 ((evt_ne (ev_len hx E.b_len (ev_var hx 0)) (ev_add ev_int (ev_mul (x := (mn : Int)) (y := ((wd + 1 : Nat) : Int)) (cmulN (by omega) (by omega)) (ev_var hx 2) ((ev_add (ev_var hx 1) ev_int).eq rfl)))).eq (by rw [List.length_map]; rw [decide_eq_false (by push_cast; exact h3)]; rfl)) (st_last (ss_ret ev_non))
  rename_i h3
  have h3' : (l.length : Int) = 2 + (mn : Int) * ((wd : Int) + 1) := Classical.not_not.mp h3
  refine st_if0 ((evt_ne (ev_len hx E.b_len (ev_var hx 0)) (ev_add ev_int (ev_mul (x := (mn : Int)) (y := ((wd + 1 : Nat) : Int)) (cmulN (by omega) (by omega)) (ev_var hx 2) ((ev_add (ev_var hx 1) ev_int).eq rfl)))).eq (by rw [List.length_map]; rw [decide_eq_true (by push_cast; exact h3')]; rfl)) ?_
  have hlen : l.length = 2 + mn * (wd + 1) := by
    have : ((l.length : Nat) : Int) = ((2 + mn * (wd + 1) : Nat) : Int) := by push_cast; exact h3'
    exact Int.ofNat_inj.mp this
  dsimp only
  generalize hgs : ((List.range mn).map fun k => rawG l (2 + k * (wd + 1)) wd) = gs
  have hgl : gs.length = mn := by rw [← hgs, List.length_map, List.length_range]
  have hgr : ∀ g ∈ gs, g.1.length ≤ 1000 := fun g hg => by
    rw [← hgs] at hg
    obtain ⟨k, _, rfl⟩ := List.mem_map.mp hg
    unfold rawG
    have := List.length_take_le wd (l.drop (2 + k * (wd + 1)))
    show ((l.drop (2 + k * (wd + 1))).take wd).length ≤ 1000
    omega
  refine st_seq ((ss_setLcR (S := fun k => pRG (rawG l (2 + k * (wd + 1)) wd)) (n := mn) hx E.b_range 3 [("k", 4)] (fun _ => true) (small_size (by omega)) (by omega) (ev_var hx 2)
    (fun k hk => ⟨_, fun X' hx' => tg_name hx' 4, fun X' hx' => .nil, fun _ X' hx' => ev_call hx' (ok_groupAt E) (evs_cons (ev_var hx' 0) (evs_cons (ev_add ev_int (ev_mul (x := (k : Int)) (y := ((wd + 1 : Nat) : Int)) (cmulN (by omega) (by omega)) (ev_var hx' 4) ((ev_add (ev_var hx' 1) ev_int).eq rfl))) (evs_cons (ev_var hx' 1) evs_nil))) ⟨l, 2 + k * (wd + 1), wd, ?_, ?_, rfl⟩⟩)).nx (Γ2 := [.im (pIs l), .im (pZ wd), .im (pZ mn), .im (pLs pRG gs), .un, .un]) ?_) ?_
  · have h5 : (k + 1) * (wd + 1) ≤ mn * (wd + 1) := Nat.mul_le_mul_right _ hk
    rw [Nat.add_mul] at h5
    omega
  · show [pIs l, pI _, pZ wd] = [pIs l, pI _, pZ wd]
    push_cast
    rfl
  · rw [lcmap pRG (fun k => rawG l (2 + k * (wd + 1)) wd) (List.range mn), hgs]
    rfl
  split
  · rename_i h4
    exact st_if1 ((evt_not (evt_val ((ev_all (bs := gs.map okG) hx E.b_all ((ev_lc (R := pRG) (S := fun g => pB (okG g)) (xs := gs) hx [("group", 5)] (fun _ => true) (small_size (by omega)) (ev_var hx 3)
      (fun g hg => ⟨_, fun X' hx' => tg_name hx' 5, fun X' hx' => .nil, fun _ X' hx' => ev_call hx' (ok_isGroup E) (evs_cons (ev_var hx' 5) evs_nil) ⟨g, hgr g hg, rfl, rfl⟩⟩)).eq (congrArg pL (lcmap pB okG gs)))).eq (by rw [all_map_id])))).eq (by simpa using h4)) (st_last (ss_ret ev_non))
  rename_i h4
  have h4' : gs.all okG = true := Classical.not_not.mp h4
  refine st_if0 ((evt_not (evt_val ((ev_all (bs := gs.map okG) hx E.b_all ((ev_lc (R := pRG) (S := fun g => pB (okG g)) (xs := gs) hx [("group", 5)] (fun _ => true) (small_size (by omega)) (ev_var hx 3)
      (fun g hg => ⟨_, fun X' hx' => tg_name hx' 5, fun X' hx' => .nil, fun _ X' hx' => ev_call hx' (ok_isGroup E) (evs_cons (ev_var hx' 5) evs_nil) ⟨g, hgr g hg, rfl, rfl⟩⟩)).eq (congrArg pL (lcmap pB okG gs)))).eq (by rw [all_map_id])))).eq (by rw [h4']; rfl)) ?_
  split
  · rename_i h5
    exact st_if1 ((evt_not (evt_val (ev_call hx (ok_unlike E) (evs_cons ((ev_lc (R := pRG) (S := fun g => pIs g.1) (xs := gs) hx [("group", 5)] (fun _ => true) (small_size (by omega)) (ev_var hx 3)
      (fun g hg => ⟨_, fun X' hx' => tg_name hx' 5, fun X' hx' => .nil, fun _ X' hx' => ev_ixT (ev_var hx' 5 (R := pRG g)) ev_int rfl⟩)).eq (congrArg pL (lcmap pIs (fun g : RawG => g.1) gs))) evs_nil) ⟨List Int, _, pIs, dIs, gs.map fun g => g.1, dat_ints, by rw [List.length_map]; omega, rfl, rfl⟩))).eq (by simpa using h5)) (st_last (ss_ret ev_non))
  rename_i h5
  have h5' : unlike (gs.map fun g => g.1) = true := Classical.not_not.mp h5
  refine st_if0 ((evt_not (evt_val (ev_call hx (ok_unlike E) (evs_cons ((ev_lc (R := pRG) (S := fun g => pIs g.1) (xs := gs) hx [("group", 5)] (fun _ => true) (small_size (by omega)) (ev_var hx 3)
      (fun g hg => ⟨_, fun X' hx' => tg_name hx' 5, fun X' hx' => .nil, fun _ X' hx' => ev_ixT (ev_var hx' 5 (R := pRG g)) ev_int rfl⟩)).eq (congrArg pL (lcmap pIs (fun g : RawG => g.1) gs))) evs_nil) ⟨List Int, _, pIs, dIs, gs.map fun g => g.1, dat_ints, by rw [List.length_map]; omega, rfl, rfl⟩))).eq (by rw [h5']; rfl)) ?_
  refine st_last (ss_ret ((ev_make hx (mk_Table E) (evs_cons (ev_var hx 1) (evs_cons ((ev_var hx 3 (R := pLs pRG gs)).eq (map_congr_pm fun g hg => okG_toG (List.all_eq_true.mp h4' g hg))) evs_nil))).eq rfl))
end
end IX
end

section
set_option Elab.async false
set_option linter.all false
set_option maxRecDepth 100000
set_option maxHeartbeats 2000000
namespace IX
open PySem PySem.Spec PyProof.Rows L2
local macro_rules | `(tactic| walk_at "fg") => `(tactic| repeat (first | exact All2.nil | exact Fg.refl _ | refine All2.cons (by first | exact Or.inl rfl | exact Or.inr rfl) ?_))
/-! ### what is computed -/
def questionOf (l : List Int) (w : Nat) : Option VaidxBase.Question := match filsAt l 0 w with
  | none => none
  | some fs => match colsAt l (1 + 3 * fs.length) w with
    | none => none
    | some os =>
      if (decide (l.length ≤ 1 + 3 * fs.length + 1 + os.length) || !btw (wayAt l (1 + 3 * fs.length + 1 + os.length)) 0 1) = true then none else
      match colsAt l (1 + 3 * fs.length + 1 + os.length + 1) w with
      | none => none
      | some ws =>
        if ¬ l.length = 1 + 3 * fs.length + 1 + os.length + 2 + ws.length + 2 then none else
        if (!btw (wayAt l (1 + 3 * fs.length + 1 + os.length + 2 + ws.length)) 0 1000000 || !btw (wayAt l (1 + 3 * fs.length + 1 + os.length + 2 + ws.length + 1)) 0 1000) = true then none else
        some ⟨fs, os, decide (wayAt l (1 + 3 * fs.length + 1 + os.length) = 1), ws, (wayAt l (1 + 3 * fs.length + 1 + os.length + 2 + ws.length)).toNat, (wayAt l (1 + 3 * fs.length + 1 + os.length + 2 + ws.length + 1)).toNat⟩
def indexOf (l : List Int) (w u : Nat) : Option Vaidxd.Offer := match colsAt l 0 w with
  | none => none
  | some ks => if ks.length = 0 then none else match colsAt l (1 + ks.length) w with
    | none => none
    | some inc => if ¬ unlike (ks ++ inc) = true then none else match filsAt l (1 + ks.length + 1 + inc.length) w with
      | none => none
      | some cs => if 1 < cs.length then none else if ¬ l.length = 1 + ks.length + 1 + inc.length + 1 + 3 * cs.length then none else some ⟨⟨ks, inc, cs.head?⟩, u⟩
theorem dat_nat : Dat pZ (fun n : Nat => PyData.int (n : Int)) := ⟨fun _ => dp_int, fun x y => by
  simp only [PyData.eqv]
  by_cases h : x = y
  · simp [h]
  · have h' : ¬ (x : Int) = (y : Int) := by omega
    simp [h, h'], fun _ => by simp [PyData.canLay0], fun _ => by simp [PyData.depth]⟩
theorem wd_sub (w : Nat) : (w : Int) - 1 = (w : Int) - 1 := rfl
theorem colsRaw_len {l : List Int} {at_ : Nat} {w : Nat} (h : btw (wayAt l at_) 0 w = true) : (colsRaw l at_).length ≤ w := by
  unfold colsRaw
  have := btw_nonneg h
  have h2 := List.length_take_le (wayAt l at_).toNat (l.drop (at_ + 1))
  omega
theorem filsRaw_len (l : List Int) (at_ : Nat) : (filsRaw l at_).length = (wayAt l at_).toNat := by
  unfold filsRaw
  rw [List.length_map, List.length_range]
theorem colsAt_len {l : List Int} {at_ w : Nat} {cs : List Nat} (h : colsAt l at_ w = some cs) : cs.length ≤ w := by
  unfold colsAt at h
  split at h
  · cases h
  split at h
  · cases h
  rename_i h2
  split at h
  · cases h
  split at h
  · cases h
  cases h
  rw [List.length_map]
  simp only [Bool.or_eq_true, Bool.not_eq_true', not_or, Bool.not_eq_false] at h2
  exact colsRaw_len h2.1
theorem filsAt_len {l : List Int} {at_ w : Nat} {cs : List VaidxBase.Filter} (h : filsAt l at_ w = some cs) : cs.length ≤ w := by
  unfold filsAt at h
  split at h
  · cases h
  split at h
  · cases h
  rename_i h2
  split at h
  · cases h
  split at h
  · cases h
  cases h
  rw [List.length_map, filsRaw_len]
  simp only [Bool.or_eq_true, Bool.not_eq_true', not_or, Bool.not_eq_false] at h2
  have := btw_nonneg h2.1
  omega
section
variable {P : Program} {w : World} {K : PySem.W.Frag} {mg : Str → Option Value} {base : Heap} {T : List (Addr × Str)}
/-! ### columns_at -/
def sCols (ps : List Pm) (R : Pm) : Prop := ∃ (l : List Int) (at_ w : Nat), l.length ≤ 1000 ∧ w ≤ 4 ∧ ps = [pIs l, pZ at_, pZ w] ∧ R = pOpt pZs (colsAt l at_ w)
theorem sc43 : FnScope ["numbers", "at", "width", "many", "columns", "column"] ["numbers", "at", "width"] (defScope (top 43)) := ⟨rfl, rfl, rfl, by decide +kernel, rfl, by decide +kernel, by decide +kernel⟩
theorem ok_cols (E : Tp T K mg base) : DefOk P w K mg base T 2 "columns_at" ["numbers", "at", "width"] sCols := by
  refine def_ok E E.g_columns_at E.d_columns_at sc43 (fun _ _ _ _ _ _ us hl => match us, hl with | [_, _, _], _ => rfl) (fun ps R ⟨_, _, _, _, _, h, _⟩ => by rw [h]; rfl) ?_
  rintro X A0 H0 ps R hx hf ⟨l, at_, wd, hn, hw, rfl, rfl⟩
  unfold colsAt
  split
  · rename_i h1
    exact st_if1 ((evt_ge (ev_var hx 1) (ev_len hx E.b_len (ev_var hx 0))).eq (by rw [List.length_map]; exact decide_eq_true (by omega))) (st_last (ss_ret ev_non))
  rename_i h1
  refine st_if0 ((evt_ge (ev_var hx 1) (ev_len hx E.b_len (ev_var hx 0))).eq (by rw [List.length_map]; exact decide_eq_false (by omega))) ?_
  refine st_seq (ss_set hx hf 3 (R := pI (wayAt l at_)) (ev_ixL (ev_var hx 0) (ev_var hx 1) (wayAt_atI (by omega) rfl))) ?_
  split
  · rename_i h2
    exact st_if1 ((evt_or (evt_not (evt_val (ev_call hx (ok_btw E) (evs_cons (ev_var hx 3) (evs_cons ev_int (evs_cons (ev_var hx 2) evs_nil))) ⟨wayAt l at_, 0, wd, rfl, rfl⟩))) fun _ => (evt_gt (ev_add (ev_add (ev_var hx 1) ev_int) (ev_var hx 3)) (ev_len hx E.b_len (ev_var hx 0))).eq (by rw [List.length_map])).eq h2) (st_last (ss_ret ev_non))
  rename_i h2
  refine st_if0 ((evt_or (evt_not (evt_val (ev_call hx (ok_btw E) (evs_cons (ev_var hx 3) (evs_cons ev_int (evs_cons (ev_var hx 2) evs_nil))) ⟨wayAt l at_, 0, wd, rfl, rfl⟩))) fun _ => (evt_gt (ev_add (ev_add (ev_var hx 1) ev_int) (ev_var hx 3)) (ev_len hx E.b_len (ev_var hx 0))).eq (by rw [List.length_map])).eq (by simpa using h2)) ?_
  simp only [Bool.or_eq_true, Bool.not_eq_true', not_or, Bool.not_eq_false, decide_eq_true_eq] at h2
  have hb := btw_nonneg h2.1
  have hcl := colsRaw_len h2.1
  obtain ⟨mn, hmn⟩ : ∃ mn : Nat, wayAt l at_ = (mn : Int) := ⟨(wayAt l at_).toNat, by omega⟩
  refine st_seq (ss_set hx hf 4 (R := pIs (colsRaw l at_)) ((ev_slice (ev_var hx 0 (R := pIs l)) (.yes (ev_add (ev_var hx 1) ev_int)) (.yes (ev_add (ev_add (ev_var hx 1) ev_int) (ev_var hx 3)))).eq ((cutP_ints l (a := at_ + 1) (b := at_ + 1 + mn) (by omega) (by omega) (by omega)).trans ?_))) ?_
  · unfold colsRaw
    rw [Nat.add_sub_cancel_left, hmn, Int.toNat_natCast]
  split
  · rename_i h3
    exact st_if1 ((evt_not (evt_val ((ev_all (bs := (colsRaw l at_).map fun c => btw c 0 ((wd : Int) - 1)) hx E.b_all ((ev_lc (R := pI) (S := fun c => pB (btw c 0 ((wd : Int) - 1))) (xs := colsRaw l at_) hx [("column", 5)] (fun _ => true) (small_size (by omega)) (ev_var hx 4)
      (fun c hc => ⟨_, fun X' hx' => tg_name hx' 5, fun X' hx' => .nil, fun _ X' hx' => ev_call hx' (ok_btw E) (evs_cons (ev_var hx' 5) (evs_cons ev_int (evs_cons (ev_sub (ev_var hx' 2) ev_int) evs_nil))) ⟨c, 0, (wd : Int) - 1, rfl, rfl⟩⟩)).eq (congrArg pL (lcmap pB (fun c : Int => btw c 0 ((wd : Int) - 1)) (colsRaw l at_))))).eq (by rw [all_map_id])))).eq (by simpa using h3)) (st_last (ss_ret ev_non))
  rename_i h3
  have h3' := Classical.not_not.mp h3
  refine st_if0 ((evt_not (evt_val ((ev_all (bs := (colsRaw l at_).map fun c => btw c 0 ((wd : Int) - 1)) hx E.b_all ((ev_lc (R := pI) (S := fun c => pB (btw c 0 ((wd : Int) - 1))) (xs := colsRaw l at_) hx [("column", 5)] (fun _ => true) (small_size (by omega)) (ev_var hx 4)
      (fun c hc => ⟨_, fun X' hx' => tg_name hx' 5, fun X' hx' => .nil, fun _ X' hx' => ev_call hx' (ok_btw E) (evs_cons (ev_var hx' 5) (evs_cons ev_int (evs_cons (ev_sub (ev_var hx' 2) ev_int) evs_nil))) ⟨c, 0, (wd : Int) - 1, rfl, rfl⟩⟩)).eq (congrArg pL (lcmap pB (fun c : Int => btw c 0 ((wd : Int) - 1)) (colsRaw l at_))))).eq (by rw [all_map_id])))).eq (by rw [h3']; rfl)) ?_
  split
  · rename_i h4
    exact st_if1 ((evt_not (evt_val (ev_call hx (ok_unlike E) (evs_cons (ev_var hx 4) evs_nil) ⟨Int, _, pI, .int, colsRaw l at_, dat_int, by omega, rfl, rfl⟩))).eq (by simpa using h4)) (st_last (ss_ret ev_non))
  rename_i h4
  have h4' := Classical.not_not.mp h4
  refine st_if0 ((evt_not (evt_val (ev_call hx (ok_unlike E) (evs_cons (ev_var hx 4) evs_nil) ⟨Int, _, pI, .int, colsRaw l at_, dat_int, by omega, rfl, rfl⟩))).eq (by rw [h4']; rfl)) ?_
  exact st_last (ss_ret ((ev_var hx 4 (R := pIs (colsRaw l at_))).eq (pIs_toNat fun x hx' => (btw_nonneg (List.all_eq_true.mp h3' x hx')).1)))
/-! ### is_filter, filters_at -/
def sIsFil (ps : List Pm) (R : Pm) : Prop := ∃ (f : RawF) (w : Nat), ps = [pRF f, pZ w] ∧ R = pB (okF w f)
theorem sc44 : FnScope ["pick", "width", "column", "low", "high"] ["pick", "width"] (defScope (top 44)) := ⟨rfl, rfl, rfl, by decide +kernel, rfl, by decide +kernel, by decide +kernel⟩
theorem ok_isFil (E : Tp T K mg base) : DefOk P w K mg base T 2 "is_filter" ["pick", "width"] sIsFil := by
  refine def_ok E E.g_is_filter E.d_is_filter sc44 (fun _ _ _ _ _ _ us hl => match us, hl with | [_, _], _ => rfl) (fun ps R ⟨_, _, h, _⟩ => by rw [h]; rfl) ?_
  rintro X A0 H0 ps R hx hf ⟨f, wd, rfl, rfl⟩
  refine st_seq (ss_asg (R := pRF f) (ev_var hx 0) (tg_tup3 hx 2 3 4)) ?_
  exact st_last (ss_ret (ev_and3 (ev_call hx (ok_btw E) (evs_cons (ev_var hx 2) (evs_cons ev_int (evs_cons (ev_sub (ev_var hx 1) ev_int) evs_nil))) ⟨f.1, 0, (wd : Int) - 1, rfl, rfl⟩)
    (fun _ => ev_call hx (ok_btw E) (evs_cons (ev_var hx 3) (evs_cons ev_int (evs_cons ev_int evs_nil))) ⟨f.2.1, 0, 9, rfl, rfl⟩) fun _ _ => ev_call hx (ok_btw E) (evs_cons (ev_var hx 4) (evs_cons (ev_var hx 3) (evs_cons ev_int evs_nil))) ⟨f.2.2, f.2.1, 9, rfl, rfl⟩))
def sFils (ps : List Pm) (R : Pm) : Prop := ∃ (l : List Int) (at_ w : Nat), l.length ≤ 1000 ∧ w ≤ 4 ∧ ps = [pIs l, pZ at_, pZ w] ∧ R = pOpt (pLs pFil) (filsAt l at_ w)
theorem sc45 : FnScope ["numbers", "at", "width", "many", "begins", "filters", "k", "b", "pick"] ["numbers", "at", "width"] (defScope (top 45)) := ⟨rfl, rfl, rfl, by decide +kernel, rfl, by decide +kernel, by decide +kernel⟩
theorem ok_fils (E : Tp T K mg base) : DefOk P w K mg base T 3 "filters_at" ["numbers", "at", "width"] sFils := by
  refine def_ok E E.g_filters_at E.d_filters_at sc45 (fun _ _ _ _ _ _ us hl => match us, hl with | [_, _, _], _ => rfl) (fun ps R ⟨_, _, _, _, _, h, _⟩ => by rw [h]; rfl) ?_
  rintro X A0 H0 ps R hx hf ⟨l, at_, wd, hn, hw, rfl, rfl⟩
  unfold filsAt
  split
  · rename_i h1
    exact st_if1 ((evt_ge (ev_var hx 1) (ev_len hx E.b_len (ev_var hx 0))).eq (by rw [List.length_map]; exact decide_eq_true (by omega))) (st_last (ss_ret ev_non))
  rename_i h1
  refine st_if0 ((evt_ge (ev_var hx 1) (ev_len hx E.b_len (ev_var hx 0))).eq (by rw [List.length_map]; exact decide_eq_false (by omega))) ?_
  refine st_seq (ss_set hx hf 3 (R := pI (wayAt l at_)) (ev_ixL (ev_var hx 0) (ev_var hx 1) (wayAt_atI (by omega) rfl))) ?_
  have hmul : ∀ {x : Int}, btw x 0 wd = true → CMulW 3 x := fun {x} h => by
    have := btw_nonneg h
    obtain ⟨n, rfl⟩ : ∃ n : Nat, x = (n : Int) := ⟨x.toNat, by omega⟩
    exact cmulN (a := 3) (by decide) (by omega)
  refine st_ifr (x := !btw (wayAt l at_) 0 wd || decide ((l.length : Int) < (at_ : Int) + 1 + 3 * wayAt l at_)) (evt_or (evt_not (evt_val (ev_call hx (ok_btw E) (evs_cons (ev_var hx 3) (evs_cons ev_int (evs_cons (ev_var hx 2) evs_nil))) ⟨wayAt l at_, 0, wd, rfl, rfl⟩))) fun hb => (evt_gt (ev_add (ev_add (ev_var hx 1) ev_int) (ev_mul (hmul (by simpa using hb)) ev_int (ev_var hx 3))) (ev_len hx E.b_len (ev_var hx 0))).eq (by rw [List.length_map])) (fun h2 => ?_) fun h2 => ?_
  · rw [if_pos h2]
    exact st_last (ss_ret ev_non)
  rw [if_neg (by rw [h2]; decide)]
  simp only [Bool.or_eq_false_iff, Bool.not_eq_false', decide_eq_false_iff_not] at h2
  have hb := btw_nonneg h2.1
  obtain ⟨mn, hmn⟩ : ∃ mn : Nat, wayAt l at_ = (mn : Int) := ⟨(wayAt l at_).toNat, by omega⟩
  have hfl := filsRaw_len l at_
  rw [hmn, Int.toNat_natCast] at hfl
  have hmn4 : mn ≤ 4 := by omega
  have hlen : at_ + 1 + 3 * mn ≤ l.length := by omega
  refine st_seq ((ss_setLcR (S := fun k => pZ (at_ + 1 + 3 * k)) (n := mn) hx E.b_range 4 [("k", 6)] (fun _ => true) (small_size (by omega)) (by omega) ((ev_var hx 3 (R := pI (wayAt l at_))).eq (by rw [hmn]))
    (fun k hk => ⟨_, fun X' hx' => tg_name hx' 6, fun X' hx' => .nil, fun _ X' hx' => (ev_add (ev_add (ev_var hx' 1) ev_int) (ev_mul (x := 3) (y := (k : Int)) (cmulN (a := 3) (by decide) (by omega)) ev_int (ev_var hx' 6))).eq (by show pI _ = pI _; push_cast; rfl)⟩)).nx (Γ2 := [.im (pIs l), .im (pZ at_), .im (pZ wd), .im (pI (wayAt l at_)), .im (pZs ((List.range mn).map fun k => at_ + 1 + 3 * k)), .un, .un, .un, .un]) ?_) ?_
  · rw [lcmap pZ (fun k => at_ + 1 + 3 * k) (List.range mn)]
    rfl
  refine st_seq ((ss_setLc (R := pZ) (S := fun b => pRF (wayAt l b, wayAt l (b + 1), wayAt l (b + 2))) (xs := (List.range mn).map fun k => at_ + 1 + 3 * k) hx 5 [("b", 7)] (fun _ => true) (small_size (by rw [List.length_map, List.length_range]; omega)) (ev_var hx 4)
    (fun b hb' => ⟨_, fun X' hx' => tg_name hx' 7, fun X' hx' => .nil, fun _ X' hx' => ?_⟩)).nx (Γ2 := [.im (pIs l), .im (pZ at_), .im (pZ wd), .im (pI (wayAt l at_)), .im (pZs ((List.range mn).map fun k => at_ + 1 + 3 * k)), .im (pLs pRF (filsRaw l at_)), .un, .un, .un]) ?_) ?_
  · obtain ⟨k, hk, rfl⟩ := List.mem_map.mp hb'
    have hk' := List.mem_range.mp hk
    exact ev_tup (evs_cons (ev_ixL (ev_var hx' 0) (ev_var hx' 7) (wayAt_atI (k := at_ + 1 + 3 * k) (by omega) rfl)) (evs_cons (ev_ixL (ev_var hx' 0) (ev_add (ev_var hx' 7) ev_int) (wayAt_atI (k := at_ + 1 + 3 * k + 1) (by omega) (by push_cast; rfl))) (evs_cons (ev_ixL (ev_var hx' 0) (ev_add (ev_var hx' 7) ev_int) (wayAt_atI (k := at_ + 1 + 3 * k + 2) (by omega) (by push_cast; rfl))) evs_nil)))
  · have e : (filsRaw l at_) = ((List.range mn).map fun k => at_ + 1 + 3 * k).map fun b => (wayAt l b, wayAt l (b + 1), wayAt l (b + 2)) := by
      unfold filsRaw
      rw [List.map_map, hmn, Int.toNat_natCast]
      rfl
    rw [lcmap pRF (fun b : Nat => ((wayAt l b, wayAt l (b + 1), wayAt l (b + 2)) : RawF)) ((List.range mn).map fun k => at_ + 1 + 3 * k), ← e]
    rfl
  generalize hgs : filsRaw l at_ = gs at hfl
  refine st_ifr (x := !gs.all (okF wd)) (evt_not (evt_val ((ev_all (bs := gs.map (okF wd)) hx E.b_all ((ev_lc (R := pRF) (S := fun g => pB (okF wd g)) (xs := gs) hx [("pick", 8)] (fun _ => true) (small_size (by omega)) (ev_var hx 5)
      (fun g hg => ⟨_, fun X' hx' => tg_name hx' 8, fun X' hx' => .nil, fun _ X' hx' => ev_call hx' (ok_isFil E) (evs_cons (ev_var hx' 8) (evs_cons (ev_var hx' 2) evs_nil)) ⟨g, wd, rfl, rfl⟩⟩)).eq (congrArg pL (lcmap pB (okF wd) gs)))).eq (by rw [all_map_id])))) (fun h4 => ?_) fun h4 => ?_
  · rw [if_pos (by simpa using h4)]
    exact st_last (ss_ret ev_non)
  have h4' : gs.all (okF wd) = true := by simpa using h4
  rw [if_neg (Classical.not_not.mpr h4')]
  refine st_ifr (x := !unlike (gs.map fun f => f.1)) (evt_not (evt_val (ev_call hx (ok_unlike E) (evs_cons ((ev_lc (R := pRF) (S := fun g => pI g.1) (xs := gs) hx [("pick", 8)] (fun _ => true) (small_size (by omega)) (ev_var hx 5)
      (fun g hg => ⟨_, fun X' hx' => tg_name hx' 8, fun X' hx' => .nil, fun _ X' hx' => ev_ixT (ev_var hx' 8 (R := pRF g)) ev_int rfl⟩)).eq (congrArg pL (lcmap pI (fun g : RawF => g.1) gs))) evs_nil) ⟨Int, _, pI, .int, gs.map fun f => f.1, dat_int, by rw [List.length_map]; omega, rfl, rfl⟩))) (fun h5 => ?_) fun h5 => ?_
  · rw [if_pos (by simpa using h5)]
    exact st_last (ss_ret ev_non)
  have h5' : unlike (gs.map fun f => f.1) = true := by simpa using h5
  rw [if_neg (Classical.not_not.mpr h5')]
  exact st_last (ss_ret ((ev_var hx 5 (R := pLs pRF gs)).eq (map_congr_pm fun g hg => okF_toF (List.all_eq_true.mp h4' g hg))))
end
end IX
end

section
set_option Elab.async false
set_option linter.all false
set_option maxRecDepth 100000
set_option maxHeartbeats 2000000
namespace IX
open PySem PySem.Spec PyProof.Rows L2
local macro_rules | `(tactic| walk_at "fg") => `(tactic| repeat (first | exact All2.nil | exact Fg.refl _ | refine All2.cons (by first | exact Or.inl rfl | exact Or.inr rfl) ?_))
section
variable {P : Program} {w : World} {K : PySem.W.Frag} {mg : Str → Option Value} {base : Heap} {T : List (Addr × Str)}
/-! ### question_of -/
def sQuestionOf (K : PySem.W.Frag) (ps : List Pm) (R : Pm) : Prop := ∃ (l : List Int) (w : Nat), l.length ≤ 1000 ∧ w ≤ 4 ∧ ps = [pIs l, pZ w] ∧ R = pOpt (pQ K) (questionOf l w)
theorem sc46 : FnScope ["numbers", "width", "filters", "at", "order", "backwards", "wanted", "limit", "times"] ["numbers", "width"] (defScope (top 46)) := ⟨rfl, rfl, rfl, by decide +kernel, rfl, by decide +kernel, by decide +kernel⟩
theorem ok_questionOf (E : Tp T K mg base) : DefOk P w K mg base T 4 "question_of" ["numbers", "width"] (sQuestionOf K) := by
  refine def_ok E E.g_question_of E.d_question_of sc46 (fun _ _ _ _ _ _ us hl => match us, hl with | [_, _], _ => rfl) (fun ps R ⟨_, _, _, _, h, _⟩ => by rw [h]; rfl) ?_
  rintro X A0 H0 ps R hx hf ⟨l, wd, hn, hw, rfl, rfl⟩
  unfold questionOf
  refine st_seq (ss_set hx hf 2 (R := pOpt (pLs pFil) (filsAt l 0 wd)) (ev_call hx (ok_fils E) (evs_cons (ev_var hx 0) (evs_cons ev_int (evs_cons (ev_var hx 1) evs_nil))) ⟨l, 0, wd, hn, hw, rfl, rfl⟩)) ?_
  cases hfs : filsAt l 0 wd with
  | none => exact st_if1 (evt_isN (S := pLs pFil) (x := none) (fun _ _ _ h => pL_ne h) (ev_var hx 2)) (st_last (ss_ret ev_non))
  | some fs =>
  have hfl := filsAt_len hfs
  refine st_if0 (evt_isN (S := pLs pFil) (x := some fs) (fun _ _ _ h => pL_ne h) (ev_var hx 2)) ?_
  refine st_seq (ss_set hx hf 3 (R := pZ (1 + 3 * fs.length)) ((ev_add ev_int (ev_mul (x := 3) (y := (fs.length : Int)) (cmulN (a := 3) (by decide) (by omega)) ev_int ((ev_len hx E.b_len (ev_var hx 2 (R := pLs pFil fs))).eq (by rw [List.length_map])))).eq (by show pI _ = pI _; push_cast; rfl))) ?_
  refine st_seq (ss_set hx hf 4 (R := pOpt pZs (colsAt l (1 + 3 * fs.length) wd)) (ev_call hx (ok_cols E) (evs_cons (ev_var hx 0) (evs_cons (ev_var hx 3) (evs_cons (ev_var hx 1) evs_nil))) ⟨l, 1 + 3 * fs.length, wd, hn, hw, rfl, rfl⟩)) ?_
  dsimp only
  generalize 1 + 3 * fs.length = a1
  cases hos : colsAt l a1 wd with
  | none => exact st_if1 (evt_isN (S := pZs) (x := none) (fun _ _ _ h => pL_ne h) (ev_var hx 4)) (st_last (ss_ret ev_non))
  | some os =>
  refine st_if0 (evt_isN (S := pZs) (x := some os) (fun _ _ _ h => pL_ne h) (ev_var hx 4)) ?_
  refine st_seq (ss_set hx hf 3 (R := pZ (a1 + 1 + os.length)) ((ev_add (ev_add (ev_var hx 3) ev_int) ((ev_len hx E.b_len (ev_var hx 4 (R := pZs os))).eq (by rw [List.length_map]))).eq (by show pI _ = pI _; push_cast; rfl))) ?_
  dsimp only
  generalize a1 + 1 + os.length = a2
  refine st_ifr (x := decide (l.length ≤ a2) || !btw (wayAt l a2) 0 1) (evt_or ((evt_ge (ev_var hx 3) (ev_len hx E.b_len (ev_var hx 0))).eq (by rw [List.length_map]; exact dec_nat_le _ _)) fun h => evt_not (evt_val (ev_call hx (ok_btw E) (evs_cons (ev_ixL (R := pI (wayAt l a2)) (ev_var hx 0) (ev_var hx 3) (wayAt_atI (by have := of_decide_eq_false h; omega) rfl)) (evs_cons ev_int (evs_cons ev_int evs_nil))) ⟨wayAt l a2, 0, 1, rfl, rfl⟩))) (fun h => ?_) fun h => ?_
  · rw [if_pos h]
    exact st_last (ss_ret ev_non)
  rw [if_neg (by rw [h]; decide)]
  simp only [Bool.or_eq_false_iff, Bool.not_eq_false', decide_eq_false_iff_not] at h
  have hb := btw_nonneg h.2
  refine st_seq (ss_set hx hf 5 (R := pZ (b2n (decide (wayAt l a2 = 1)))) ((ev_ixL (R := pI (wayAt l a2)) (ev_var hx 0) (ev_var hx 3) (wayAt_atI (by omega) rfl)).eq ?_)) ?_
  · show pI _ = pI _
    congr 1
    unfold b2n
    by_cases h1 : wayAt l a2 = 1
    · rw [decide_eq_true h1, h1]; rfl
    · rw [decide_eq_false h1]
      show wayAt l a2 = 0
      omega
  refine st_seq (ss_set hx hf 6 (R := pOpt pZs (colsAt l (a2 + 1) wd)) (ev_call hx (ok_cols E) (evs_cons (ev_var hx 0) (evs_cons (ev_add (ev_var hx 3) ev_int) (evs_cons (ev_var hx 1) evs_nil))) ⟨l, a2 + 1, wd, hn, hw, rfl, rfl⟩)) ?_
  cases hws : colsAt l (a2 + 1) wd with
  | none => exact st_if1 (evt_isN (S := pZs) (x := none) (fun _ _ _ h => pL_ne h) (ev_var hx 6)) (st_last (ss_ret ev_non))
  | some ws =>
  refine st_if0 (evt_isN (S := pZs) (x := some ws) (fun _ _ _ h => pL_ne h) (ev_var hx 6)) ?_
  refine st_seq (ss_set hx hf 3 (R := pZ (a2 + 2 + ws.length)) ((ev_add (ev_add (ev_var hx 3) ev_int) ((ev_len hx E.b_len (ev_var hx 6 (R := pZs ws))).eq (by rw [List.length_map]))).eq (by show pI _ = pI _; push_cast; rfl))) ?_
  dsimp only
  generalize a2 + 2 + ws.length = a3
  refine st_ifr (x := !decide (l.length = a3 + 2)) ((evt_ne (ev_len hx E.b_len (ev_var hx 0)) (ev_add (ev_var hx 3) ev_int)).eq (by rw [List.length_map]; congr 1; exact decide_eq_decide.mpr (by omega))) (fun h5 => ?_) fun h5 => ?_
  · rw [if_pos (by simpa using h5)]
    exact st_last (ss_ret ev_non)
  have h5' : l.length = a3 + 2 := by simpa using h5
  rw [if_neg (Classical.not_not.mpr h5')]
  refine st_seq (ss_set hx hf 7 (R := pI (wayAt l a3)) (ev_ixL (ev_var hx 0) (ev_var hx 3) (wayAt_atI (by omega) rfl))) ?_
  refine st_seq (ss_set hx hf 8 (R := pI (wayAt l (a3 + 1))) (ev_ixL (ev_var hx 0) (ev_add (ev_var hx 3) ev_int) (wayAt_atI (by omega) rfl))) ?_
  refine st_ifr (x := !btw (wayAt l a3) 0 1000000 || !btw (wayAt l (a3 + 1)) 0 1000) (evt_or (evt_not (evt_val (ev_call hx (ok_btw E) (evs_cons (ev_var hx 7) (evs_cons ev_int (evs_cons ev_int evs_nil))) ⟨wayAt l a3, 0, 1000000, rfl, rfl⟩))) fun _ => evt_not (evt_val (ev_call hx (ok_btw E) (evs_cons (ev_var hx 8) (evs_cons ev_int (evs_cons ev_int evs_nil))) ⟨wayAt l (a3 + 1), 0, 1000, rfl, rfl⟩))) (fun h6 => ?_) fun h6 => ?_
  · rw [if_pos h6]
    exact st_last (ss_ret ev_non)
  rw [if_neg (by rw [h6]; decide)]
  simp only [Bool.or_eq_false_iff, Bool.not_eq_false'] at h6
  have h7 := btw_nonneg h6.1
  have h8 := btw_nonneg h6.2
  refine st_last (ss_ret ((ev_make hx (mk_Question E) (evs_cons (ev_var hx 2) (evs_cons (ev_var hx 4) (evs_cons (ev_var hx 5) (evs_cons (ev_var hx 6) (evs_cons ((ev_var hx 7 (R := pI (wayAt l a3))).eq (toNat_pI h7.1)) (evs_cons ((ev_var hx 8 (R := pI (wayAt l (a3 + 1)))).eq (toNat_pI h8.1)) evs_nil))))))).eq rfl))
/-! ### index_of -/
def sIndexOf (K : PySem.W.Frag) (ps : List Pm) (R : Pm) : Prop := ∃ (l : List Int) (w u : Nat), l.length ≤ 1000 ∧ w ≤ 4 ∧ ps = [pIs l, pZ w, pZ u] ∧ R = pOpt (pX K) (indexOf l w u)
theorem sc47 : FnScope ["numbers", "width", "upkeep", "key_columns", "at", "included", "conditions"] ["numbers", "width", "upkeep"] (defScope (top 47)) := ⟨rfl, rfl, rfl, by decide +kernel, rfl, by decide +kernel, by decide +kernel⟩
theorem ok_indexOf (E : Tp T K mg base) : DefOk P w K mg base T 4 "index_of" ["numbers", "width", "upkeep"] (sIndexOf K) := by
  refine def_ok E E.g_index_of E.d_index_of sc47 (fun _ _ _ _ _ _ us hl => match us, hl with | [_, _, _], _ => rfl) (fun ps R ⟨_, _, _, _, _, h, _⟩ => by rw [h]; rfl) ?_
  rintro X A0 H0 ps R hx hf ⟨l, wd, u, hn, hw, rfl, rfl⟩
  unfold indexOf
  refine st_seq (ss_set hx hf 3 (R := pOpt pZs (colsAt l 0 wd)) (ev_call hx (ok_cols E) (evs_cons (ev_var hx 0) (evs_cons ev_int (evs_cons (ev_var hx 1) evs_nil))) ⟨l, 0, wd, hn, hw, rfl, rfl⟩)) ?_
  cases hks : colsAt l 0 wd with
  | none => exact st_if1 (evt_or (x := true) (y := true) (evt_isN (S := pZs) (x := none) (fun _ _ _ h => pL_ne h) (ev_var hx 3)) fun z => by cases z) (st_last (ss_ret ev_non))
  | some ks =>
  have hkl := colsAt_len hks
  dsimp only
  refine st_ifr (x := false || decide (ks.length = 0)) (evt_or (evt_isN (S := pZs) (x := some ks) (fun _ _ _ h => pL_ne h) (ev_var hx 3)) fun _ => (evt_eq ((ev_len hx E.b_len (ev_var hx 3 (R := pZs ks))).eq (by rw [List.length_map])) ev_int).eq (decide_eq_decide.mpr (by omega))) (fun h => ?_) fun h => ?_
  · rw [if_pos (by simpa using h)]
    exact st_last (ss_ret ev_non)
  rw [if_neg (by simpa using h)]
  refine st_seq (ss_set hx hf 4 (R := pZ (1 + ks.length)) ((ev_add ev_int ((ev_len hx E.b_len (ev_var hx 3 (R := pZs ks))).eq (by rw [List.length_map]))).eq (by show pI _ = pI _; push_cast; rfl))) ?_
  refine st_seq (ss_set hx hf 5 (R := pOpt pZs (colsAt l (1 + ks.length) wd)) (ev_call hx (ok_cols E) (evs_cons (ev_var hx 0) (evs_cons (ev_var hx 4) (evs_cons (ev_var hx 1) evs_nil))) ⟨l, 1 + ks.length, wd, hn, hw, rfl, rfl⟩)) ?_
  generalize 1 + ks.length = a1
  cases his : colsAt l a1 wd with
  | none => exact st_if1 (evt_or (x := true) (y := true) (evt_isN (S := pZs) (x := none) (fun _ _ _ h => pL_ne h) (ev_var hx 5)) fun z => by cases z) (st_last (ss_ret ev_non))
  | some inc =>
  have hil := colsAt_len his
  dsimp only
  refine st_ifr (x := false || !unlike (ks ++ inc)) (evt_or (evt_isN (S := pZs) (x := some inc) (fun _ _ _ h => pL_ne h) (ev_var hx 5)) fun _ => evt_not (evt_val (ev_call hx (ok_unlike E) (evs_cons ((ev_cat (small_size (by rw [List.length_map, List.length_map]; omega)) (ev_var hx 3 (R := pZs ks)) (ev_var hx 5 (R := pZs inc))).eq (congrArg pL List.map_append.symm)) evs_nil) ⟨Nat, _, pZ, _, ks ++ inc, dat_nat, by rw [List.length_append]; omega, rfl, rfl⟩))) (fun h => ?_) fun h => ?_
  · rw [if_pos (by simpa using h)]
    exact st_last (ss_ret ev_non)
  rw [if_neg (by simpa using h)]
  refine st_seq (ss_set hx hf 4 (R := pZ (a1 + 1 + inc.length)) ((ev_add (ev_add (ev_var hx 4) ev_int) ((ev_len hx E.b_len (ev_var hx 5 (R := pZs inc))).eq (by rw [List.length_map]))).eq (by show pI _ = pI _; push_cast; rfl))) ?_
  refine st_seq (ss_set hx hf 6 (R := pOpt (pLs pFil) (filsAt l (a1 + 1 + inc.length) wd)) (ev_call hx (ok_fils E) (evs_cons (ev_var hx 0) (evs_cons (ev_var hx 4) (evs_cons (ev_var hx 1) evs_nil))) ⟨l, a1 + 1 + inc.length, wd, hn, hw, rfl, rfl⟩)) ?_
  generalize a1 + 1 + inc.length = a2
  cases hcs : filsAt l a2 wd with
  | none => exact st_if1 (evt_or (x := true) (y := true) (evt_isN (S := pLs pFil) (x := none) (fun _ _ _ h => pL_ne h) (ev_var hx 6)) fun z => by cases z) (st_last (ss_ret ev_non))
  | some cs =>
  have hcl := filsAt_len hcs
  dsimp only
  refine st_ifr (x := false || decide (1 < cs.length)) (evt_or (evt_isN (S := pLs pFil) (x := some cs) (fun _ _ _ h => pL_ne h) (ev_var hx 6)) fun _ => (evt_gt ((ev_len hx E.b_len (ev_var hx 6 (R := pLs pFil cs))).eq (by rw [List.length_map])) ev_int).eq (decide_eq_decide.mpr (by omega))) (fun h => ?_) fun h => ?_
  · rw [if_pos (by simpa using h)]
    exact st_last (ss_ret ev_non)
  have h1 : ¬ 1 < cs.length := by simpa using h
  rw [if_neg h1]
  refine st_ifr (x := !decide (l.length = a2 + 1 + 3 * cs.length)) ((evt_ne (ev_len hx E.b_len (ev_var hx 0)) (ev_add (ev_add (ev_var hx 4) ev_int) (ev_mul (x := 3) (y := (cs.length : Int)) (cmulN (a := 3) (by decide) (by omega)) ev_int ((ev_len hx E.b_len (ev_var hx 6 (R := pLs pFil cs))).eq (by rw [List.length_map]))))).eq (by rw [List.length_map]; congr 1; exact decide_eq_decide.mpr (by omega))) (fun h5 => ?_) fun h5 => ?_
  · rw [if_pos (by simpa using h5)]
    exact st_last (ss_ret ev_non)
  rw [if_neg (by simpa using h5)]
  have ecs : cs.head?.toList = cs := match cs, h1 with
    | [], _ => rfl
    | [_], _ => rfl
    | _ :: _ :: _, h => absurd (by simp) h
  refine st_last (ss_ret ((ev_make hx (mk_Index E) (evs_cons (ev_var hx 3) (evs_cons (ev_var hx 5) (evs_cons ((ev_var hx 6 (R := pLs pFil cs)).eq (R' := pLs pFil cs.head?.toList) (by rw [ecs])) (evs_cons (ev_var hx 2) evs_nil))))).eq rfl))
end
end IX
end

section
set_option Elab.async false
set_option linter.all false
set_option maxRecDepth 100000
set_option maxHeartbeats 2000000
namespace IX
open PySem PySem.Spec PyProof.Rows L2
local macro_rules | `(tactic| walk_at "fg") => `(tactic| repeat (first | exact All2.nil | exact Fg.refl _ | refine All2.cons (by first | exact Or.inl rfl | exact Or.inr rfl) ?_))
/-! ### what is computed -/
def wantKeys (e nd : List Nat) : List Nat := if 0 < e.length then e else if 0 < nd.length then [natAt nd 0] else [0]
def keys1 (q : VaidxBase.Question) : List (List Nat) := if 0 < (without q.order (Vaidxe.equals q)).length then [Vaidxe.equals q ++ without q.order (Vaidxe.equals q)] else []
def keys2 (q : VaidxBase.Question) : List (List Nat) := keys1 q ++ (q.filters.filter fun f => !VaidxBase.isEqual f).map fun f => Vaidxe.equals q ++ [f.col]
def keysL (q : VaidxBase.Question) : List (List Nat) := if (keys2 q).length = 0 then [wantKeys (Vaidxe.equals q) (onceL (VaidxBase.needed q))] else keys2 q
abbrev Shape := List Nat × List Nat
def pSh (s : Shape) : Pm := pT [pZs s.1, pZs s.2]
def dSh (s : Shape) : PyData := .tuple [dIs (zs s.1), dIs (zs s.2)]
def addS (out : List Shape) (s : Shape) : List Shape := if s ∈ out then out else out ++ [s]
def shapeStep (nd : List Nat) (out : List Shape) (lead : List Nat) : List Shape := addS (addS out (lead, [])) (lead, without nd lead)
def shapesOf (q : VaidxBase.Question) : List Shape := (keysL q).foldl (shapeStep (onceL (VaidxBase.needed q))) []
def numsOf (s : Shape) : List Nat := [s.1.length] ++ s.1 ++ [s.2.length] ++ s.2 ++ [0]
theorem dp_Sh (s : Shape) : DpOf (pSh s) (dSh s) := dp_T (.cons (dp_nats _) (.cons (dp_nats _) .nil))
theorem dSh_lay (s : Shape) : (dSh s).canLay0 = true := by
  simp only [dSh, PyData.canLay0, PyData.canLayAll0, dIs_lay, Bool.and_self, Bool.and_true]
theorem dSh_depth (s : Shape) : (dSh s).depth ≤ 5 := by
  simp only [dSh, PyData.depth, PyData.depthAll, dIs_depth]
  decide
theorem dSh_eq (s t : Shape) : PyData.eqv (dSh s) (dSh t) = decide (s = t) := by
  simp only [dSh, PyData.eqv, PyData.eqvAll, eqv_ints, zs_inj, Bool.and_true]
  by_cases h1 : s.1 = t.1 <;> by_cases h2 : s.2 = t.2
  · simp [h1, h2, Prod.ext_iff]
  · simp [h1, h2, Prod.ext_iff]
  · simp [h1, h2, Prod.ext_iff]
  · simp [h1, h2, Prod.ext_iff]
theorem addS_len (out : List Shape) (s : Shape) : (addS out s).length ≤ out.length + 1 := by
  unfold addS
  split
  · omega
  · rw [List.length_append]; simp
theorem equals_len {q : VaidxBase.Question} (h : q.filters.length ≤ 4) : (Vaidxe.equals q).length ≤ 4 := by
  unfold Vaidxe.equals
  rw [List.length_map]
  exact Nat.le_trans (List.length_filter_le _ _) h
theorem without_len (cs os : List Nat) : (without cs os).length ≤ cs.length := List.length_filter_le _ _
theorem keys1_len (q : VaidxBase.Question) : (keys1 q).length ≤ 1 := by
  unfold keys1
  split
  · exact Nat.le_refl _
  · exact Nat.zero_le _
theorem keys2_len {q : VaidxBase.Question} (h : q.filters.length ≤ 4) : (keys2 q).length ≤ 5 := by
  unfold keys2
  rw [List.length_append, List.length_map]
  have h1 := keys1_len q
  have h2 := List.length_filter_le (fun f => !VaidxBase.isEqual f) q.filters
  omega
theorem keysL_len {q : VaidxBase.Question} (h : q.filters.length ≤ 4) : (keysL q).length ≤ 5 := by
  unfold keysL
  split
  · show 1 ≤ 5; omega
  · exact keys2_len h
theorem keysL_item {q : VaidxBase.Question} (h : q.filters.length ≤ 4) (h2 : q.order.length ≤ 4) : ∀ k ∈ keysL q, k.length ≤ 8 := by
  intro k hk
  have he := equals_len h
  have hw := without_len q.order (Vaidxe.equals q)
  unfold keysL at hk
  split at hk
  · rw [List.mem_singleton.mp hk]
    unfold wantKeys
    split
    · omega
    · split
      · show 1 ≤ 8; omega
      · show 1 ≤ 8; omega
  · unfold keys2 keys1 at hk
    rcases List.mem_append.mp hk with z | z
    · split at z
      · rw [List.mem_singleton.mp z, List.length_append]
        omega
      · cases z
    · obtain ⟨f, _, rfl⟩ := List.mem_map.mp z
      rw [List.length_append]
      show _ + 1 ≤ 8
      omega
section
variable {P : Program} {w : World} {K : PySem.W.Frag} {mg : Str → Option Value} {base : Heap} {T : List (Addr × Str)}
/-! ### keys_for_want_of_others -/
def sWant (ps : List Pm) (R : Pm) : Prop := ∃ e nd : List Nat, ps = [pZs e, pZs nd] ∧ R = pZs (wantKeys e nd)
theorem sc50 : FnScope ["equal", "needed"] ["equal", "needed"] (defScope (top 50)) := ⟨rfl, rfl, rfl, by decide +kernel, rfl, by decide +kernel, by decide +kernel⟩
theorem ok_want (E : Tp T K mg base) : DefOk P w K mg base T 1 "keys_for_want_of_others" ["equal", "needed"] sWant := by
  refine def_ok E E.g_keys_for_want_of_others E.d_keys_for_want_of_others sc50 (fun _ _ _ _ _ _ us hl => match us, hl with | [_, _], _ => rfl) (fun ps R ⟨_, _, h, _⟩ => by rw [h]; rfl) ?_
  rintro X A0 H0 ps R hx hf ⟨e, nd, rfl, rfl⟩
  unfold wantKeys
  refine st_ifr (x := decide (0 < e.length)) ((evt_gt ((ev_len hx E.b_len (ev_var hx 0 (R := pZs e))).eq (by rw [List.length_map])) ev_int).eq (decide_eq_decide.mpr (by omega))) (fun h => ?_) fun h => ?_
  · rw [if_pos (of_decide_eq_true h)]
    exact st_last (ss_ret (ev_listOf hx E.b_list (ev_var hx 0)))
  rw [if_neg (of_decide_eq_false h)]
  refine st_ifr (x := decide (0 < nd.length)) ((evt_gt ((ev_len hx E.b_len (ev_var hx 1 (R := pZs nd))).eq (by rw [List.length_map])) ev_int).eq (decide_eq_decide.mpr (by omega))) (fun h => ?_) fun h => ?_
  · rw [if_pos (of_decide_eq_true h)]
    exact st_last (ss_ret (ev_lst (evs_cons (ev_ixL (ev_var hx 1) ev_int (atI_map (R := pZ) (natAt_get (of_decide_eq_true h)))) evs_nil)))
  · rw [if_neg (of_decide_eq_false h)]
    exact st_last (ss_ret (ev_lst (evs_cons ev_int evs_nil)))
/-! ### suggested_keys -/
def sKeys (K : PySem.W.Frag) (ps : List Pm) (R : Pm) : Prop := ∃ (n : Nat) (q : VaidxBase.Question), OkQ n q ∧ ps = [pQ K q] ∧ R = pLs pZs (keysL q)
theorem sc49 : FnScope ["question", "equal", "order", "out", "column", "low", "high"] ["question"] (defScope (top 49)) := ⟨rfl, rfl, rfl, by decide +kernel, rfl, by decide +kernel, by decide +kernel⟩
theorem ok_keys (E : Tp T K mg base) : DefOk P w K mg base T 3 "suggested_keys" ["question"] (sKeys K) := by
  refine def_ok E E.g_suggested_keys E.d_suggested_keys sc49 (fun _ _ _ _ _ _ us hl => match us, hl with | [_], _ => rfl) (fun ps R ⟨_, _, _, h, _⟩ => by rw [h]; rfl) ?_
  rintro X A0 H0 ps R hx hf ⟨n, q, hq, rfl, rfl⟩
  have he := equals_len hq.fl
  have hw := without_len q.order (Vaidxe.equals q)
  have hol := hq.ol
  have h2l := keys2_len hq.fl
  refine st_seq (ss_set hx hf 1 (ev_call hx (ok_equal E) (evs_cons (ev_var hx 0) evs_nil) ⟨q, hq.fl, rfl, rfl⟩)) ?_
  refine st_seq (ss_set hx hf 2 (ev_call hx (ok_without E) (evs_cons (f_order E hx (ev_var hx 0)) (evs_cons (ev_var hx 1) evs_nil)) ⟨_, _, by omega, rfl, rfl⟩)) ?_
  refine st_seq (ss_setM hx hf 3 evs_nil) ?_
  refine st_seq (Γ1 := [.im (pQ K q), .im (pZs (Vaidxe.equals q)), .im (pZs (without q.order (Vaidxe.equals q))), .mu ((keys1 q).map pZs), .un, .un, .un]) (ss_if (x := decide (0 < (without q.order (Vaidxe.equals q)).length)) ((evt_gt ((ev_len hx E.b_len (ev_var hx 2 (R := pZs (without q.order (Vaidxe.equals q))))).eq (by rw [List.length_map])) ev_int).eq (decide_eq_decide.mpr (by omega))) (fun h => ?_) fun h => ?_) ?_
  · refine st_seq (ss_app (ps := []) (R := pZs (Vaidxe.equals q ++ without q.order (Vaidxe.equals q))) hx 3 ((ev_cat (small_size (by rw [List.length_map, List.length_map]; omega)) (ev_var hx 1 (R := pZs (Vaidxe.equals q))) (ev_var hx 2 (R := pZs (without q.order (Vaidxe.equals q))))).eq (congrArg pL List.map_append.symm)) (oneMu_of rfl) (by decide)) (st_end ?_)
    unfold keys1
    rw [if_pos (of_decide_eq_true h)]
    walk_at "fg"
  · refine st_end ?_
    unfold keys1
    rw [if_neg (of_decide_eq_false h)]
    walk_at "fg"
  refine st_fold (R := pFil) (xs := q.filters) hx (fun out : List (List Nat) => [.im (pQ K q), .im (pZs (Vaidxe.equals q)), .im (pZs (without q.order (Vaidxe.equals q))), .mu (out.map pZs), .un, .un, .un]) (fun out f => if (!VaidxBase.isEqual f) then out ++ [Vaidxe.equals q ++ [f.col]] else out) (fun i out => out.length ≤ i + 1) (keys1 q) (f_filters E hx (ev_var hx 0)) (Fg.refl _) (by have := keys1_len q; omega)
    (fun i out f hi hl => ⟨?_, ?_⟩) fun _ => ?_
  · split
    · rw [List.length_append]; simp; omega
    · omega
  · have hio := lt_of_get hi
    have hfl := hq.fl
    refine ⟨_, _, tg_tup3 hx 4 5 6, st_seq (Γ1 := [.im (pQ K q), .im (pZs (Vaidxe.equals q)), .im (pZs (without q.order (Vaidxe.equals q))), .mu ((if (!VaidxBase.isEqual f) then out ++ [Vaidxe.equals q ++ [f.col]] else out).map pZs), .un, .un, .un]) (ss_if (x := !VaidxBase.isEqual f) ((evt_ne (ev_var hx 5) (ev_var hx 6)).eq (by rw [isEqual_dec])) (fun h => ?_) fun h => ?_) st_nil⟩
    · refine st_seq (ss_app (ps := out.map pZs) (R := pZs (Vaidxe.equals q ++ [f.col])) hx 3 ((ev_cat (small_size (by rw [List.length_map]; show _ + 1 ≤ _; omega)) (ev_var hx 1 (R := pZs (Vaidxe.equals q))) (ev_lst (evs_cons (ev_var hx 4 (R := pZ f.col)) evs_nil))).eq (by show pL _ = pL ((Vaidxe.equals q ++ [f.col]).map pZ); rw [List.map_append]; rfl)) (oneMu_of rfl) (small_lt (by rw [List.length_map]; omega))) (st_end ?_)
      rw [if_pos h, List.map_append]
      walk_at "fg"
    · refine st_end ?_
      rw [if_neg (by rw [h]; decide)]
      walk_at "fg"
  rw [fold_filter]
  show ST X T A0 H0 _ [.im (pQ K q), .im (pZs (Vaidxe.equals q)), .im (pZs (without q.order (Vaidxe.equals q))), .mu ((keys2 q).map pZs), .un, .un, .un] (.rt (pLs pZs (keysL q)))
  refine st_seq (Γ1 := [.im (pQ K q), .im (pZs (Vaidxe.equals q)), .im (pZs (without q.order (Vaidxe.equals q))), .mu ((keysL q).map pZs), .un, .un, .un]) (ss_if (x := decide ((keys2 q).length = 0)) ((evt_eq ((ev_lenM (ps := (keys2 q).map pZs) hx E.b_len 3).eq (by rw [List.length_map])) ev_int).eq (decide_eq_decide.mpr (by omega))) (fun h => ?_) fun h => ?_) (st_last (ss_retM hx 3))
  · have h' : keys2 q = [] := List.eq_nil_of_length_eq_zero (of_decide_eq_true h)
    have e : keysL q = [wantKeys (Vaidxe.equals q) (onceL (VaidxBase.needed q))] := by
      unfold keysL
      rw [if_pos (of_decide_eq_true h)]
    rw [e, h']
    refine st_seq (ss_app (ps := []) (R := pZs (wantKeys (Vaidxe.equals q) (onceL (VaidxBase.needed q)))) hx 3 (ev_call hx (ok_want E) (evs_cons (ev_var hx 1) (evs_cons (ev_call hx (ok_needed E) (evs_cons (ev_var hx 0) evs_nil) ⟨q, hq.fl, hq.ol, hq.wl, rfl, rfl⟩) evs_nil)) ⟨_, _, rfl, rfl⟩) (oneMu_of rfl) (by decide)) (st_end ?_)
    walk_at "fg"
  · have e : keysL q = keys2 q := by
      unfold keysL
      rw [if_neg (of_decide_eq_false h)]
    rw [e]
    refine st_end ?_
    walk_at "fg"
/-! ### shapes_of -/
def sShapes (K : PySem.W.Frag) (ps : List Pm) (R : Pm) : Prop := ∃ (n : Nat) (q : VaidxBase.Question), OkQ n q ∧ ps = [pQ K q] ∧ R = pLs pSh (shapesOf q)
theorem sc51 : FnScope ["question", "out", "lead", "others", "shape"] ["question"] (defScope (top 51)) := ⟨rfl, rfl, rfl, by decide +kernel, rfl, by decide +kernel, by decide +kernel⟩
theorem needed_once_len {q : VaidxBase.Question} {n : Nat} (hq : OkQ n q) : (onceL (VaidxBase.needed q)).length ≤ 12 := by
  have h := foldl_onceF_len (VaidxBase.needed q) []
  have h2 : (VaidxBase.needed q).length ≤ 12 := by
    unfold VaidxBase.needed
    rw [List.length_append, List.length_append, List.length_map]
    have h1 := hq.fl
    have h2 := hq.ol
    have h3 := hq.wl
    omega
  unfold onceL
  have h3 : ([] : List Nat).length = 0 := rfl
  omega
theorem ok_shapes (E : Tp T K mg base) : DefOk P w K mg base T 4 "shapes_of" ["question"] (sShapes K) := by
  refine def_ok E E.g_shapes_of E.d_shapes_of sc51 (fun _ _ _ _ _ _ us hl => match us, hl with | [_], _ => rfl) (fun ps R ⟨_, _, _, h, _⟩ => by rw [h]; rfl) ?_
  rintro X A0 H0 ps R hx hf ⟨n, q, hq, rfl, rfl⟩
  have hkl := keysL_len hq.fl
  have hnl := needed_once_len hq
  refine st_seq (ss_setM hx hf 1 evs_nil) ?_
  refine st_fold (R := pZs) (xs := keysL q) hx (fun out : List Shape => [.im (pQ K q), .mu (out.map pSh), .un, .un, .un]) (shapeStep (onceL (VaidxBase.needed q))) (fun i out => out.length ≤ 2 * i) [] (ev_call hx (ok_keys E) (evs_cons (ev_var hx 0) evs_nil) ⟨n, q, hq, rfl, rfl⟩) (Fg.refl _) (Nat.le_refl _) (fun i out lead hi hl => ⟨?_, ?_⟩) fun _ => st_last (ss_retM hx 1)
  · unfold shapeStep
    have h1 := addS_len out (lead, [])
    have h2 := addS_len (addS out (lead, [])) (lead, without (onceL (VaidxBase.needed q)) lead)
    omega
  · have hio := lt_of_get hi
    refine ⟨_, _, tg_name hx 2, ?_⟩
    refine st_seq (ss_set hx hf 3 (R := pZs (without (onceL (VaidxBase.needed q)) lead)) (ev_call hx (ok_without E) (evs_cons (ev_call hx (ok_needed E) (evs_cons (ev_var hx 0) evs_nil) ⟨q, hq.fl, hq.ol, hq.wl, rfl, rfl⟩) (evs_cons (ev_var hx 2 (R := pZs lead)) evs_nil)) ⟨_, _, by omega, rfl, rfl⟩)) ?_
    refine st_fold (R := pSh) (xs := [(lead, []), (lead, without (onceL (VaidxBase.needed q)) lead)]) hx (fun o : List Shape => [.im (pQ K q), .mu (o.map pSh), .im (pZs lead), .im (pZs (without (onceL (VaidxBase.needed q)) lead)), .un]) addS (fun j o => o.length ≤ 2 * i + j) out
      (ev_lst (evs_cons (ev_tup (evs_cons (ev_var hx 2) (evs_cons (ev_lst evs_nil) evs_nil))) (evs_cons (ev_tup (evs_cons (ev_var hx 2) (evs_cons (ev_var hx 3) evs_nil))) evs_nil))) (by walk_at "fg") (by omega) (fun j o s hj ho => ⟨by have := addS_len o s; omega, _, _, tg_name hx 4, ?_⟩) fun _ => st_end ?_
    · have hjo := lt_of_get hj
      have hj2 : j < 2 := hjo
      refine st_seq (Γ1 := [.im (pQ K q), .mu ((addS o s).map pSh), .im (pZs lead), .im (pZs (without (onceL (VaidxBase.needed q)) lead)), .un]) (ss_if (x := !decide (s ∈ o)) (evt_notInDM (ps := o.map pSh) (d := dSh s) (ds := o.map dSh) (R1 := pSh s) hx 1 (dp_Sh s) (all2_map dp_Sh o) (shaped_of (dSh_lay s) (Nat.le_trans (dSh_depth s) (by decide))) (shaped_list dSh_lay dSh_depth (by decide) o) ((any_eqv dSh dSh_eq s o).trans (decide_eq_decide.mpr Iff.rfl)) (ev_var hx 4)) (fun h => ?_) fun h => ?_) st_nil
      · have h' : ¬ s ∈ o := by simpa using h
        refine st_seq (ss_app (ps := o.map pSh) (R := pSh s) hx 1 (ev_var hx 4) (oneMu_of rfl) (small_lt (by rw [List.length_map]; omega))) (st_end ?_)
        unfold addS
        rw [if_neg h', List.map_append]
        walk_at "fg"
      · have h' : s ∈ o := by simpa using h
        refine st_end ?_
        unfold addS
        rw [if_pos h']
        walk_at "fg"
    · show Fg [.im (pQ K q), .mu ((shapeStep (onceL (VaidxBase.needed q)) out lead).map pSh), .im (pZs lead), .im (pZs (without (onceL (VaidxBase.needed q)) lead)), .un] _
      walk_at "fg"
/-! ### numbers_of, candidate_index -/
def sNums (ps : List Pm) (R : Pm) : Prop := ∃ s : Shape, s.1.length ≤ 1000 ∧ s.2.length ≤ 1000 ∧ ps = [pSh s] ∧ R = pZs (numsOf s)
theorem sc52 : FnScope ["shape", "lead", "others"] ["shape"] (defScope (top 52)) := ⟨rfl, rfl, rfl, by decide +kernel, rfl, by decide +kernel, by decide +kernel⟩
theorem cat_Z {X : Cx} {T : List (Addr × Str)} {H0 : Hp} {Γ : List Slot} {a b : Expr} {pos : Pos} {xs ys : List Nat} (h : xs.length + ys.length ≤ 1000000) (ha : EV X T H0 a Γ (pZs xs)) (hb : EV X T H0 b Γ (pZs ys)) : EV X T H0 (.BinOp a .Add b pos) Γ (pZs (xs ++ ys)) :=
  (ev_cat (small_size (by rw [List.length_map, List.length_map]; exact h)) ha hb).eq (congrArg pL List.map_append.symm)
theorem ok_nums (E : Tp T K mg base) : DefOk P w K mg base T 1 "numbers_of" ["shape"] sNums := by
  refine def_ok E E.g_numbers_of E.d_numbers_of sc52 (fun _ _ _ _ _ _ us hl => match us, hl with | [_], _ => rfl) (fun ps R ⟨_, _, _, h, _⟩ => by rw [h]; rfl) ?_
  rintro X A0 H0 ps R hx hf ⟨s, h1, h2, rfl, rfl⟩
  refine st_seq (ss_asg (R := pSh s) (ev_var hx 0) (tg_tup2 hx 1 2)) ?_
  refine st_last (ss_ret (cat_Z (ys := [0]) ?_ (cat_Z ?_ (cat_Z (ys := [s.2.length]) ?_ (cat_Z (xs := [s.1.length]) ?_ (ev_lst (evs_cons ((ev_len hx E.b_len (ev_var hx 1 (R := pZs s.1))).eq (by rw [List.length_map])) evs_nil)) (ev_var hx 1)) (ev_lst (evs_cons ((ev_len hx E.b_len (ev_var hx 2 (R := pZs s.2))).eq (by rw [List.length_map])) evs_nil))) (ev_var hx 2)) (ev_lst (evs_cons ev_int evs_nil))))
  all_goals
    simp only [List.length_append, List.length_cons, List.length_nil]
    omega
def sCand (K : PySem.W.Frag) (ps : List Pm) (R : Pm) : Prop := ∃ (s : Shape) (u : Nat), ps = [pSh s, pZ u] ∧ R = pX K ⟨⟨s.1, s.2, none⟩, u⟩
theorem sc53 : FnScope ["shape", "upkeep", "lead", "others"] ["shape", "upkeep"] (defScope (top 53)) := ⟨rfl, rfl, rfl, by decide +kernel, rfl, by decide +kernel, by decide +kernel⟩
theorem ok_cand (E : Tp T K mg base) : DefOk P w K mg base T 3 "candidate_index" ["shape", "upkeep"] (sCand K) := by
  refine def_ok E E.g_candidate_index E.d_candidate_index sc53 (fun _ _ _ _ _ _ us hl => match us, hl with | [_, _], _ => rfl) (fun ps R ⟨_, _, h, _⟩ => by rw [h]; rfl) ?_
  rintro X A0 H0 ps R hx hf ⟨s, u, rfl, rfl⟩
  refine st_seq (ss_asg (R := pSh s) (ev_var hx 0) (tg_tup2 hx 2 3)) ?_
  exact st_last (ss_ret ((ev_make hx (mk_Index E) (evs_cons (ev_listOf hx E.b_list (ev_var hx 2)) (evs_cons (ev_listOf hx E.b_list (ev_var hx 3)) (evs_cons (ev_lst evs_nil) (evs_cons (ev_var hx 1) evs_nil))))).eq rfl))
end
end IX
end

section
set_option Elab.async false
set_option linter.all false
set_option maxRecDepth 100000
set_option maxHeartbeats 2000000
namespace IX
open PySem PySem.Spec PyProof.Rows L2
local macro_rules | `(tactic| walk_at "fg") => `(tactic| repeat (first | exact All2.nil | exact Fg.refl _ | refine All2.cons (by first | exact Or.inl rfl | exact Or.inr rfl) ?_))
/-! ### loops: where they end -/
theorem rep_succ {S : Type} (f : S → S) : ∀ (n : Nat) (s : S), Nat.repeat f (n + 1) s = Nat.repeat f n (f s)
  | 0, s => rfl
  | n + 1, s => by
    show f (Nat.repeat f (n + 1) s) = f (Nat.repeat f n (f s))
    rw [rep_succ f n s]
theorem rep_done {S : Type} (I : S → Prop) (m : S → Nat) (t : S → Bool) (f : S → S) (turn : ∀ s, I s → t s = true → I (f s) ∧ m (f s) < m s) (fix : ∀ s, t s = false → f s = s) : ∀ (n : Nat) (s : S), I s → m s ≤ n → t (Nat.repeat f n s) = false
  | 0, s, hi, hm => by
    cases h : t s with
    | false => exact h
    | true =>
      have := (turn s hi h).2
      omega
  | n + 1, s, hi, hm => by
    rw [rep_succ]
    cases h : t s with
    | false =>
      rw [fix s h]
      have key : ∀ k, Nat.repeat f k s = s := by
        intro k
        induction k with
        | zero => rfl
        | succ k ih => show f (Nat.repeat f k s) = s; rw [ih, fix s h]
      rw [key]
      exact h
    | true =>
      obtain ⟨h1, h2⟩ := turn s hi h
      exact rep_done I m t f turn fix n (f s) h1 (by omega)
theorem rep_fix {S : Type} {t : S → Bool} {f : S → S} (fix : ∀ s, t s = false → f s = s) {s0 : S} {n : Nat} (h : t (Nat.repeat f n s0) = false) : ∀ k, Nat.repeat f (n + k) s0 = Nat.repeat f n s0
  | 0 => rfl
  | k + 1 => by
    show f (Nat.repeat f (n + k) s0) = _
    rw [rep_fix fix h k, fix _ h]
theorem rep_same {S : Type} {t : S → Bool} {f : S → S} (fix : ∀ s, t s = false → f s = s) {s0 : S} {n k : Nat} (h : t (Nat.repeat f n s0) = false) (h2 : t (Nat.repeat f k s0) = false) : Nat.repeat f n s0 = Nat.repeat f k s0 := by
  rcases Nat.le_total n k with q | q
  · obtain ⟨d, rfl⟩ := Nat.le.dest q
    exact (rep_fix fix h d).symm
  · obtain ⟨d, rfl⟩ := Nat.le.dest q
    exact rep_fix fix h2 d
/-! ### what is computed -/
abbrev Fr := Int × Int
def pFr (f : Fr) : Pm := pT [pI f.1, pI f.2]
def Bd (x : Int) : Prop := x.natAbs < 2 ^ 60
structure BF (f : Fr) : Prop where
  n : Bd f.1
  d : Bd f.2
  p : 0 < f.2
structure BL (f : Fr) : Prop where
  a : f.1.natAbs < 2 ^ 50
  b : f.2.natAbs < 2 ^ 50
  n1 : 0 ≤ f.1
  n2 : 0 ≤ f.2
theorem Bd.mul {x y : Int} (h : Bd x) (h2 : Bd y) : CMulW x y := wide_mul (a := 60) (b := 60) h h2 (by decide) (by decide) (by decide)
theorem Bd.div {x y : Int} (h2 : Bd y) (h : 0 < y) : CDivW x y := wide_div (b := 60) h h2 (by decide) (by decide)
def divI (a b : Int) : Int := if 0 < a then (Nat.gcd a.toNat b.toNat : Int) else b
def lowI (f : Fr) : List Int := [f.1 / divI f.1 f.2, f.2 / divI f.1 f.2]
def fLess (f g : Fr) : Bool := decide (f.1 * g.2 < g.1 * f.2)
def gtStep (b f : Fr) : Fr := if fLess b f then f else b
def leStep (b f : Fr) : Fr := if fLess f b then f else b
def gtOf (fs : List Fr) : Fr := fs.foldl gtStep (fs.headD (0, 1))
def leOf (fs : List Fr) : Fr := fs.foldl leStep (fs.headD (0, 1))
def lineOf (ts : List Nat) (n : Nat) (p : Pl) : Fr := ((costW p ts n : Int), (natAt p.rises n : Int))
def cross (l m : Fr) : Fr := (l.1 - m.1, m.2 - l.2)
def begs (ls : List Fr) (h : Fr) : List Fr := (0, 1) :: (ls.filter fun l => decide (h.2 < l.2)).map fun l => cross h l
def ends (ls : List Fr) (h : Fr) : List Fr := (ls.filter fun l => decide (l.2 < h.2)).map fun l => cross l h
def marginI (ls : List Fr) (h : Fr) : List Int := lowI (gtOf (begs ls h)) ++ if (ends ls h).length = 0 then [-1, 0] else lowI (leOf (ends ls h))
theorem gcd_step {a b : Int} (ha : 0 < a) (hb : 0 ≤ b) : Nat.gcd (b - b / a * a).toNat a.toNat = Nat.gcd a.toNat b.toNat := by
  obtain ⟨x, rfl⟩ : ∃ x : Nat, a = (x : Int) := ⟨a.toNat, by omega⟩
  obtain ⟨y, rfl⟩ : ∃ y : Nat, b = (y : Int) := ⟨b.toNat, by omega⟩
  have e : ((y : Int) - (y : Int) / (x : Int) * (x : Int)).toNat = y % x := by
    have h1 : (y : Int) - (y : Int) / (x : Int) * (x : Int) = (y : Int) % (x : Int) := by
      have := Int.emod_def (y : Int) (x : Int)
      rw [this, Int.mul_comm]
    rw [h1, ← Int.natCast_emod, Int.toNat_natCast]
  rw [e, Int.toNat_natCast, Int.toNat_natCast, ← Nat.gcd_rec]
theorem emod_bounds {a b : Int} (ha : 0 < a) : 0 ≤ b - b / a * a ∧ b - b / a * a < a := by
  have h1 : b - b / a * a = b % a := by
    have := Int.emod_def b a
    rw [this, Int.mul_comm]
  rw [h1]
  exact ⟨Int.emod_nonneg _ (by omega), Int.emod_lt_of_pos _ ha⟩
def gcdF (s : Fr) : Fr := if 0 < s.1 then (s.2 - s.2 / s.1 * s.1, s.1) else s
theorem divI_pos {a b : Int} (h : 0 < b) : 0 < divI a b := by
  unfold divI
  split
  · rename_i ha
    have : 0 < Nat.gcd a.toNat b.toNat := Nat.gcd_pos_of_pos_left _ (by omega)
    omega
  · exact h
theorem divI_le {a b : Int} (h : 0 < b) : divI a b ≤ b := by
  unfold divI
  split
  · rename_i ha
    have : Nat.gcd a.toNat b.toNat ≤ b.toNat := Nat.le_of_dvd (by omega) (Nat.gcd_dvd_right _ _)
    omega
  · exact Int.le_refl _
theorem gt_keep {P : Fr → Prop} : ∀ {fs : List Fr} {b : Fr}, P b → (∀ f ∈ fs, P f) → P (fs.foldl gtStep b)
  | [], b, hb, _ => hb
  | f :: r, b, hb, h => by
    rw [List.foldl_cons]
    refine gt_keep ?_ fun g hg => h g (List.mem_cons_of_mem _ hg)
    unfold gtStep
    split
    · exact h f List.mem_cons_self
    · exact hb
theorem le_keep {P : Fr → Prop} : ∀ {fs : List Fr} {b : Fr}, P b → (∀ f ∈ fs, P f) → P (fs.foldl leStep b)
  | [], b, hb, _ => hb
  | f :: r, b, hb, h => by
    rw [List.foldl_cons]
    refine le_keep ?_ fun g hg => h g (List.mem_cons_of_mem _ hg)
    unfold leStep
    split
    · exact h f List.mem_cons_self
    · exact hb
theorem headD_mem {fs : List Fr} (h : 0 < fs.length) : ∃ f, fs[0]? = some f ∧ fs.headD (0, 1) = f ∧ f ∈ fs := by
  cases fs with
  | nil => simp at h
  | cons f r => exact ⟨f, rfl, rfl, List.mem_cons_self⟩
theorem BL.cross {l m : Fr} (hl : BL l) (hm : BL m) (h : l.2 < m.2) : BF (cross l m) := by
  have h1 := hl.a
  have h2 := hm.a
  have h3 := hl.b
  have h4 := hm.b
  refine ⟨?_, ?_, ?_⟩
  · show (l.1 - m.1).natAbs < 2 ^ 60
    omega
  · show (m.2 - l.2).natAbs < 2 ^ 60
    omega
  · show 0 < m.2 - l.2
    omega
theorem bf01 : BF (0, 1) := ⟨by show (0 : Int).natAbs < 2 ^ 60; decide, by show (1 : Int).natAbs < 2 ^ 60; decide, by decide⟩
theorem begs_ok {ls : List Fr} {h : Fr} (hl : ∀ l ∈ ls, BL l) (hh : BL h) : ∀ f ∈ begs ls h, BF f := by
  intro f hf
  rcases List.mem_cons.mp hf with rfl | z
  · exact bf01
  · obtain ⟨l, hm, rfl⟩ := List.mem_map.mp z
    obtain ⟨g1, g2⟩ := List.mem_filter.mp hm
    exact hh.cross (hl l g1) (of_decide_eq_true g2)
theorem ends_ok {ls : List Fr} {h : Fr} (hl : ∀ l ∈ ls, BL l) (hh : BL h) : ∀ f ∈ ends ls h, BF f := by
  intro f hf
  obtain ⟨l, hm, rfl⟩ := List.mem_map.mp hf
  obtain ⟨g1, g2⟩ := List.mem_filter.mp hm
  exact (hl l g1).cross hh (of_decide_eq_true g2)
theorem sw2 {env env' : Env} (h : env.scope = env'.scope) (ts : List Expr) (v : Expr) : swappedStores ts v env = swappedStores ts v env' := by
  have hk : ∀ id, env.kindOf id = env'.kindOf id := fun id => by
    unfold Env.kindOf
    rw [h]
  have hb : env.blockKind = env'.blockKind := by
    unfold Env.blockKind
    rw [h]
  unfold swappedStores
  simp only [hk, hb]
theorem cat_I {X : Cx} {T : List (Addr × Str)} {H0 : Hp} {Γ : List Slot} {a b : Expr} {pos : Pos} {xs ys : List Int} (h : xs.length + ys.length ≤ 1000000) (ha : EV X T H0 a Γ (pIs xs)) (hb : EV X T H0 b Γ (pIs ys)) : EV X T H0 (.BinOp a .Add b pos) Γ (pIs (xs ++ ys)) :=
  (ev_cat (small_size (by rw [List.length_map, List.length_map]; exact h)) ha hb).eq (congrArg pL List.map_append.symm)
section
variable {P : Program} {w : World} {K : PySem.W.Frag} {mg : Str → Option Value} {base : Heap} {T : List (Addr × Str)}
/-! ### greatest_divisor, lowest_terms -/
def sGcd (ps : List Pm) (R : Pm) : Prop := ∃ a b : Int, Bd a ∧ Bd b ∧ 0 < b ∧ ps = [pI a, pI b] ∧ R = pI (divI a b)
theorem sc60 : FnScope ["a", "b"] ["a", "b"] (defScope (top 60)) := ⟨rfl, rfl, rfl, by decide +kernel, rfl, by decide +kernel, by decide +kernel⟩
theorem ok_gcd (E : Tp T K mg base) : DefOk P w K mg base T 1 "greatest_divisor" ["a", "b"] sGcd := by
  refine def_ok E E.g_greatest_divisor E.d_greatest_divisor sc60 (fun _ _ _ _ _ _ us hl => match us, hl with | [_, _], _ => rfl) (fun ps R ⟨_, _, _, _, _, h, _⟩ => by rw [h]; rfl) ?_
  rintro X A0 H0 ps R hx hf ⟨a, b, ha, hb, hp, rfl, rfl⟩
  refine st_seq (ss_while (S := Fr) hx (fun s => [.im (pI s.1), .im (pI s.2)]) (fun s => Bd s.1 ∧ Bd s.2 ∧ 0 < s.2 ∧ (0 < a → 0 ≤ s.1 ∧ Nat.gcd s.1.toNat s.2.toNat = Nat.gcd a.toNat b.toNat) ∧ (¬ 0 < a → s = (a, b))) (fun s => s.1.toNat) (fun s => decide (0 < s.1)) gcdF (a, b) (if 0 < a then (0, (Nat.gcd a.toNat b.toNat : Int)) else (a, b))
    ⟨ha, hb, hp, fun h => ⟨Int.le_of_lt h, rfl⟩, fun _ => rfl⟩ (Fg.refl _) (fun s hs => evt_gt (ev_var hx 0) ev_int) (fun s hs ht => ?_) (fun s hs ht _ => ?_)) ?_
  · have h0 := of_decide_eq_true ht
    obtain ⟨h1, h2, h3, h4, h5⟩ := hs
    have hap : 0 < a := Classical.byContradiction fun z => by
      have e := h5 z
      rw [e] at h0
      exact z h0
    have hm := emod_bounds (b := s.2) h0
    have e : gcdF s = (s.2 - s.2 / s.1 * s.1, s.1) := if_pos h0
    rw [e]
    have hdv : Bd (s.2 / s.1) := by
      have h6 : s.2 / s.1 ≤ s.2 := Int.ediv_le_self _ (by omega)
      have h7 : 0 ≤ s.2 / s.1 := Int.ediv_nonneg (by omega) (by omega)
      unfold Bd at h2 ⊢
      omega
    refine ⟨st_seq (ss_par hx 0 1 (ev_sub (ev_var hx 1) (ev_mul (hdv.mul h1) (ev_fdiv (h1.div h0) (ev_var hx 1) (ev_var hx 0)) (ev_var hx 0))) (ev_var hx 0) (hw := (sw2 (env' := PySem.W.envX "" (defScope (top 60)) 0 0 .none []) hx.es _ _).trans rfl)) (st_end ?_), ⟨?_, h1, h0, fun _ => ⟨hm.1, by rw [gcd_step h0 (by omega)]; exact (h4 hap).2⟩, fun z => absurd hap z⟩, ?_⟩
    · walk_at "fg"
    · unfold Bd at h1 ⊢
      show (s.2 - s.2 / s.1 * s.1).natAbs < 2 ^ 60
      omega
    · show (s.2 - s.2 / s.1 * s.1).toNat < s.1.toNat
      omega
  · have h0 := of_decide_eq_false ht
    obtain ⟨h1, h2, h3, h4, h5⟩ := hs
    by_cases hap : 0 < a
    · rw [if_pos hap]
      obtain ⟨g1, g2⟩ := h4 hap
      have e1 : s.1 = 0 := by omega
      rw [e1] at g2
      have e2 : (s.2.toNat : Int) = (Nat.gcd a.toNat b.toNat : Int) := by
        rw [← g2]
        show (s.2.toNat : Int) = ((Nat.gcd 0 s.2.toNat : Nat) : Int)
        rw [Nat.gcd_zero_left]
      refine Prod.ext e1 ?_
      show s.2 = _
      rw [← e2]
      omega
    · rw [if_neg hap]
      exact h5 hap
  · by_cases hap : 0 < a
    · rw [if_pos hap]
      refine st_last (ss_ret ((ev_var hx 1).eq ?_))
      unfold divI
      rw [if_pos hap]
    · rw [if_neg hap]
      refine st_last (ss_ret ((ev_var hx 1).eq ?_))
      unfold divI
      rw [if_neg hap]
def sLow (ps : List Pm) (R : Pm) : Prop := ∃ f : Fr, BF f ∧ ps = [pFr f] ∧ R = pIs (lowI f)
theorem sc61 : FnScope ["fraction", "numerator", "denominator", "divisor"] ["fraction"] (defScope (top 61)) := ⟨rfl, rfl, rfl, by decide +kernel, rfl, by decide +kernel, by decide +kernel⟩
theorem ok_low (E : Tp T K mg base) : DefOk P w K mg base T 2 "lowest_terms" ["fraction"] sLow := by
  refine def_ok E E.g_lowest_terms E.d_lowest_terms sc61 (fun _ _ _ _ _ _ us hl => match us, hl with | [_], _ => rfl) (fun ps R ⟨_, _, h, _⟩ => by rw [h]; rfl) ?_
  rintro X A0 H0 ps R hx hf ⟨f, h, rfl, rfl⟩
  have hd0 := divI_pos (a := f.1) h.p
  have hd1 := divI_le (a := f.1) h.p
  have hdb : Bd (divI f.1 f.2) := by
    have := h.d
    have := h.p
    unfold Bd at *
    omega
  refine st_seq (ss_asg (R := pFr f) (ev_var hx 0) (tg_tup2 hx 1 2)) ?_
  refine st_seq (ss_set hx hf 3 (R := pI (divI f.1 f.2)) (ev_call hx (ok_gcd E) (evs_cons (ev_var hx 1) (evs_cons (ev_var hx 2) evs_nil)) ⟨f.1, f.2, h.n, h.d, h.p, rfl, rfl⟩)) ?_
  exact st_last (ss_ret (ev_lst (evs_cons (ev_fdiv (hdb.div hd0) (ev_var hx 1) (ev_var hx 3)) (evs_cons (ev_fdiv (hdb.div hd0) (ev_var hx 2) (ev_var hx 3)) evs_nil))))
/-! ### is_less, greatest_of, least_of -/
def sLess (ps : List Pm) (R : Pm) : Prop := ∃ f g : Fr, BF f ∧ BF g ∧ ps = [pFr f, pFr g] ∧ R = pB (fLess f g)
theorem sc62 : FnScope ["one", "other"] ["one", "other"] (defScope (top 62)) := ⟨rfl, rfl, rfl, by decide +kernel, rfl, by decide +kernel, by decide +kernel⟩
theorem ok_less (E : Tp T K mg base) : DefOk P w K mg base T 1 "is_less" ["one", "other"] sLess := by
  refine def_ok E E.g_is_less E.d_is_less sc62 (fun _ _ _ _ _ _ us hl => match us, hl with | [_, _], _ => rfl) (fun ps R ⟨_, _, _, _, h, _⟩ => by rw [h]; rfl) ?_
  rintro X A0 H0 ps R hx hf ⟨f, g, h1, h2, rfl, rfl⟩
  exact st_last (ss_ret (ev_lt (ev_mul (h1.n.mul h2.d) (ev_ixT (ev_var hx 0 (R := pFr f)) ev_int rfl) (ev_ixT (ev_var hx 1 (R := pFr g)) ev_int rfl)) (ev_mul (h2.n.mul h1.d) (ev_ixT (ev_var hx 1 (R := pFr g)) ev_int rfl) (ev_ixT (ev_var hx 0 (R := pFr f)) ev_int rfl))))
def sGt (ps : List Pm) (R : Pm) : Prop := ∃ fs : List Fr, 0 < fs.length ∧ (∀ f ∈ fs, BF f) ∧ ps = [pLs pFr fs] ∧ R = pFr (gtOf fs)
theorem sc63 : FnScope ["fractions", "best", "fraction"] ["fractions"] (defScope (top 63)) := ⟨rfl, rfl, rfl, by decide +kernel, rfl, by decide +kernel, by decide +kernel⟩
theorem ok_gt (E : Tp T K mg base) : DefOk P w K mg base T 2 "greatest_of" ["fractions"] sGt := by
  refine def_ok E E.g_greatest_of E.d_greatest_of sc63 (fun _ _ _ _ _ _ us hl => match us, hl with | [_], _ => rfl) (fun ps R ⟨_, _, _, h, _⟩ => by rw [h]; rfl) ?_
  rintro X A0 H0 ps R hx hf ⟨fs, h0, h1, rfl, rfl⟩
  obtain ⟨f0, e1, e2, e3⟩ := headD_mem h0
  unfold gtOf
  rw [e2]
  refine st_seq (ss_set hx hf 1 (R := pFr f0) (ev_ixL (ev_var hx 0) ev_int (atI_map (R := pFr) (n := 0) e1))) ?_
  refine st_fold (R := pFr) (xs := fs) hx (fun b : Fr => [.im (pLs pFr fs), .im (pFr b), .un]) gtStep (fun _ b => BF b) f0 (ev_var hx 0) (Fg.refl _) (h1 f0 e3) (fun i b f hi hb => ⟨?_, _, _, tg_name hx 2, st_seq (Γ1 := [.im (pLs pFr fs), .im (pFr (gtStep b f)), .un]) (ss_if (x := fLess b f) (evt_val (ev_call hx (ok_less E) (evs_cons (ev_var hx 1) (evs_cons (ev_var hx 2) evs_nil)) ⟨b, f, hb, h1 f (List.mem_of_getElem? hi), rfl, rfl⟩)) (fun h => ?_) fun h => ?_) st_nil⟩) fun _ => st_last (ss_ret (ev_var hx 1))
  · unfold gtStep
    split
    · exact h1 f (List.mem_of_getElem? hi)
    · exact hb
  · unfold gtStep
    rw [if_pos h]
    refine st_seq (ss_set hx hf 1 (R := pFr f) (ev_var hx 2)) (st_end ?_)
    walk_at "fg"
  · unfold gtStep
    rw [if_neg (by rw [h]; decide)]
    refine st_end ?_
    walk_at "fg"
def sLe (ps : List Pm) (R : Pm) : Prop := ∃ fs : List Fr, 0 < fs.length ∧ (∀ f ∈ fs, BF f) ∧ ps = [pLs pFr fs] ∧ R = pFr (leOf fs)
theorem sc64 : FnScope ["fractions", "best", "fraction"] ["fractions"] (defScope (top 64)) := ⟨rfl, rfl, rfl, by decide +kernel, rfl, by decide +kernel, by decide +kernel⟩
theorem ok_le (E : Tp T K mg base) : DefOk P w K mg base T 2 "least_of" ["fractions"] sLe := by
  refine def_ok E E.g_least_of E.d_least_of sc64 (fun _ _ _ _ _ _ us hl => match us, hl with | [_], _ => rfl) (fun ps R ⟨_, _, _, h, _⟩ => by rw [h]; rfl) ?_
  rintro X A0 H0 ps R hx hf ⟨fs, h0, h1, rfl, rfl⟩
  obtain ⟨f0, e1, e2, e3⟩ := headD_mem h0
  unfold leOf
  rw [e2]
  refine st_seq (ss_set hx hf 1 (R := pFr f0) (ev_ixL (ev_var hx 0) ev_int (atI_map (R := pFr) (n := 0) e1))) ?_
  refine st_fold (R := pFr) (xs := fs) hx (fun b : Fr => [.im (pLs pFr fs), .im (pFr b), .un]) leStep (fun _ b => BF b) f0 (ev_var hx 0) (Fg.refl _) (h1 f0 e3) (fun i b f hi hb => ⟨?_, _, _, tg_name hx 2, st_seq (Γ1 := [.im (pLs pFr fs), .im (pFr (leStep b f)), .un]) (ss_if (x := fLess f b) (evt_val (ev_call hx (ok_less E) (evs_cons (ev_var hx 2) (evs_cons (ev_var hx 1) evs_nil)) ⟨f, b, h1 f (List.mem_of_getElem? hi), hb, rfl, rfl⟩)) (fun h => ?_) fun h => ?_) st_nil⟩) fun _ => st_last (ss_ret (ev_var hx 1))
  · unfold leStep
    split
    · exact h1 f (List.mem_of_getElem? hi)
    · exact hb
  · unfold leStep
    rw [if_pos h]
    refine st_seq (ss_set hx hf 1 (R := pFr f) (ev_var hx 2)) (st_end ?_)
    walk_at "fg"
  · unfold leStep
    rw [if_neg (by rw [h]; decide)]
    refine st_end ?_
    walk_at "fg"
/-! ### lines_of, crossing, margin_of -/
def sLines (K : PySem.W.Frag) (ps : List Pm) (R : Pm) : Prop := ∃ (n : Nat) (l : List Pl) (ts : List Nat) (i : Nat), (∀ p ∈ l, OkPl n p) ∧ OkTm n ts ∧ i < n ∧ l.length ≤ 1000 ∧ ps = [pLs (pPl K) l, pZs ts, pZ i] ∧ R = pLs pFr (l.map (lineOf ts i))
theorem sc65 : FnScope ["plans", "times", "number", "plan"] ["plans", "times", "number"] (defScope (top 65)) := ⟨rfl, rfl, rfl, by decide +kernel, rfl, by decide +kernel, by decide +kernel⟩
theorem ok_lines (E : Tp T K mg base) : DefOk P w K mg base T 3 "lines_of" ["plans", "times", "number"] (sLines K) := by
  refine def_ok E E.g_lines_of E.d_lines_of sc65 (fun _ _ _ _ _ _ us hl => match us, hl with | [_, _, _], _ => rfl) (fun ps R ⟨_, _, _, _, _, _, _, _, h, _⟩ => by rw [h]; rfl) ?_
  rintro X A0 H0 ps R hx hf ⟨n, l, ts, i, hp, ht, hi, hl, rfl, rfl⟩
  exact st_last (ss_ret ((ev_lc (R := pPl K) (S := fun p => pFr (lineOf ts i p)) (xs := l) hx [("plan", 3)] (fun _ => true) (small_size (by omega)) (ev_var hx 0)
    (fun p hpm => ⟨_, fun X' hx' => tg_name hx' 3, fun X' hx' => .nil, fun _ X' hx' => ev_tup (evs_cons (ev_call hx' (ok_costW E) (evs_cons (ev_var hx' 3) (evs_cons (ev_var hx' 1) (evs_cons (ev_var hx' 2) evs_nil))) ⟨n, p, ts, i, hp p hpm, ht, hi, rfl, rfl⟩) (evs_cons (ev_ixL (f_rises E hx' (ev_var hx' 3)) (ev_var hx' 2) (atI_map (R := pZ) (natAt_get (by rw [(hp p hpm).rl]; exact hi)))) evs_nil))⟩)).eq (congrArg pL (lcmap pFr (lineOf ts i) l))))
def sCross (ps : List Pm) (R : Pm) : Prop := ∃ l m : Fr, ps = [pFr l, pFr m] ∧ R = pFr (cross l m)
theorem sc66 : FnScope ["flat", "steep"] ["flat", "steep"] (defScope (top 66)) := ⟨rfl, rfl, rfl, by decide +kernel, rfl, by decide +kernel, by decide +kernel⟩
theorem ok_cross (E : Tp T K mg base) : DefOk P w K mg base T 1 "crossing" ["flat", "steep"] sCross := by
  refine def_ok E E.g_crossing E.d_crossing sc66 (fun _ _ _ _ _ _ us hl => match us, hl with | [_, _], _ => rfl) (fun ps R ⟨_, _, h, _⟩ => by rw [h]; rfl) ?_
  rintro X A0 H0 ps R hx hf ⟨l, m, rfl, rfl⟩
  exact st_last (ss_ret (ev_tup (evs_cons (ev_sub (ev_ixT (ev_var hx 0 (R := pFr l)) ev_int rfl) (ev_ixT (ev_var hx 1 (R := pFr m)) ev_int rfl)) (evs_cons (ev_sub (ev_ixT (ev_var hx 1 (R := pFr m)) ev_int rfl) (ev_ixT (ev_var hx 0 (R := pFr l)) ev_int rfl)) evs_nil))))
def sMargin (ps : List Pm) (R : Pm) : Prop := ∃ (ls : List Fr) (h : Fr), (∀ l ∈ ls, BL l) ∧ BL h ∧ ls.length ≤ 1000 ∧ ps = [pLs pFr ls, pFr h] ∧ R = pIs (marginI ls h)
theorem sc67 : FnScope ["lines", "home", "begins", "ends", "begin", "line"] ["lines", "home"] (defScope (top 67)) := ⟨rfl, rfl, rfl, by decide +kernel, rfl, by decide +kernel, by decide +kernel⟩
theorem ok_margin (E : Tp T K mg base) : DefOk P w K mg base T 3 "margin_of" ["lines", "home"] sMargin := by
  refine def_ok E E.g_margin_of E.d_margin_of sc67 (fun _ _ _ _ _ _ us hl => match us, hl with | [_, _], _ => rfl) (fun ps R ⟨_, _, _, _, _, h, _⟩ => by rw [h]; rfl) ?_
  rintro X A0 H0 ps R hx hf ⟨ls, h, h1, h2, h3, rfl, rfl⟩
  have hb := begs_ok h1 h2
  have he := ends_ok h1 h2
  have hfl := List.length_filter_le (fun l : Fr => decide (h.2 < l.2)) ls
  refine st_seq (ss_set hx hf 2 (R := pLs pFr (begs ls h)) ((ev_cat (small_size (by rw [List.length_map]; show 1 + _ ≤ _; omega)) (ev_lst (evs_cons (R := pFr (0, 1)) (ev_tup (evs_cons ev_int (evs_cons ev_int evs_nil))) evs_nil))
    (ev_lc (R := pFr) (S := fun l => pFr (cross h l)) (xs := ls) hx [("line", 5)] (fun l => decide (h.2 < l.2)) (small_size (by omega)) (ev_var hx 0)
      (fun l hl => ⟨_, fun X' hx' => tg_name hx' 5, fun X' hx' => .one (evt_gt (ev_ixT (ev_var hx' 5 (R := pFr l)) ev_int rfl) (ev_ixT (ev_var hx' 1 (R := pFr h)) ev_int rfl)), fun _ X' hx' => ev_call hx' (ok_cross E) (evs_cons (ev_var hx' 1) (evs_cons (ev_var hx' 5) evs_nil)) ⟨h, l, rfl, rfl⟩⟩))).eq ?_)) ?_
  · show pL _ = pL _
    unfold begs
    rw [List.map_cons, List.map_map]
    rfl
  refine st_seq ((ss_setLc (R := pFr) (S := fun l => pFr (cross l h)) (xs := ls) hx 3 [("line", 5)] (fun l => decide (l.2 < h.2)) (small_size (by omega)) (ev_var hx 0)
      (fun l hl => ⟨_, fun X' hx' => tg_name hx' 5, fun X' hx' => .one (evt_lt (ev_ixT (ev_var hx' 5 (R := pFr l)) ev_int rfl) (ev_ixT (ev_var hx' 1 (R := pFr h)) ev_int rfl)), fun _ X' hx' => ev_call hx' (ok_cross E) (evs_cons (ev_var hx' 5) (evs_cons (ev_var hx' 1) evs_nil)) ⟨l, h, rfl, rfl⟩⟩)).nx (Γ2 := [.im (pLs pFr ls), .im (pFr h), .im (pLs pFr (begs ls h)), .im (pLs pFr (ends ls h)), .un, .un]) ?_) ?_
  · rw [show pLs pFr (ends ls h) = pL ((ls.filter fun l => decide (l.2 < h.2)).map fun l => pFr (cross l h)) from congrArg pL (by unfold ends; rw [List.map_map]; rfl)]
    rfl
  refine st_seq (ss_set hx hf 4 (R := pIs (lowI (gtOf (begs ls h)))) (ev_call hx (ok_low E) (evs_cons (ev_call hx (ok_gt E) (evs_cons (ev_var hx 2) evs_nil) ⟨begs ls h, by unfold begs; simp, hb, rfl, rfl⟩) evs_nil) ⟨_, gt_keep (P := BF) (hb _ List.mem_cons_self) hb, rfl, rfl⟩)) ?_
  unfold marginI
  refine st_ifr (x := decide ((ends ls h).length = 0)) ((evt_eq ((ev_len hx E.b_len (ev_var hx 3 (R := pLs pFr (ends ls h)))).eq (by rw [List.length_map])) ev_int).eq (decide_eq_decide.mpr (by omega))) (fun hc => ?_) fun hc => ?_
  · rw [if_pos (of_decide_eq_true hc)]
    exact st_last (ss_ret (cat_I (ys := [-1, 0]) (show 2 + 2 ≤ 1000000 by decide) (ev_var hx 4) (ev_lst (evs_cons (ev_neg ev_int) (evs_cons ev_int evs_nil)))))
  · have hne := of_decide_eq_false hc
    rw [if_neg hne]
    obtain ⟨f0, e1, e2, e3⟩ := headD_mem (fs := ends ls h) (by omega)
    refine st_last (ss_ret (cat_I (ys := lowI (leOf (ends ls h))) (show 2 + 2 ≤ 1000000 by decide) (ev_var hx 4) (ev_call hx (ok_low E) (evs_cons (ev_call hx (ok_le E) (evs_cons (ev_var hx 3) evs_nil) ⟨ends ls h, by omega, he, rfl, rfl⟩) evs_nil) ⟨leOf (ends ls h), le_keep (P := BF) (by rw [e2]; exact he f0 e3) he, rfl, rfl⟩)))
end
end IX
end

section
set_option Elab.async false
set_option linter.all false
set_option maxRecDepth 100000
set_option maxHeartbeats 2000000
namespace IX
open PySem PySem.Spec PyProof.Rows L2
local macro_rules | `(tactic| walk_at "fg") => `(tactic| repeat (first | exact All2.nil | exact Fg.refl _ | refine All2.cons (by first | exact Or.inl rfl | exact Or.inr rfl) ?_))
/-! ### what is computed -/
def lineAt (ls : List Fr) (k : Nat) : Fr := (ls[k]?).getD (0, 0)
theorem lineAt_get {ls : List Fr} {k : Nat} (h : k < ls.length) : ls[k]? = some (lineAt ls k) := by
  unfold lineAt
  rw [List.getElem?_eq_getElem h]
  rfl
theorem lineAt_mem {ls : List Fr} {k : Nat} (h : k < ls.length) : lineAt ls k ∈ ls := List.mem_of_getElem? (lineAt_get h)
def lexF (l m : Fr) : Bool := HT.lexLt [l.1, l.2] [m.1, m.2]
def plStep (ls : List Fr) (b p : Nat) : Nat := if lexF (lineAt ls p) (lineAt ls b) then p else b
def firstPl (ls : List Fr) : Nat := (List.range ls.length).foldl (plStep ls) 0
def ahead (a b h : Fr) : Bool := fLess (cross a h) (cross b h) || (!fLess (cross b h) (cross a h) && decide (a.2 < b.2))
def xStep (ls : List Fr) (h : Nat) (b : Option Nat) (p : Nat) : Option Nat := if (lineAt ls p).2 < (lineAt ls h).2 then (match b with
  | none => some p
  | some x => if ahead (lineAt ls p) (lineAt ls x) (lineAt ls h) then some p else some x) else b
def nextPl (ls : List Fr) (h : Nat) : Option Nat := (List.range ls.length).foldl (xStep ls h) none
def oI : Option Nat → Int
  | none => -1
  | some n => (n : Int)
abbrev Pc := Fr × Nat
def pPc (p : Pc) : Pm := pT [pFr p.1, pZ p.2]
abbrev PcS := Nat × Option Nat × List Pc
def pcStep (ls : List Fr) (s : PcS) : PcS := match s.2.1 with
  | none => s
  | some f => (f, nextPl ls f, s.2.2 ++ [(cross (lineAt ls f) (lineAt ls s.1), f)])
def pc0 (ls : List Fr) : PcS := (firstPl ls, nextPl ls (firstPl ls), [((0, 1), firstPl ls)])
def piecesI (ls : List Fr) : List Pc := (Nat.repeat (pcStep ls) ls.length (pc0 ls)).2.2
/-! ### about these -/
theorem range_fold {S : Type} {I : S → Prop} {f : S → Nat → S} {n : Nat} (h : ∀ s p, p < n → I s → I (f s p)) : ∀ (l : List Nat) (s : S), (∀ p ∈ l, p < n) → I s → I (l.foldl f s)
  | [], s, _, hi => hi
  | p :: r, s, hl, hi => by
    rw [List.foldl_cons]
    exact range_fold h r _ (fun q hq => hl q (List.mem_cons_of_mem _ hq)) (h s p (hl p List.mem_cons_self) hi)
theorem firstPl_lt {ls : List Fr} (h : 0 < ls.length) : firstPl ls < ls.length := by
  unfold firstPl
  refine range_fold (I := fun b => b < ls.length) (n := ls.length) (fun s p hp hs => ?_) _ 0 (fun p hp => List.mem_range.mp hp) h
  unfold plStep
  split
  · exact hp
  · exact hs
def NextOk (ls : List Fr) (h : Nat) (b : Option Nat) : Prop := ∀ x, b = some x → x < ls.length ∧ (lineAt ls x).2 < (lineAt ls h).2
theorem xStep_ok {ls : List Fr} {h p : Nat} {b : Option Nat} (hp : p < ls.length) (hb : NextOk ls h b) : NextOk ls h (xStep ls h b p) := by
  intro x hx
  unfold xStep at hx
  split at hx
  · rename_i hlt
    cases b with
    | none =>
      cases hx
      exact ⟨hp, hlt⟩
    | some y =>
      dsimp only at hx
      split at hx
      · cases hx
        exact ⟨hp, hlt⟩
      · cases hx
        exact hb _ rfl
  · exact hb x hx
theorem nextPl_ok {ls : List Fr} {h : Nat} : NextOk ls h (nextPl ls h) := by
  unfold nextPl
  exact range_fold (I := NextOk ls h) (n := ls.length) (fun s p hp hs => xStep_ok hp hs) _ none (fun p hp => List.mem_range.mp hp) (fun x z => by cases z)
def below (ls : List Fr) (a : Int) : Nat := (ls.filter fun l => decide (l.2 < a)).length
theorem below_le (ls : List Fr) (a : Int) : below ls a ≤ ls.length := List.length_filter_le _ _
theorem below_mono : ∀ (ls : List Fr) {a b : Int}, a ≤ b → below ls a ≤ below ls b
  | [], _, _, _ => Nat.le_refl _
  | l :: r, a, b, h => by
    have ih := below_mono r h
    unfold below at ih ⊢
    by_cases h1 : l.2 < a
    · rw [List.filter_cons_of_pos (by simpa using h1), List.filter_cons_of_pos (by simp; omega)]
      simp only [List.length_cons]
      omega
    · rw [List.filter_cons_of_neg (by simpa using h1)]
      by_cases h2 : l.2 < b
      · rw [List.filter_cons_of_pos (by simpa using h2)]
        simp only [List.length_cons]
        omega
      · rw [List.filter_cons_of_neg (by simpa using h2)]
        exact ih
theorem below_lt : ∀ {ls : List Fr} {x : Fr} {b : Int}, x ∈ ls → x.2 < b → below ls x.2 < below ls b
  | [], _, _, h, _ => by cases h
  | l :: r, x, b, h, hb => by
    rcases List.mem_cons.mp h with rfl | z
    · have ih := below_mono r (Int.le_of_lt hb)
      unfold below at ih ⊢
      rw [List.filter_cons_of_neg (by simp), List.filter_cons_of_pos (by simpa using hb)]
      simp only [List.length_cons]
      omega
    · have ih := below_lt z hb
      unfold below at ih ⊢
      by_cases h1 : l.2 < x.2
      · rw [List.filter_cons_of_pos (by simpa using h1), List.filter_cons_of_pos (by simp; omega)]
        simp only [List.length_cons]
        omega
      · rw [List.filter_cons_of_neg (by simpa using h1)]
        by_cases h2 : l.2 < b
        · rw [List.filter_cons_of_pos (by simpa using h2)]
          simp only [List.length_cons]
          omega
        · rw [List.filter_cons_of_neg (by simpa using h2)]
          exact ih
def pcM (ls : List Fr) (s : PcS) : Nat := below ls (lineAt ls s.1).2
def pcT (s : PcS) : Bool := s.2.1.isSome
structure PcI (ls : List Fr) (s : PcS) : Prop where
  h : s.1 < ls.length
  nx : s.2.1 = nextPl ls s.1
  len : s.2.2.length + pcM ls s ≤ 1 + ls.length
theorem pc_fix (ls : List Fr) (s : PcS) (h : pcT s = false) : pcStep ls s = s := by
  unfold pcStep
  unfold pcT at h
  cases e : s.2.1 with
  | none => rfl
  | some f => rw [e] at h; cases h
theorem pc_turn {ls : List Fr} {s : PcS} (hi : PcI ls s) (ht : pcT s = true) : PcI ls (pcStep ls s) ∧ pcM ls (pcStep ls s) < pcM ls s := by
  unfold pcT at ht
  cases e : s.2.1 with
  | none => rw [e] at ht; cases ht
  | some f =>
    have hn : nextPl ls s.1 = some f := by rw [← hi.nx, e]
    obtain ⟨h1, h2⟩ := nextPl_ok f hn
    have es : pcStep ls s = (f, nextPl ls f, s.2.2 ++ [(cross (lineAt ls f) (lineAt ls s.1), f)]) := by
      unfold pcStep
      rw [e]
    rw [es]
    have hm : pcM ls (f, nextPl ls f, s.2.2 ++ [(cross (lineAt ls f) (lineAt ls s.1), f)]) < pcM ls s := below_lt (lineAt_mem h1) h2
    refine ⟨⟨h1, rfl, ?_⟩, hm⟩
    have := hi.len
    show (s.2.2 ++ [(cross (lineAt ls f) (lineAt ls s.1), f)]).length + _ ≤ _
    rw [List.length_append]
    simp only [List.length_cons, List.length_nil]
    omega
theorem pc0_ok {ls : List Fr} (h : 0 < ls.length) : PcI ls (pc0 ls) := ⟨firstPl_lt h, rfl, by
  have := below_le ls (lineAt ls (firstPl ls)).2
  show 1 + below ls (lineAt ls (firstPl ls)).2 ≤ _
  omega⟩
theorem pc_end {ls : List Fr} (h : 0 < ls.length) : pcT (Nat.repeat (pcStep ls) ls.length (pc0 ls)) = false :=
  rep_done (PcI ls) (pcM ls) pcT (pcStep ls) (fun s hi ht => pc_turn hi ht) (pc_fix ls) ls.length (pc0 ls) (pc0_ok h) (below_le _ _)
section
variable {P : Program} {w : World} {K : PySem.W.Frag} {mg : Str → Option Value} {base : Heap} {T : List (Addr × Str)}
/-! ### first_place -/
def sFirstPl (ps : List Pm) (R : Pm) : Prop := ∃ ls : List Fr, 0 < ls.length ∧ ls.length ≤ 1000 ∧ ps = [pLs pFr ls] ∧ R = pZ (firstPl ls)
theorem sc68 : FnScope ["lines", "best", "place"] ["lines"] (defScope (top 68)) := ⟨rfl, rfl, rfl, by decide +kernel, rfl, by decide +kernel, by decide +kernel⟩
theorem ok_firstPl (E : Tp T K mg base) : DefOk P w K mg base T 1 "first_place" ["lines"] sFirstPl := by
  refine def_ok E E.g_first_place E.d_first_place sc68 (fun _ _ _ _ _ _ us hl => match us, hl with | [_], _ => rfl) (fun ps R ⟨_, _, _, h, _⟩ => by rw [h]; rfl) ?_
  rintro X A0 H0 ps R hx hf ⟨ls, h0, hn, rfl, rfl⟩
  refine st_seq (ss_set hx hf 1 (R := pZ 0) ev_int) ?_
  refine st_fold_range1 (S := Nat) hx E.b_range (fun b => [.im (pLs pFr ls), .im (pZ b), .un]) (plStep ls) (fun _ b => b < ls.length) 0 ls.length (by omega) ((ev_len hx E.b_len (ev_var hx 0)).eq (by rw [List.length_map])) (Fg.refl _) h0 (fun i b hi hb => ⟨?_, _, _, tg_name hx 2, st_seq (Γ1 := [.im (pLs pFr ls), .im (pZ (plStep ls b i)), .un])
    (ss_if (x := lexF (lineAt ls i) (lineAt ls b)) (evt_ltT (x := [(lineAt ls i).1, (lineAt ls i).2]) (y := [(lineAt ls b).1, (lineAt ls b).2]) hx (ev_ixL (ev_var hx 0) (ev_var hx 2) (atI_map (R := pFr) (lineAt_get hi))) (ev_ixL (ev_var hx 0) (ev_var hx 1) (atI_map (R := pFr) (lineAt_get hb)))) (fun h => ?_) fun h => ?_) st_nil⟩) fun _ => st_last (ss_ret (ev_var hx 1))
  · unfold plStep
    split
    · exact hi
    · exact hb
  · unfold plStep
    rw [if_pos h]
    refine st_seq (ss_set hx hf 1 (R := pZ i) (ev_var hx 2)) (st_end ?_)
    walk_at "fg"
  · unfold plStep
    rw [if_neg (by rw [h]; decide)]
    refine st_end ?_
    walk_at "fg"
/-! ### comes_ahead, crossing_place -/
def sAhead (ps : List Pm) (R : Pm) : Prop := ∃ a b h : Fr, BL a ∧ BL b ∧ BL h ∧ a.2 < h.2 ∧ b.2 < h.2 ∧ ps = [pFr a, pFr b, pFr h] ∧ R = pB (ahead a b h)
theorem sc70 : FnScope ["one", "other", "home", "mine", "its"] ["one", "other", "home"] (defScope (top 70)) := ⟨rfl, rfl, rfl, by decide +kernel, rfl, by decide +kernel, by decide +kernel⟩
theorem ok_ahead (E : Tp T K mg base) : DefOk P w K mg base T 2 "comes_ahead" ["one", "other", "home"] sAhead := by
  refine def_ok E E.g_comes_ahead E.d_comes_ahead sc70 (fun _ _ _ _ _ _ us hl => match us, hl with | [_, _, _], _ => rfl) (fun ps R ⟨_, _, _, _, _, _, _, _, h, _⟩ => by rw [h]; rfl) ?_
  rintro X A0 H0 ps R hx hf ⟨a, b, h, ha, hb, hh, h1, h2, rfl, rfl⟩
  refine st_seq (ss_set hx hf 3 (R := pFr (cross a h)) (ev_call hx (ok_cross E) (evs_cons (ev_var hx 0) (evs_cons (ev_var hx 2) evs_nil)) ⟨a, h, rfl, rfl⟩)) ?_
  refine st_seq (ss_set hx hf 4 (R := pFr (cross b h)) (ev_call hx (ok_cross E) (evs_cons (ev_var hx 1) (evs_cons (ev_var hx 2) evs_nil)) ⟨b, h, rfl, rfl⟩)) ?_
  refine st_ifr (x := fLess (cross a h) (cross b h)) (evt_val (ev_call hx (ok_less E) (evs_cons (ev_var hx 3) (evs_cons (ev_var hx 4) evs_nil)) ⟨_, _, ha.cross hh h1, hb.cross hh h2, rfl, rfl⟩)) (fun hc => ?_) fun hc => ?_
  · refine st_last (ss_ret (ev_bl.eq ?_))
    unfold ahead
    rw [hc, Bool.true_or]
  · refine st_last (ss_ret ((ev_and (ev_not (ev_call hx (ok_less E) (evs_cons (ev_var hx 4) (evs_cons (ev_var hx 3) evs_nil)) ⟨_, _, hb.cross hh h2, ha.cross hh h1, rfl, rfl⟩)) fun _ => ev_lt (ev_ixT (ev_var hx 0 (R := pFr a)) ev_int rfl) (ev_ixT (ev_var hx 1 (R := pFr b)) ev_int rfl)).eq ?_))
    unfold ahead
    rw [hc, Bool.false_or]
def sNextPl (ps : List Pm) (R : Pm) : Prop := ∃ (ls : List Fr) (h : Nat), (∀ l ∈ ls, BL l) ∧ h < ls.length ∧ ls.length ≤ 1000 ∧ ps = [pLs pFr ls, pZ h] ∧ R = pI (oI (nextPl ls h))
theorem sc69 : FnScope ["lines", "here", "best", "place"] ["lines", "here"] (defScope (top 69)) := ⟨rfl, rfl, rfl, by decide +kernel, rfl, by decide +kernel, by decide +kernel⟩
theorem ok_nextPl (E : Tp T K mg base) : DefOk P w K mg base T 3 "crossing_place" ["lines", "here"] sNextPl := by
  refine def_ok E E.g_crossing_place E.d_crossing_place sc69 (fun _ _ _ _ _ _ us hl => match us, hl with | [_, _], _ => rfl) (fun ps R ⟨_, _, _, _, _, h, _⟩ => by rw [h]; rfl) ?_
  rintro X A0 H0 ps R hx hf ⟨ls, h, hl, hh, hn, rfl, rfl⟩
  refine st_seq (ss_set hx hf 2 (R := pI (oI none)) (ev_neg ev_int)) ?_
  refine st_fold_range1 (S := Option Nat) hx E.b_range (fun b => [.im (pLs pFr ls), .im (pZ h), .im (pI (oI b)), .un]) (xStep ls h) (fun _ b => NextOk ls h b) none ls.length (by omega) ((ev_len hx E.b_len (ev_var hx 0)).eq (by rw [List.length_map])) (Fg.refl _) (fun x z => by cases z) (fun i b hi hb => ⟨xStep_ok hi hb, _, _, tg_name hx 3, st_seq (Γ1 := [.im (pLs pFr ls), .im (pZ h), .im (pI (oI (xStep ls h b i))), .un])
    (ss_if (x := decide ((lineAt ls i).2 < (lineAt ls h).2)) (evt_lt (ev_ixT (ev_ixL (ev_var hx 0) (ev_var hx 3) (atI_map (R := pFr) (lineAt_get hi))) ev_int rfl) (ev_ixT (ev_ixL (ev_var hx 0) (ev_var hx 1) (atI_map (R := pFr) (lineAt_get hh))) ev_int rfl)) (fun hc => ?_) fun hc => ?_) st_nil⟩) fun _ => st_last (ss_ret (ev_var hx 2))
  · have hlt := of_decide_eq_true hc
    refine st_seq (Γ1 := [.im (pLs pFr ls), .im (pZ h), .im (pI (oI (xStep ls h b i))), .un]) (ss_if (x := b.isNone || (match b with | none => true | some x => ahead (lineAt ls i) (lineAt ls x) (lineAt ls h))) (evt_or ((evt_eq (ev_var hx 2) (ev_neg ev_int)).eq ?_) fun h1 => ?_) (fun h1 => ?_) fun h1 => ?_) st_nil
    · cases b with
      | none => rfl
      | some x => exact decide_eq_false (by show ¬ (x : Int) = -1; omega)
    · cases b with
      | none => cases h1
      | some x =>
        obtain ⟨g1, g2⟩ := hb x rfl
        exact evt_val (ev_call hx (ok_ahead E) (evs_cons (ev_ixL (ev_var hx 0) (ev_var hx 3) (atI_map (R := pFr) (lineAt_get hi))) (evs_cons (ev_ixL (ev_var hx 0) (ev_var hx 2 (R := pZ x)) (atI_map (R := pFr) (lineAt_get g1))) (evs_cons (ev_ixL (ev_var hx 0) (ev_var hx 1) (atI_map (R := pFr) (lineAt_get hh))) evs_nil))) ⟨_, _, _, hl _ (lineAt_mem hi), hl _ (lineAt_mem g1), hl _ (lineAt_mem hh), hlt, g2, rfl, rfl⟩)
    · have e : xStep ls h b i = some i := by
        unfold xStep
        rw [if_pos hlt]
        cases b with
        | none => rfl
        | some x => exact if_pos (by simpa using h1)
      rw [e]
      refine st_seq (ss_set hx hf 2 (R := pI (oI (some i))) (ev_var hx 3 (R := pZ i))) (st_end ?_)
      walk_at "fg"
    · have e : xStep ls h b i = b := by
        unfold xStep
        rw [if_pos hlt]
        cases b with
        | none => cases h1
        | some x => exact if_neg (by simpa using h1)
      rw [e]
      refine st_end ?_
      walk_at "fg"
  · have hlt := of_decide_eq_false hc
    have e : xStep ls h b i = b := if_neg hlt
    rw [e]
    refine st_end ?_
    walk_at "fg"
/-! ### pieces_of -/
def sPieces (ps : List Pm) (R : Pm) : Prop := ∃ ls : List Fr, (∀ l ∈ ls, BL l) ∧ 0 < ls.length ∧ ls.length ≤ 1000 ∧ ps = [pLs pFr ls] ∧ R = pLs pPc (piecesI ls)
theorem sc71 : FnScope ["lines", "here", "out", "follower"] ["lines"] (defScope (top 71)) := ⟨rfl, rfl, rfl, by decide +kernel, rfl, by decide +kernel, by decide +kernel⟩
theorem ok_pieces (E : Tp T K mg base) : DefOk P w K mg base T 4 "pieces_of" ["lines"] sPieces := by
  refine def_ok E E.g_pieces_of E.d_pieces_of sc71 (fun _ _ _ _ _ _ us hl => match us, hl with | [_], _ => rfl) (fun ps R ⟨_, _, _, _, h, _⟩ => by rw [h]; rfl) ?_
  rintro X A0 H0 ps R hx hf ⟨ls, hl, h0, hn, rfl, rfl⟩
  refine st_seq (ss_set hx hf 1 (R := pZ (firstPl ls)) (ev_call hx (ok_firstPl E) (evs_cons (ev_var hx 0) evs_nil) ⟨ls, h0, hn, rfl, rfl⟩)) ?_
  refine st_seq (ss_setM hx hf 2 (ps := [pPc ((0, 1), firstPl ls)]) (evs_cons (ev_tup (evs_cons (R := pFr (0, 1)) (ev_tup (evs_cons ev_int (evs_cons ev_int evs_nil))) (evs_cons (ev_var hx 1) evs_nil))) evs_nil)) ?_
  refine st_seq (ss_set hx hf 3 (R := pI (oI (nextPl ls (firstPl ls)))) (ev_call hx (ok_nextPl E) (evs_cons (ev_var hx 0) (evs_cons (ev_var hx 1) evs_nil)) ⟨ls, _, hl, firstPl_lt h0, hn, rfl, rfl⟩)) ?_
  refine st_seq (ss_while (S := PcS) hx (fun s => [.im (pLs pFr ls), .im (pZ s.1), .mu (s.2.2.map pPc), .im (pI (oI s.2.1))]) (PcI ls) (pcM ls) pcT (pcStep ls) (pc0 ls) (Nat.repeat (pcStep ls) ls.length (pc0 ls)) (pc0_ok h0) (Fg.refl _)
    (fun s hs => (evt_ge (ev_var hx 3) ev_int).eq ?_) (fun s hs ht => ⟨?_, pc_turn hs ht⟩) (fun s hs ht ⟨n, e⟩ => ?_)) (st_last (ss_retM hx 2))
  · unfold pcT
    cases s.2.1 with
    | none => rfl
    | some f => exact decide_eq_true (by show (0 : Int) ≤ (f : Int); omega)
  · have hlen := hs.len
    have hh := hs.h
    have hnx := hs.nx
    obtain ⟨h, fo, out⟩ := s
    have ht' : fo.isSome = true := ht
    cases fo with
    | none => cases ht'
    | some f =>
      obtain ⟨g1, g2⟩ := nextPl_ok f hnx.symm
      refine st_seq (ss_app (ps := out.map pPc) (R := pPc (cross (lineAt ls f) (lineAt ls h), f)) hx 2 (ev_tup (evs_cons (ev_call hx (ok_cross E) (evs_cons (ev_ixL (ev_var hx 0) (ev_var hx 3 (R := pZ f)) (atI_map (R := pFr) (lineAt_get g1))) (evs_cons (ev_ixL (ev_var hx 0) (ev_var hx 1) (atI_map (R := pFr) (lineAt_get hh))) evs_nil)) ⟨_, _, rfl, rfl⟩) (evs_cons (ev_var hx 3 (R := pZ f)) evs_nil))) (oneMu_of rfl) (small_lt (by rw [List.length_map]; have : out.length + pcM ls (h, some f, out) ≤ 1 + ls.length := hlen; omega))) ?_
      refine st_seq (ss_set hx hf 1 (R := pZ f) (ev_var hx 3 (R := pZ f))) ?_
      refine st_seq (ss_set hx hf 3 (R := pI (oI (nextPl ls f))) (ev_call hx (ok_nextPl E) (evs_cons (ev_var hx 0) (evs_cons (ev_var hx 1 (R := pZ f)) evs_nil)) ⟨ls, f, hl, g1, hn, rfl, rfl⟩)) (st_end ?_)
      show Fg _ [.im (pLs pFr ls), .im (pZ f), .mu ((out ++ [(cross (lineAt ls f) (lineAt ls h), f)]).map pPc), .im (pI (oI (nextPl ls f)))]
      rw [List.map_append]
      walk_at "fg"
  · rw [e]
    rw [e] at ht
    exact rep_same (pc_fix ls) ht (pc_end h0)
end
end IX
end

section
set_option Elab.async false
set_option linter.all false
set_option maxRecDepth 100000
set_option maxHeartbeats 2000000
namespace IX
open PySem PySem.Spec PyProof.Rows L2
section
variable {P : Program} {w : World} {K : PySem.W.Frag} {mg : Str → Option Value} {base : Heap} {k : Nat} {N : List Str} {sc : Scope} {X : Cx} {T : List (Addr × Str)} {A0 H0 A H : Hp} {Γ Γ1 Γ2 : List Slot}
variable {a b c e o idx : Expr} {es : List Expr} {rest body orelse : List Stmt} {pos p : Pos} {R R1 R2 R3 : Pm} {ps qs : List Pm} {out : Out}
theorem ixN_nat {n j : Nat} (h : j < n) : ixN n (j : Int) = some j := by
  unfold ixN
  rw [if_pos (by omega), if_pos (by omega), Int.toNat_natCast]
/-- x = list(e), a list that is still to change -/
theorem ss_setListM (hx : XF P w K mg base k N sc X) (hf : ∀ x, X.fn x = true) (hm : mg "list" = none) (i : Nat) {x : Str} {p' p2 : Pos} (h : EV X T H0 a Γ (pL ps)) (h1 : N[i]? = some x := by rfl) (h2 : Loc sc x := by first | exact .inl rfl | exact .inr rfl)
    (hg : sc.names.lookup ("list" : Str) = some .globalImplicit := by rfl) (he : starEach [a] X.env = (false, eval a X.env) :: starEach [] X.env := by rfl)
    (hs : swapsWith (.Call (.Name "list" p) [a] [] p2) (some (.Name x p')) pos.line X.env = pure false := by rfl) : SS X T A0 H0 (.Assign [.Name x p'] (.Call (.Name "list" p) [a] [] p2) pos) Γ (.nx (Γ.set i (.mu ps))) := by
  intro σ A H s sl D q
  refine ofS (ps_set (i := i) (by rw [hx.eN]; exact hx.nd) (by rw [hx.eN]; exact h1) (loc_of hx h2) (pe_callTy call_list_of (gl_of hx hg) (by rw [hx.em]; exact hm) (by decide +kernel) canA (by decide) (by decide) he rfl) hs (.inl (hf x))) (evs_cons h evs_nil he σ A H sl s.wf _ fun vs A1 H1 s1 p1 => ?_)
  cases p1 with
  | cons p1 t =>
    cases t
    obtain ⟨l, us, rfl, g1, g2⟩ := p1
    refine ⟨l, us, rfl, .inl (SqL.of (s1.wf.ah _ _ g1)), fun l' nl => ?_⟩
    have s2 := Stp.newM (.lst us) s1.wf nl
    have s3 := (s.trans s1).trans s2
    refine q _ A1 _ s3 s1.aa (All2.set (show SlOk H0 A1 (upd H1 l' (.lst us)) (some (.ref l')) (.mu ps) from ⟨l', us, rfl, ?_, sub_none s1.wf.ah nl, upd_same, g2⟩) i ((sl.up s1).up s2))
    cases z : H0 l' with
    | none => rfl
    | some u => exact absurd nl ((s.trans s1).nn l' (by rw [z]; exact fun y => by cases y))
/-- x[idx] = e -/
theorem ss_item (hx : XF P w K mg base k N sc X) (i n : Nat) {x : Str} {p1 p2 : Pos} (h : EV X T H0 e Γ R) (hi : EV X T H0 idx Γ (pZ n)) (hn : n < ps.length) (h0 : oneMu i Γ) (hg : Γ[i]? = some (.mu ps) := by rfl) (h1 : N[i]? = some x := by rfl) (h2 : Vis sc x := by first | exact Or.inl rfl | exact Or.inr (Or.inl rfl) | exact Or.inr (Or.inr rfl))
    (hd : (x == ("__debug__" : Str)) = false := by decide) (hcd : (x == ("__classdict__" : Str)) = false := by decide) (hs : swapsWithSole [.Subscript (.Name x p1) idx p2] e pos.line X.env = pure false := by rfl) (hw : swappedStores [.Subscript (.Name x p1) idx p2] e X.env = pure none := by rfl)
    (ha1 : (assignEach [.Subscript (.Name x p1) idx p2] X.env).map (·.2) = [assign (.Subscript (.Name x p1) idx p2) X.env] := by rfl)
    (ha : ∀ v, assign (.Subscript (.Name x p1) idx p2) X.env v = (do
      let ov ← holding [v] (eval (.Name x p1) X.env)
      let iv ← holding [v, ov] (eval idx X.env)
      standAt p2
      holding [v, ov, iv] (setItem ov iv v)
      release [v, ov, iv] []) := by intro _; rfl) : SS X T A0 H0 (.Assign [.Subscript (.Name x p1) idx p2] e pos) Γ (.nx (Γ.set i (.mu (ps.set n R)))) := by
  intro σ A H s sl D q
  have hv : PE X (.Name x p1) (tVar i) := pe_var (i := i) (by rw [hx.eN]; exact h1) (by rw [hx.es]; exact h2) hd hcd
  refine ofS (ps_asg canE (pg_sub hv canE set_list ha) hs hw ha1) (h σ A H sl s.wf _ fun v A1 H1 s1 pv => ?_)
  obtain ⟨l, vs, e1, n0, nA, e2, e3⟩ := (sl.up s1).mu hg
  refine ⟨_, e1, hi σ A1 H1 (sl.up s1) s1.wf _ fun j A2 H2 s2 pj => ?_⟩
  cases pj
  obtain ⟨l', vs', e1', n0', nA', e2', e3'⟩ := ((sl.up s1).up s2).mu hg
  rw [e1] at e1'
  cases e1'
  refine ⟨l, vs', (n : Int), n, rfl, rfl, e2', ixN_nat (by rw [e3'.len]; exact hn), ?_⟩
  exact q σ A2 _ (stp_upd ((s.trans s1).trans s2) n0' nA' e2') (s1.aa.trans s2.aa) (sls_upd ((sl.up s1).up s2) e1 n0' nA' e2' (show Vs A2 (vs'.set n v) (ps.set n R) from All2.set (R := fun (v : V) (P : Pm) => P.p A2 v) (R.up s2.aa pv) n e3') h0)
end
end IX
end

section
set_option Elab.async false
set_option linter.all false
set_option maxRecDepth 100000
set_option maxHeartbeats 2000000
namespace IX
open PySem PySem.Spec PyProof.Rows L2
local macro_rules | `(tactic| walk_at "fg") => `(tactic| repeat (first | exact All2.nil | exact Fg.refl _ | refine All2.cons (by first | exact Or.inl rfl | exact Or.inr rfl) ?_))
/-! ### what is computed -/
def badW (x : Nat × Int) : Bool := decide (0 ≤ x.2) && decide (x.2 < (x.1 : Int))
def keepB (ws : List Int) (p : Pl) : Bool := !(p.rises.zip ws).any badW
def firstK (l : List Pl) (ts : List Nat) (ws : List Int) : Option Pl := firstP (l.filter (keepB ws)) ts
def priceI (l : List Pl) (ts : List Nat) (ws : List Int) (n : Nat) : Int := match firstK l ts ws with
  | none => -1
  | some x => if wayAt ws n < 0 then -1 else match firstK l ts (ws.set n (-1)) with
    | none => -1
    | some y => (costOf x ts : Int) - (costOf y ts : Int)
def posC (l : List Pl) (n : Nat) : Nat := Vaidxd.leastOf (l.map fun p => natAt p.rises n)
def firstPos (l : List Pl) (ts : List Nat) (n : Nat) : Option Pl := firstP (l.filter fun p => decide (natAt p.rises n = posC l n)) ts
theorem leastStep_some (ts : List Nat) (b : Option Pl) (p : Pl) : (leastStep ts b p).isSome = true := by
  unfold leastStep
  cases b with
  | none => rfl
  | some x => dsimp only; split <;> rfl
theorem firstP_fold_some (ts : List Nat) : ∀ (l : List Pl) (b : Option Pl), b.isSome = true → (l.foldl (leastStep ts) b).isSome = true
  | [], b, h => h
  | p :: r, b, h => firstP_fold_some ts r _ (leastStep_some ts b p)
theorem firstP_some {l : List Pl} {ts : List Nat} {p : Pl} (h : p ∈ l) : (firstP l ts).isSome = true := by
  cases l with
  | nil => cases h
  | cons a r => exact firstP_fold_some ts r _ (leastStep_some ts none a)
theorem leastStep_mem (ts : List Nat) (b : Option Pl) (p x : Pl) (h : leastStep ts b p = some x) : x = p ∨ b = some x := by
  unfold leastStep at h
  cases b with
  | none => cases h; exact .inl rfl
  | some y =>
    dsimp only at h
    split at h
    · cases h; exact .inl rfl
    · exact .inr h
theorem firstP_fold_mem (ts : List Nat) : ∀ (l : List Pl) (b : Option Pl) (x : Pl), l.foldl (leastStep ts) b = some x → x ∈ l ∨ b = some x
  | [], b, x, h => .inr h
  | p :: r, b, x, h => by
    rcases firstP_fold_mem ts r _ x h with z | z
    · exact .inl (List.mem_cons_of_mem _ z)
    · rcases leastStep_mem ts b p x z with y | y
      · rw [y]; exact .inl List.mem_cons_self
      · exact .inr y
theorem firstP_mem {l : List Pl} {ts : List Nat} {x : Pl} (h : firstP l ts = some x) : x ∈ l := by
  rcases firstP_fold_mem ts l none x h with z | z
  · exact z
  · cases z
theorem zip_set_bad : ∀ (rs : List Nat) (ws : List Int) (n : Nat), (rs.zip ws).any badW = false → (rs.zip (ws.set n (-1))).any badW = false
  | [], ws, n, _ => by simp
  | r :: rs, [], n, h => by simpa using h
  | r :: rs, w :: ws, 0, h => by
    rw [List.zip_cons_cons, List.any_cons, Bool.or_eq_false_iff] at h
    rw [List.set_cons_zero, List.zip_cons_cons, List.any_cons, h.2]
    rfl
  | r :: rs, w :: ws, n + 1, h => by
    rw [List.zip_cons_cons, List.any_cons, Bool.or_eq_false_iff] at h
    rw [List.set_cons_succ, List.zip_cons_cons, List.any_cons, h.1, zip_set_bad rs ws n h.2]
    rfl
theorem keep_less {ws : List Int} {p : Pl} (n : Nat) (h : keepB ws p = true) : keepB (ws.set n (-1)) p = true := by
  unfold keepB at h ⊢
  rw [Bool.not_eq_true'] at h ⊢
  exact zip_set_bad _ _ _ h
theorem firstK_less {l : List Pl} {ts : List Nat} {ws : List Int} {x : Pl} (n : Nat) (h : firstK l ts ws = some x) : ∃ y, firstK l ts (ws.set n (-1)) = some y := by
  have hm := firstP_mem h
  obtain ⟨h1, h2⟩ := List.mem_filter.mp hm
  exact Option.isSome_iff_exists.mp (firstP_some (List.mem_filter.mpr ⟨h1, keep_less n h2⟩))
theorem foldmin_mem : ∀ (l : List Nat) (a : Nat), l.foldl Nat.min a ∈ a :: l
  | [], a => by simp
  | b :: r, a => by
    rw [List.foldl_cons]
    rcases List.mem_cons.mp (foldmin_mem r (Nat.min a b)) with z | z
    · rcases Nat.le_total a b with q | q
      · exact List.mem_cons.mpr (.inl (z.trans (Nat.min_eq_left q)))
      · exact List.mem_cons.mpr (.inr (List.mem_cons.mpr (.inl (z.trans (Nat.min_eq_right q)))))
    · exact List.mem_cons.mpr (.inr (List.mem_cons.mpr (.inr z)))
theorem foldmin_le : ∀ (l : List Nat) (a : Nat), l.foldl Nat.min a ≤ a ∧ ∀ b ∈ l, l.foldl Nat.min a ≤ b
  | [], a => ⟨Nat.le_refl _, fun b h => by cases h⟩
  | b :: r, a => by
    obtain ⟨h1, h2⟩ := foldmin_le r (Nat.min a b)
    rw [List.foldl_cons]
    refine ⟨Nat.le_trans h1 (Nat.min_le_left _ _), fun c hc => ?_⟩
    rcases List.mem_cons.mp hc with rfl | z
    · exact Nat.le_trans h1 (Nat.min_le_right _ _)
    · exact h2 c z
theorem leastOf_mem {l : List Nat} (h : l ≠ []) : Vaidxd.leastOf l ∈ l := by
  cases l with
  | nil => exact absurd rfl h
  | cons a r => exact foldmin_mem r a
theorem leastOf_le {l : List Nat} {b : Nat} (h : b ∈ l) : Vaidxd.leastOf l ≤ b := by
  cases l with
  | nil => cases h
  | cons a r =>
    obtain ⟨h1, h2⟩ := foldmin_le r a
    rcases List.mem_cons.mp h with rfl | z
    · exact h1
    · exact h2 b z
structure OkLs (n : Nat) (l : List Pl) (ts : List Nat) : Prop where
  hp : ∀ p ∈ l, OkPl n p
  ht : OkTm n ts
  hl : l.length ≤ 1000
section
variable {P : Program} {w : World} {K : PySem.W.Frag} {mg : Str → Option Value} {base : Heap} {T : List (Addr × Str)}
/-! ### keeps, first_keeper -/
def sKeeps (K : PySem.W.Frag) (ps : List Pm) (R : Pm) : Prop := ∃ (p : Pl) (ws : List Int), p.rises.length = ws.length ∧ ps = [pPl K p, pIs ws] ∧ R = pB (keepB ws p)
theorem sc73 : FnScope ["plan", "wishes", "rise", "wish"] ["plan", "wishes"] (defScope (top 73)) := ⟨rfl, rfl, rfl, by decide +kernel, rfl, by decide +kernel, by decide +kernel⟩
theorem ok_keeps (E : Tp T K mg base) : DefOk P w K mg base T 1 "keeps" ["plan", "wishes"] (sKeeps K) := by
  refine def_ok E E.g_keeps E.d_keeps sc73 (fun _ _ _ _ _ _ us hl => match us, hl with | [_, _], _ => rfl) (fun ps R ⟨_, _, _, h, _⟩ => by rw [h]; rfl) ?_
  rintro X A0 H0 ps R hx hf ⟨p, ws, hl, rfl, rfl⟩
  refine st_search_zip (R := pZ) (R' := pI) (R2 := pB false) hx E.b_zip badW [.im (pPl K p), .im (pIs ws), .un, .un] hl (f_rises E hx (ev_var hx 0)) (ev_var hx 1) (Fg.refl _) (fun r x _ => ⟨_, _, tg_tup2 hx 2 3, ?_⟩) (fun h => ?_) fun h => ?_
  · exact st_ifx (evt_and (evt_ge (ev_var hx 3) ev_int) fun _ => evt_gt (ev_var hx 2) (ev_var hx 3)) (fun _ => st_last (ss_ret ev_bl)) (by walk_at "fg")
  · unfold keepB
    rw [h]
    rfl
  · unfold keepB
    rw [h]
    exact st_last (ss_ret ev_bl)
def sFirstK (K : PySem.W.Frag) (ps : List Pm) (R : Pm) : Prop := ∃ (n : Nat) (l : List Pl) (ts : List Nat) (ws : List Int), OkLs n l ts ∧ ws.length = n ∧ ps = [pLs (pPl K) l, pZs ts, pIs ws] ∧ R = pOpt (pPl K) (firstK l ts ws)
theorem sc74 : FnScope ["plans", "times", "wishes", "plan"] ["plans", "times", "wishes"] (defScope (top 74)) := ⟨rfl, rfl, rfl, by decide +kernel, rfl, by decide +kernel, by decide +kernel⟩
theorem ok_firstK (E : Tp T K mg base) : DefOk P w K mg base T 3 "first_keeper" ["plans", "times", "wishes"] (sFirstK K) := by
  refine def_ok E E.g_first_keeper E.d_first_keeper sc74 (fun _ _ _ _ _ _ us hl => match us, hl with | [_, _, _], _ => rfl) (fun ps R ⟨_, _, _, _, _, _, h, _⟩ => by rw [h]; rfl) ?_
  rintro X A0 H0 ps R hx hf ⟨n, l, ts, ws, ⟨hp, ht, hl⟩, hw, rfl, rfl⟩
  exact st_last (ss_ret (ev_call hx (ok_first E) (evs_cons (ev_lc (R := pPl K) (S := pPl K) (xs := l) hx [("plan", 3)] (keepB ws) (small_size (by omega)) (ev_var hx 0)
    (fun p hpm => ⟨_, fun X' hx' => tg_name hx' 3, fun X' hx' => .one (evt_val (ev_call hx' (ok_keeps E) (evs_cons (ev_var hx' 3) (evs_cons (ev_var hx' 2) evs_nil)) ⟨p, ws, by rw [(hp p hpm).rl, hw], rfl, rfl⟩)), fun _ X' hx' => ev_var hx' 3⟩)) (evs_cons (ev_var hx 1) evs_nil)) ⟨n, l.filter (keepB ws), ts, fun p hpm => hp p (List.mem_filter.mp hpm).1, ht, rfl, rfl⟩))
/-! ### without_wish, price_of -/
def sWithoutW (ps : List Pm) (R : Pm) : Prop := ∃ (ws : List Int) (n : Nat), n < ws.length ∧ ps = [pIs ws, pZ n] ∧ R = pIs (ws.set n (-1))
theorem sc75 : FnScope ["wishes", "number", "out"] ["wishes", "number"] (defScope (top 75)) := ⟨rfl, rfl, rfl, by decide +kernel, rfl, by decide +kernel, by decide +kernel⟩
theorem ok_withoutW (E : Tp T K mg base) : DefOk P w K mg base T 1 "without_wish" ["wishes", "number"] sWithoutW := by
  refine def_ok E E.g_without_wish E.d_without_wish sc75 (fun _ _ _ _ _ _ us hl => match us, hl with | [_, _], _ => rfl) (fun ps R ⟨_, _, _, h, _⟩ => by rw [h]; rfl) ?_
  rintro X A0 H0 ps R hx hf ⟨ws, n, hn, rfl, rfl⟩
  refine st_seq (ss_setListM (ps := ws.map pI) hx hf E.b_list 2 (ev_var hx 0)) ?_
  refine st_seq (ss_item (ps := ws.map pI) (R := pI (-1)) hx 2 n (ev_neg ev_int) (ev_var hx 1) (by rw [List.length_map]; exact hn) (oneMu_of rfl)) ?_
  refine (st_last (ss_retM hx 2)).rt ?_
  show pL _ = pL _
  rw [List.map_set]
def sPrice (K : PySem.W.Frag) (ps : List Pm) (R : Pm) : Prop := ∃ (n : Nat) (l : List Pl) (ts : List Nat) (ws : List Int) (i : Nat), OkLs n l ts ∧ ws.length = n ∧ i < n ∧ ps = [pLs (pPl K) l, pZs ts, pIs ws, pZ i] ∧ R = pI (priceI l ts ws i)
theorem sc76 : FnScope ["plans", "times", "wishes", "number", "keeper", "other"] ["plans", "times", "wishes", "number"] (defScope (top 76)) := ⟨rfl, rfl, rfl, by decide +kernel, rfl, by decide +kernel, by decide +kernel⟩
theorem ok_price (E : Tp T K mg base) : DefOk P w K mg base T 4 "price_of" ["plans", "times", "wishes", "number"] (sPrice K) := by
  refine def_ok E E.g_price_of E.d_price_of sc76 (fun _ _ _ _ _ _ us hl => match us, hl with | [_, _, _, _], _ => rfl) (fun ps R ⟨_, _, _, _, _, _, _, _, h, _⟩ => by rw [h]; rfl) ?_
  rintro X A0 H0 ps R hx hf ⟨n, l, ts, ws, i, hls, hw, hi, rfl, rfl⟩
  refine st_seq (ss_set hx hf 4 (R := pOpt (pPl K) (firstK l ts ws)) (ev_call hx (ok_firstK E) (evs_cons (ev_var hx 0) (evs_cons (ev_var hx 1) (evs_cons (ev_var hx 2) evs_nil))) ⟨n, l, ts, ws, hls, hw, rfl, rfl⟩)) ?_
  unfold priceI
  refine st_ifr (x := decide (wayAt ws i < 0) || (firstK l ts ws).isNone) (evt_or (evt_lt (ev_ixL (R := pI (wayAt ws i)) (ev_var hx 2) (ev_var hx 3) (wayAt_atI (by omega) rfl)) ev_int) fun _ => evt_isN (S := pPl K) (fun y A v h => pO_ne h) (ev_var hx 4)) (fun h => ?_) fun h => ?_
  · refine st_last (ss_ret ((ev_neg ev_int).eq ?_))
    cases hk : firstK l ts ws with
    | none => rfl
    | some x =>
      rw [hk] at h
      have h' : wayAt ws i < 0 := by simpa using h
      dsimp only
      rw [if_pos h']
  · cases hk : firstK l ts ws with
    | none => rw [hk] at h; simp at h
    | some x =>
      rw [hk] at h
      have h' : ¬ wayAt ws i < 0 := by simpa using h
      dsimp only
      rw [if_neg h']
      obtain ⟨y, hy⟩ := firstK_less i hk
      rw [hy]
      refine st_seq (ss_set hx hf 5 (R := pPl K y) ((ev_call hx (ok_firstK E) (evs_cons (ev_var hx 0) (evs_cons (ev_var hx 1) (evs_cons (ev_call hx (ok_withoutW E) (evs_cons (ev_var hx 2) (evs_cons (ev_var hx 3) evs_nil)) ⟨ws, i, by omega, rfl, rfl⟩) evs_nil))) ⟨n, l, ts, ws.set i (-1), hls, by rw [List.length_set]; exact hw, rfl, rfl⟩).eq (by rw [hy]; rfl))) ?_
      have m1 := hls.hp x (List.mem_filter.mp (firstP_mem hk)).1
      have m2 := hls.hp y (List.mem_filter.mp (firstP_mem hy)).1
      exact st_last (ss_ret (ev_sub (ev_call hx (ok_cost E) (evs_cons (ev_var hx 4 (R := pPl K x)) (evs_cons (ev_var hx 1) evs_nil)) ⟨n, x, ts, m1, hls.ht, rfl, rfl⟩) (ev_call hx (ok_cost E) (evs_cons (ev_var hx 5) (evs_cons (ev_var hx 1) evs_nil)) ⟨n, y, ts, m2, hls.ht, rfl, rfl⟩)))
/-! ### possible_cost, first_possible, counted -/
def sPosC (K : PySem.W.Frag) (ps : List Pm) (R : Pm) : Prop := ∃ (n : Nat) (l : List Pl) (i : Nat), (∀ p ∈ l, OkPl n p) ∧ l.length ≤ 1000 ∧ l ≠ [] ∧ i < n ∧ ps = [pLs (pPl K) l, pZ i] ∧ R = pZ (posC l i)
theorem sc77 : FnScope ["plans", "number", "plan"] ["plans", "number"] (defScope (top 77)) := ⟨rfl, rfl, rfl, by decide +kernel, rfl, by decide +kernel, by decide +kernel⟩
theorem ok_posC (E : Tp T K mg base) : DefOk P w K mg base T 1 "possible_cost" ["plans", "number"] (sPosC K) := by
  refine def_ok E E.g_possible_cost E.d_possible_cost sc77 (fun _ _ _ _ _ _ us hl => match us, hl with | [_, _], _ => rfl) (fun ps R ⟨_, _, _, _, _, _, _, h, _⟩ => by rw [h]; rfl) ?_
  rintro X A0 H0 ps R hx hf ⟨n, l, i, hp, hl, hne, hi, rfl, rfl⟩
  refine st_last (ss_ret (ev_minL (ns := zs (l.map fun p => natAt p.rises i)) (m := (posC l i : Int)) hx E.b_min ?_ ?_ ((ev_lc (R := pPl K) (S := fun p => pZ (natAt p.rises i)) (xs := l) hx [("plan", 2)] (fun _ => true) (small_size (by omega)) (ev_var hx 0)
    (fun p hpm => ⟨_, fun X' hx' => tg_name hx' 2, fun X' hx' => .nil, fun _ X' hx' => ev_ixL (f_rises E hx' (ev_var hx' 2)) (ev_var hx' 1) (atI_map (R := pZ) (natAt_get (by rw [(hp p hpm).rl]; exact hi)))⟩)).eq ?_)))
  · exact List.mem_map.mpr ⟨_, leastOf_mem (by simpa using hne), rfl⟩
  · intro y hy
    obtain ⟨z, hz, rfl⟩ := List.mem_map.mp hy
    have : posC l i ≤ z := leastOf_le hz
    omega
  · rw [lcmap pZ (fun p : Pl => natAt p.rises i) l]
    exact pZs_ints _
def sFirstPos (K : PySem.W.Frag) (ps : List Pm) (R : Pm) : Prop := ∃ (n : Nat) (l : List Pl) (ts : List Nat) (i : Nat), OkLs n l ts ∧ l ≠ [] ∧ i < n ∧ ps = [pLs (pPl K) l, pZs ts, pZ i] ∧ R = pOpt (pPl K) (firstPos l ts i)
theorem sc78 : FnScope ["plans", "times", "number", "cost", "plan"] ["plans", "times", "number"] (defScope (top 78)) := ⟨rfl, rfl, rfl, by decide +kernel, rfl, by decide +kernel, by decide +kernel⟩
theorem ok_firstPos (E : Tp T K mg base) : DefOk P w K mg base T 3 "first_possible" ["plans", "times", "number"] (sFirstPos K) := by
  refine def_ok E E.g_first_possible E.d_first_possible sc78 (fun _ _ _ _ _ _ us hl => match us, hl with | [_, _, _], _ => rfl) (fun ps R ⟨_, _, _, _, _, _, _, h, _⟩ => by rw [h]; rfl) ?_
  rintro X A0 H0 ps R hx hf ⟨n, l, ts, i, ⟨hp, ht, hl⟩, hne, hi, rfl, rfl⟩
  refine st_seq (ss_set hx hf 3 (R := pZ (posC l i)) (ev_call hx (ok_posC E) (evs_cons (ev_var hx 0) (evs_cons (ev_var hx 2) evs_nil)) ⟨n, l, i, hp, hl, hne, hi, rfl, rfl⟩)) ?_
  exact st_last (ss_ret (ev_call hx (ok_first E) (evs_cons (ev_lc (R := pPl K) (S := pPl K) (xs := l) hx [("plan", 4)] (fun p => decide (natAt p.rises i = posC l i)) (small_size (by omega)) (ev_var hx 0)
    (fun p hpm => ⟨_, fun X' hx' => tg_name hx' 4, fun X' hx' => .one ((evt_eq (ev_ixL (f_rises E hx' (ev_var hx' 4)) (ev_var hx' 2) (atI_map (R := pZ) (natAt_get (by rw [(hp p hpm).rl]; exact hi)))) (ev_var hx' 3)).eq (dec_nat_eq _ _)), fun _ X' hx' => ev_var hx' 4⟩)) (evs_cons (ev_var hx 1) evs_nil)) ⟨n, _, ts, fun p hpm => hp p (List.mem_filter.mp hpm).1, ht, rfl, rfl⟩))
def sCounted (ps : List Pm) (R : Pm) : Prop := ∃ s : List Nat, s.length ≤ 1000 ∧ ps = [pZs s] ∧ R = pZs (s.length :: s)
theorem sc80 : FnScope ["chosen"] ["chosen"] (defScope (top 80)) := ⟨rfl, rfl, rfl, by decide +kernel, rfl, by decide +kernel, by decide +kernel⟩
theorem ok_counted (E : Tp T K mg base) : DefOk P w K mg base T 1 "counted" ["chosen"] sCounted := by
  refine def_ok E E.g_counted E.d_counted sc80 (fun _ _ _ _ _ _ us hl => match us, hl with | [_], _ => rfl) (fun ps R ⟨_, _, h, _⟩ => by rw [h]; rfl) ?_
  rintro X A0 H0 ps R hx hf ⟨s, hs, rfl, rfl⟩
  exact st_last (ss_ret (cat_Z (xs := [s.length]) (ys := s) (by show 1 + s.length ≤ _; omega) (ev_lst (evs_cons ((ev_len hx E.b_len (ev_var hx 0 (R := pZs s))).eq (by rw [List.length_map])) evs_nil)) (ev_var hx 0)))
end
end IX
end

section
set_option Elab.async false
set_option linter.all false
set_option maxRecDepth 100000
set_option maxHeartbeats 2000000
namespace IX
open PySem PySem.Spec PyProof.Rows L2
local macro_rules | `(tactic| walk_at "fg") => `(tactic| repeat (first | exact All2.nil | exact Fg.refl _ | refine All2.cons (by first | exact Or.inl rfl | exact Or.inr rfl) ?_))
/-! ### the object's data -/
structure MS where
  table : Option VaidxBase.Table
  qs : List VaidxBase.Question
  ws : List Int
  os : List Vaidxd.Offer
  room : Nat
structure OkM (t : VaidxBase.Table) (s : MS) : Prop where
  ht : s.table = some t
  inn : OkIn t s.qs s.os
  wl : s.ws.length = s.qs.length
def pSt (K : PySem.W.Frag) (s : MS) : Pm := pO (He.ga K "State") [("table", pOpt (pTab K) s.table), ("questions", pLs (pQ K) s.qs), ("wishes", pIs s.ws), ("indexes", pLs (pX K) s.os), ("room", pZ s.room)]
def askedS (s : MS) : List Nat := s.qs.map fun q => q.times
def plansS (t : VaidxBase.Table) (s : MS) : List Pl := plansIn t s.qs s.os s.room
/-! ### the plans stand within bounds -/
theorem plansIn_len {t : VaidxBase.Table} {qs : List VaidxBase.Question} {os : List Vaidxd.Offer} {room : Nat} (h : OkIn t qs os) : (plansIn t qs os room).length ≤ 300 := by
  unfold plansIn
  rw [List.length_map]
  exact Nat.le_trans (List.length_filter_le _ _) (setsN_len os.length (by have := h.ol; omega))
theorem nil_sets : ∀ n, n < 9 → (setsN n).contains [] = true := by decide +kernel
theorem plansIn_ne {t : VaidxBase.Table} {qs : List VaidxBase.Question} {os : List Vaidxd.Offer} {room : Nat} (h : OkIn t qs os) : plansIn t qs os room ≠ [] := by
  have h1 := nil_sets os.length (by have := h.ol; omega)
  have h2 : planOf os (qs.map fun q => waysL t q os) [] ∈ plansIn t qs os room := by
    unfold plansIn
    refine List.mem_map.mpr ⟨[], List.mem_filter.mpr ⟨?_, ?_⟩, rfl⟩
    · simpa using h1
    · exact decide_eq_true (Nat.zero_le _)
  intro z
  rw [z] at h2
  cases h2
theorem upk_sum {t : VaidxBase.Table} {os : List Vaidxd.Offer} (ho : ∀ o ∈ os, OkO t.cols o) : ∀ s : List Nat, (s.map (upkAt os)).sum ≤ s.length * 1000000000
  | [] => by simp
  | k :: r => by
    have ih := upk_sum ho r
    have h : upkAt os k ≤ 1000000000 := by
      unfold upkAt
      cases e : os[k]? with
      | none => show 0 ≤ _; omega
      | some o => exact (ho o (List.mem_of_getElem? e)).up
    rw [List.map_cons, List.sum_cons, List.length_cons, Nat.add_mul]
    omega
theorem plansIn_ok {t : VaidxBase.Table} {qs : List VaidxBase.Question} {os : List Vaidxd.Offer} {room : Nat} (h : OkIn t qs os) : ∀ p ∈ plansIn t qs os room, OkPl qs.length p ∧ p.chosen.length ≤ 8 := by
  intro p hp
  unfold plansIn at hp
  obtain ⟨s, hs, rfl⟩ := List.mem_map.mp hp
  have hfine := setsN_fine os.length (by have := h.ol; omega)
  simp only [List.all_eq_true, Bool.and_eq_true, decide_eq_true_eq] at hfine
  obtain ⟨h1, h2⟩ := hfine s (List.mem_filter.mp hs).1
  refine ⟨⟨?_, fun r hr => ?_, ?_⟩, h1⟩
  · show ((qs.map fun q => waysL t q os).map fun ws => askC ws s).length = _
    rw [List.length_map, List.length_map]
  · have hr' : r ∈ (qs.map fun q => waysL t q os).map fun ws => askC ws s := hr
    obtain ⟨ws, hw, rfl⟩ := List.mem_map.mp hr'
    obtain ⟨q, _, rfl⟩ := List.mem_map.mp hw
    have h3 := costT_le (q := q) h.ht
    exact askC_le (by rw [waysL_at0]; omega)
  · have h3 := upk_sum h.ho s
    show (s.map (upkAt os)).sum ≤ _
    omega
theorem asked_ok {t : VaidxBase.Table} {s : MS} (h : OkM t s) : OkTm s.qs.length (askedS s) := ⟨by unfold askedS; rw [List.length_map], fun x hx => by
  unfold askedS at hx
  obtain ⟨q, hq, rfl⟩ := List.mem_map.mp hx
  exact (h.inn.hq q hq).ti⟩
theorem plans_ls {t : VaidxBase.Table} {s : MS} (h : OkM t s) : OkLs s.qs.length (plansS t s) (askedS s) := ⟨fun p hp => (plansIn_ok h.inn p hp).1, asked_ok h, by have := plansIn_len (room := s.room) h.inn; unfold plansS; omega⟩
theorem plans_ne {t : VaidxBase.Table} {s : MS} (h : OkM t s) : plansS t s ≠ [] := plansIn_ne h.inn
theorem plans_ch {t : VaidxBase.Table} {s : MS} (h : OkM t s) {p : Pl} (hp : p ∈ plansS t s) : p.chosen.length ≤ 8 := (plansIn_ok h.inn p hp).2
theorem cost_bound : ∀ (rs ts : List Nat) (a : Nat), (∀ r ∈ rs, r ≤ 100000000) → (∀ x ∈ ts, x ≤ 1000) → (rs.zip ts).foldl costStep a ≤ a + rs.length * 100000000000
  | [], ts, a, _, _ => by simp
  | r :: rs, [], a, _, _ => by simp
  | r :: rs, t :: ts, a, h1, h2 => by
    rw [List.zip_cons_cons, List.foldl_cons, List.length_cons]
    have ih := cost_bound rs ts (costStep a (r, t)) (fun x hx => h1 x (List.mem_cons_of_mem _ hx)) (fun x hx => h2 x (List.mem_cons_of_mem _ hx))
    have h3 : r * t ≤ 100000000 * 1000 := Nat.mul_le_mul (h1 r List.mem_cons_self) (h2 t List.mem_cons_self)
    have h4 : costStep a (r, t) = a + r * t := rfl
    rw [Nat.add_mul]
    omega
theorem costOf_le {n : Nat} {p : Pl} {ts : List Nat} (hp : OkPl n p) (ht : OkTm n ts) (hn : n ≤ 6) : costOf p ts ≤ 700000000000 := by
  have h := cost_bound p.rises ts p.upkeep hp.rb ht.tb
  rw [hp.rl] at h
  have := hp.up
  unfold costOf
  omega
theorem line_ok {n : Nat} {p : Pl} {ts : List Nat} {i : Nat} (hp : OkPl n p) (ht : OkTm n ts) (hn : n ≤ 6) (hi : i < n) : BL (lineOf ts i p) := by
  have h1 := costOf_le hp ht hn
  have h2 : costW p ts i ≤ costOf p ts := Nat.sub_le _ _
  have h3 := hp.rb _ (natAt_mem (l := p.rises) (k := i) (by rw [hp.rl]; exact hi))
  refine ⟨?_, ?_, ?_, ?_⟩
  · show ((costW p ts i : Nat) : Int).natAbs < 2 ^ 50
    rw [Int.natAbs_natCast]
    omega
  · show ((natAt p.rises i : Nat) : Int).natAbs < 2 ^ 50
    rw [Int.natAbs_natCast]
    omega
  · show (0 : Int) ≤ ((costW p ts i : Nat) : Int)
    omega
  · show (0 : Int) ≤ ((natAt p.rises i : Nat) : Int)
    omega
/-! ### what is told -/
def countS (p : Pl) : List Int := zs (p.chosen.length :: p.chosen)
def leastA (t : VaidxBase.Table) (s : MS) : List Int := match firstP (plansS t s) (askedS s) with
  | none => []
  | some b => [1, (costOf b (askedS s) : Int)] ++ countS b
def marginA (t : VaidxBase.Table) (s : MS) (n : Nat) : List Int := match firstP (plansS t s) (askedS s) with
  | none => []
  | some b => marginI ((plansS t s).map (lineOf (askedS s) n)) (lineOf (askedS s) n b)
def plAt (l : List Pl) (k : Nat) : Pl := (l[k]?).getD ⟨[], 0, []⟩
def pieceStep (ls : List Fr) (l : List Pl) (out : List Int) (pc : Pc) : List Int := out ++ lowI pc.1 ++ [(lineAt ls pc.2).1, (lineAt ls pc.2).2] ++ countS (plAt l pc.2)
def piecesA (t : VaidxBase.Table) (s : MS) (n : Nat) : List Int :=
  let ls := (plansS t s).map (lineOf (askedS s) n)
  (piecesI ls).foldl (pieceStep ls (plansS t s)) [((piecesI ls).length : Int)]
def keptA (t : VaidxBase.Table) (s : MS) : List Int := match firstK (plansS t s) (askedS s) s.ws, firstP (plansS t s) (askedS s) with
  | some x, some y => [1, (costOf x (askedS s) : Int), (costOf x (askedS s) : Int) - (costOf y (askedS s) : Int)] ++ countS x
  | _, _ => [0]
def pricesA (t : VaidxBase.Table) (s : MS) : List Int := ((List.range s.qs.length).map fun n => priceI (plansS t s) (askedS s) s.ws n) ++ [if (firstK (plansS t s) (askedS s) s.ws).isNone then 0 else 1]
def possibleA (t : VaidxBase.Table) (s : MS) (n : Nat) : List Int := match firstPos (plansS t s) (askedS s) n with
  | none => []
  | some b => [(posC (plansS t s) n : Int), (costOf b (askedS s) : Int)] ++ countS b
def candA (q : VaidxBase.Question) : List Nat := (shapesOf q).foldl (fun out s => out ++ numsOf s) [(shapesOf q).length]
theorem firstPos_some {l : List Pl} {ts : List Nat} {n : Nat} (h : l ≠ []) : ∃ b, firstPos l ts n = some b := by
  have hm : posC l n ∈ l.map fun p => natAt p.rises n := leastOf_mem (by simpa using h)
  obtain ⟨p, hp, e⟩ := List.mem_map.mp hm
  exact Option.isSome_iff_exists.mp (firstP_some (p := p) (List.mem_filter.mpr ⟨hp, decide_eq_true e⟩))
theorem firstP_ne {l : List Pl} {ts : List Nat} (h : l ≠ []) : ∃ b, firstP l ts = some b := by
  obtain ⟨p, hp⟩ := List.exists_mem_of_ne_nil l h
  exact Option.isSome_iff_exists.mp (firstP_some hp)
/-! ### pure methods -/
section
variable {P : Program} {w : World} {K : PySem.W.Frag} {mg : Str → Option Value} {base : Heap} {k : Nat} {N : List Str} {sc : Scope} {X : Cx} {T : List (Addr × Str)} {A0 H0 A H : Hp} {Γ Γ1 Γ2 : List Slot}
variable {a b c e o : Expr} {es : List Expr} {rest body orelse : List Stmt} {pos p apos : Pos} {R R1 R2 : Pm} {ps qs : List Pm} {out : Out} {S : List Pm → Pm → Prop}
theorem ev_meth0 {j : Nat} {C : Addr} {m : Str} {ns : List Str} {fs : List (Str × Pm)} (hx : XF P w K mg base k N sc X) (hc : Cls K C) (F : MethOk P w K mg base T j C m ns S) (ho : EV X T H0 o Γ (pO C fs)) (hS : S [pO C fs] R) (hl : fs.lookup m = none) (hj : j ≤ k := by decide) {pl : Sem Bool}
    (ht : eval (.Call (.Attribute o m apos) [] [] pos) X.env = (do
      let ov ← eval o X.env
      standAt apos.atName
      let (f, first) ← holding [ov] (getMethod ov m pl)
      callWith pos f first (backTo pos (starEach [] X.env)) (backToKw pos (keywordEach [] X.env))) := by rfl) : EV X T H0 (.Call (.Attribute o m apos) [] [] pos) Γ R := by
  intro σ A H sl wf Q q
  obtain ⟨f, fd, hM, hb, hF⟩ := F.ex
  have hroom : Room j X.A := hx.room.mono hj
  obtain ⟨eP, ew, eK, em, eb, _⟩ := hx
  subst eP ew eK em eb
  refine ofE (pe_meth0 canE hc hM hF hroom hb .nil pass0 ht) (ho σ A H sl wf _ fun v A1 H1 s1 p1 => ?_)
  obtain ⟨x, dx, us, rfl, h1, h2⟩ := id p1
  refine ⟨x, dx, us, rfl, s1.wf.ah _ _ h1, ?_, ?_⟩
  · have key : ∀ {us : List (Str × V)} {fs : List (Str × Pm)}, All2 (fun (u : Str × V) (f : Str × Pm) => u.1 = f.1 ∧ f.2.p A1 u.2) us fs → fs.lookup m = none → us.lookup m = none := by
      intro us fs h2
      induction h2 with
      | nil => intro _; rfl
      | @cons u f us fs r t ih =>
        intro hn
        obtain ⟨y, v⟩ := u
        obtain ⟨z, S'⟩ := f
        have e : y = z := r.1
        subst e
        have hn : (match m == y with | true => some S' | false => fs.lookup m) = none := hn
        show (match m == y with | true => some v | false => us.lookup m) = none
        cases hb : m == y with
        | true => rw [hb] at hn; cases hn
        | false => rw [hb] at hn; exact ih hn
    exact key h2 hl
  · exact ⟨A1, [pO C fs], R, s1.wf, .cons p1 .nil, hS, fun v A2 H2 s2 p2 => q v A2 H2 (s1.trans s2) p2⟩
theorem meth_ok {C : Addr} {x q : Str} {f : Addr} {params : Arguments} {ns : List Str} (hM : Meth K C x f) (F : ∃ fd, FunD K x q params body sc [] [] f fd) (Sc : FnScope N ns sc)
    (hbind : ∀ (kV doc pm : Value) (an : Option Addr) (cdv ct : Value) (us : List Value), us.length = ns.length → bindArgs (PySem.W.fnOf x q params body sc .none kV doc pm an cdv ct) ⟨us, []⟩ = pure (ns.zip us)) (len : ∀ ps R, S ps R → ps.length = ns.length)
    (hb : ∀ (X : Cx) (A0 H0 : Hp) (ps : List Pm) (R : Pm), XF P w K mg base k N sc X → (∀ x, X.fn x = true) → S ps R → ST X T A0 H0 body (startG N ps) (.rt R)) : MethOk P w K mg base T (k + 1) C x ns S := by
  obtain ⟨fd, F⟩ := F
  exact ⟨f, fd, hM, F.bindsN hbind, fn_ok F Sc len hb⟩
variable (E : Tp T K mg base) (hx : XF P w K mg base k N sc X)
include E hx
theorem s_table {s : MS} (h : EV X T H0 e Γ (pSt K s)) (hb : attributeBase e "table" X.env (eval e X.env) = eval e X.env := by rfl) : EV X T H0 (.Attribute e "table" pos) Γ (pOpt (pTab K) s.table) := fld E hx E.c_State E.n_State_table h lk_here hb
theorem s_questions {s : MS} (h : EV X T H0 e Γ (pSt K s)) (hb : attributeBase e "questions" X.env (eval e X.env) = eval e X.env := by rfl) : EV X T H0 (.Attribute e "questions" pos) Γ (pLs (pQ K) s.qs) := fld E hx E.c_State E.n_State_questions h ((lk_past (by decide +kernel)).trans lk_here) hb
theorem s_wishes {s : MS} (h : EV X T H0 e Γ (pSt K s)) (hb : attributeBase e "wishes" X.env (eval e X.env) = eval e X.env := by rfl) : EV X T H0 (.Attribute e "wishes" pos) Γ (pIs s.ws) := fld E hx E.c_State E.n_State_wishes h ((lk_past (by decide +kernel)).trans ((lk_past (by decide +kernel)).trans lk_here)) hb
theorem s_indexes {s : MS} (h : EV X T H0 e Γ (pSt K s)) (hb : attributeBase e "indexes" X.env (eval e X.env) = eval e X.env := by rfl) : EV X T H0 (.Attribute e "indexes" pos) Γ (pLs (pX K) s.os) := fld E hx E.c_State E.n_State_indexes h ((lk_past (by decide +kernel)).trans ((lk_past (by decide +kernel)).trans ((lk_past (by decide +kernel)).trans lk_here))) hb
theorem s_room {s : MS} (h : EV X T H0 e Γ (pSt K s)) (hb : attributeBase e "room" X.env (eval e X.env) = eval e X.env := by rfl) : EV X T H0 (.Attribute e "room" pos) Γ (pZ s.room) := fld E hx E.c_State E.n_State_room h ((lk_past (by decide +kernel)).trans ((lk_past (by decide +kernel)).trans ((lk_past (by decide +kernel)).trans ((lk_past (by decide +kernel)).trans lk_here)))) hb
end
section
variable {P : Program} {w : World} {K : PySem.W.Frag} {mg : Str → Option Value} {base : Heap} {T : List (Addr × Str)}
def sAsked (K : PySem.W.Frag) (ps : List Pm) (R : Pm) : Prop := ∃ s : MS, s.qs.length ≤ 1000 ∧ ps = [pSt K s] ∧ R = pZs (askedS s)
theorem scAsked : FnScope ["self", "question"] ["self"] (defScope (inClass (top 58) 8)) := ⟨rfl, rfl, rfl, by decide +kernel, rfl, by decide +kernel, by decide +kernel⟩
theorem ok_asked (E : Tp T K mg base) : MethOk P w K mg base T 1 (He.ga K "State") "asked" ["self"] (sAsked K) := by
  refine meth_ok E.t_asked E.d_State_asked scAsked (fun _ _ _ _ _ _ us hl => match us, hl with | [_], _ => rfl) (fun ps R ⟨_, _, h, _⟩ => by rw [h]; rfl) ?_
  rintro X A0 H0 ps R hx hf ⟨s, hn, rfl, rfl⟩
  exact st_last (ss_ret ((ev_lc (R := pQ K) (S := fun q => pZ q.times) (xs := s.qs) hx [("question", 1)] (fun _ => true) (small_size (by omega)) (s_questions E hx (ev_var hx 0))
    (fun q hq => ⟨_, fun X' hx' => tg_name hx' 1, fun X' hx' => .nil, fun _ X' hx' => f_times E hx' (ev_var hx' 1)⟩)).eq (congrArg pL (lcmap pZ (fun q : VaidxBase.Question => q.times) s.qs))))
def sPlansNow (K : PySem.W.Frag) (ps : List Pm) (R : Pm) : Prop := ∃ (t : VaidxBase.Table) (s : MS), OkM t s ∧ ps = [pSt K s] ∧ R = pLs (pPl K) (plansS t s)
theorem scPlansNow : FnScope ["self"] ["self"] (defScope (inClass (top 58) 9)) := ⟨rfl, rfl, rfl, by decide +kernel, rfl, by decide +kernel, by decide +kernel⟩
theorem ok_plansNow (E : Tp T K mg base) : MethOk P w K mg base T 9 (He.ga K "State") "plans_now" ["self"] (sPlansNow K) := by
  refine meth_ok E.t_plans_now E.d_State_plans_now scPlansNow (fun _ _ _ _ _ _ us hl => match us, hl with | [_], _ => rfl) (fun ps R ⟨_, _, _, h, _⟩ => by rw [h]; rfl) ?_
  rintro X A0 H0 ps R hx hf ⟨t, s, h, rfl, rfl⟩
  exact st_last (ss_ret (ev_call hx (ok_plans E) (evs_cons ((s_table E hx (ev_var hx 0 (R := pSt K s))).eq (R' := pTab K t) (by rw [h.ht]; rfl)) (evs_cons (s_questions E hx (ev_var hx 0 (R := pSt K s))) (evs_cons (s_indexes E hx (ev_var hx 0 (R := pSt K s))) (evs_cons (s_room E hx (ev_var hx 0 (R := pSt K s))) evs_nil)))) ⟨t, s.qs, s.os, s.room, h.inn, rfl, rfl⟩))
end
end IX
end

section
set_option Elab.async false
set_option linter.all false
set_option maxRecDepth 100000
set_option maxHeartbeats 2000000
namespace IX
open PySem PySem.Spec PyProof.Rows L2
local macro_rules | `(tactic| walk_at "fg") => `(tactic| repeat (first | exact All2.nil | exact Fg.refl _ | refine All2.cons (by first | exact Or.inl rfl | exact Or.inr rfl) ?_))
theorem nolk {K : PySem.W.Frag} {s : MS} {m : Str} (h1 : (m == ("table" : Str)) = false) (h2 : (m == ("questions" : Str)) = false) (h3 : (m == ("wishes" : Str)) = false) (h4 : (m == ("indexes" : Str)) = false) (h5 : (m == ("room" : Str)) = false) :
    List.lookup m [("table", pOpt (pTab K) s.table), ("questions", pLs (pQ K) s.qs), ("wishes", pIs s.ws), ("indexes", pLs (pX K) s.os), ("room", pZ s.room)] = none :=
  (lk_past h1).trans ((lk_past h2).trans ((lk_past h3).trans ((lk_past h4).trans ((lk_past h5).trans rfl))))
theorem countS_len (p : Pl) : (countS p).length = p.chosen.length + 1 := by
  unfold countS zs
  rw [List.length_map]
  rfl
/-! ### pieces stand within bounds -/
def PcOk (ls : List Fr) (pc : Pc) : Prop := BF pc.1 ∧ pc.2 < ls.length
theorem pcs_ok {ls : List Fr} (hl : ∀ l ∈ ls, BL l) (h0 : 0 < ls.length) : ∀ n, PcI ls (Nat.repeat (pcStep ls) n (pc0 ls)) ∧ ∀ pc ∈ (Nat.repeat (pcStep ls) n (pc0 ls)).2.2, PcOk ls pc
  | 0 => ⟨pc0_ok h0, fun pc hpc => by
    have e : pc = ((0, 1), firstPl ls) := List.mem_singleton.mp hpc
    rw [e]
    exact ⟨bf01, firstPl_lt h0⟩⟩
  | n + 1 => by
    obtain ⟨h1, h2⟩ := pcs_ok hl h0 n
    show PcI ls (pcStep ls (Nat.repeat (pcStep ls) n (pc0 ls))) ∧ ∀ pc ∈ (pcStep ls (Nat.repeat (pcStep ls) n (pc0 ls))).2.2, PcOk ls pc
    generalize Nat.repeat (pcStep ls) n (pc0 ls) = s at h1 h2
    cases ht : pcT s with
    | false =>
      rw [pc_fix ls s ht]
      exact ⟨h1, h2⟩
    | true =>
      refine ⟨(pc_turn h1 ht).1, ?_⟩
      have ht' := ht
      unfold pcT at ht'
      cases e : s.2.1 with
      | none => rw [e] at ht'; cases ht'
      | some f =>
        have hn : nextPl ls s.1 = some f := by rw [← h1.nx, e]
        obtain ⟨g1, g2⟩ := nextPl_ok f hn
        have es : pcStep ls s = (f, nextPl ls f, s.2.2 ++ [(cross (lineAt ls f) (lineAt ls s.1), f)]) := by
          unfold pcStep
          rw [e]
        rw [es]
        intro pc hpc
        rcases List.mem_append.mp hpc with z | z
        · exact h2 pc z
        · rw [List.mem_singleton.mp z]
          exact ⟨(hl _ (lineAt_mem g1)).cross (hl _ (lineAt_mem h1.h)) g2, g1⟩
theorem pieces_fine {ls : List Fr} (hl : ∀ l ∈ ls, BL l) (h0 : 0 < ls.length) : (piecesI ls).length ≤ 1 + ls.length ∧ ∀ pc ∈ piecesI ls, PcOk ls pc := by
  obtain ⟨h1, h2⟩ := pcs_ok hl h0 ls.length
  refine ⟨?_, h2⟩
  have := h1.len
  unfold piecesI
  omega
theorem plAt_get {l : List Pl} {k : Nat} (h : k < l.length) : l[k]? = some (plAt l k) := by
  unfold plAt
  rw [List.getElem?_eq_getElem h]
  rfl
theorem shapes_item {q : VaidxBase.Question} {n : Nat} (hq : OkQ n q) : ∀ s ∈ shapesOf q, s.1.length ≤ 8 ∧ s.2.length ≤ 12 := by
  have hk := keysL_item hq.fl hq.ol
  have hn := needed_once_len hq
  have key : ∀ (l : List (List Nat)) (out : List Shape), (∀ k ∈ l, k.length ≤ 8) → (∀ s ∈ out, s.1.length ≤ 8 ∧ s.2.length ≤ 12) → ∀ s ∈ l.foldl (shapeStep (onceL (VaidxBase.needed q))) out, s.1.length ≤ 8 ∧ s.2.length ≤ 12 := by
    intro l
    induction l with
    | nil => intro out _ h; exact h
    | cons k r ih =>
      intro out hl h
      rw [List.foldl_cons]
      refine ih _ (fun k' hk' => hl k' (List.mem_cons_of_mem _ hk')) ?_
      have h8 := hl k List.mem_cons_self
      have add : ∀ (o : List Shape) (s : Shape), (∀ s ∈ o, s.1.length ≤ 8 ∧ s.2.length ≤ 12) → s.1.length ≤ 8 ∧ s.2.length ≤ 12 → ∀ s' ∈ addS o s, s'.1.length ≤ 8 ∧ s'.2.length ≤ 12 := by
        intro o s ho hs s' hs'
        unfold addS at hs'
        split at hs'
        · exact ho s' hs'
        · rcases List.mem_append.mp hs' with z | z
          · exact ho s' z
          · rw [List.mem_singleton.mp z]; exact hs
      unfold shapeStep
      refine add _ _ (add _ _ h ⟨h8, by show 0 ≤ 12; omega⟩) ⟨h8, ?_⟩
      exact Nat.le_trans (without_len _ _) hn
  exact key _ _ hk (fun s hs => by cases hs)
theorem shapes_len {q : VaidxBase.Question} {n : Nat} (hq : OkQ n q) : (shapesOf q).length ≤ 10 := by
  have hk := keysL_len hq.fl
  have key : ∀ (l : List (List Nat)) (out : List Shape), (l.foldl (shapeStep (onceL (VaidxBase.needed q))) out).length ≤ out.length + 2 * l.length := by
    intro l
    induction l with
    | nil => intro out; exact Nat.le_refl _
    | cons k r ih =>
      intro out
      rw [List.foldl_cons, List.length_cons]
      have h1 := ih (shapeStep (onceL (VaidxBase.needed q)) out k)
      have h2 := addS_len out (k, [])
      have h3 := addS_len (addS out (k, [])) (k, without (onceL (VaidxBase.needed q)) k)
      unfold shapeStep at h1 ⊢
      omega
  have := key (keysL q) []
  unfold shapesOf
  have h0 : ([] : List Shape).length = 0 := rfl
  omega
section
variable {P : Program} {w : World} {K : PySem.W.Frag} {mg : Str → Option Value} {base : Heap} {T : List (Addr × Str)}
section
variable {k : Nat} {N : List Str} {sc : Scope} {X : Cx} {H0 : Hp} {Γ : List Slot} {e : Expr} {pos apos : Pos} {t : VaidxBase.Table} {s : MS}
theorem m_asked (E : Tp T K mg base) (hx : XF P w K mg base k N sc X) (hs : OkM t s) (h : EV X T H0 e Γ (pSt K s)) (hj : 1 ≤ k := by decide) {pl : Sem Bool}
    (ht : eval (.Call (.Attribute e "asked" apos) [] [] pos) X.env = (do
      let ov ← eval e X.env
      standAt apos.atName
      let (f, first) ← holding [ov] (getMethod ov "asked" pl)
      callWith pos f first (backTo pos (starEach [] X.env)) (backToKw pos (keywordEach [] X.env))) := by rfl) : EV X T H0 (.Call (.Attribute e "asked" apos) [] [] pos) Γ (pZs (askedS s)) :=
  ev_meth0 hx E.c_State (ok_asked E) h ⟨s, by have := hs.inn.ql; omega, rfl, rfl⟩ (nolk (by decide +kernel) (by decide +kernel) (by decide +kernel) (by decide +kernel) (by decide +kernel)) hj ht
theorem m_plans (E : Tp T K mg base) (hx : XF P w K mg base k N sc X) (hs : OkM t s) (h : EV X T H0 e Γ (pSt K s)) (hj : 9 ≤ k := by decide) {pl : Sem Bool}
    (ht : eval (.Call (.Attribute e "plans_now" apos) [] [] pos) X.env = (do
      let ov ← eval e X.env
      standAt apos.atName
      let (f, first) ← holding [ov] (getMethod ov "plans_now" pl)
      callWith pos f first (backTo pos (starEach [] X.env)) (backToKw pos (keywordEach [] X.env))) := by rfl) : EV X T H0 (.Call (.Attribute e "plans_now" apos) [] [] pos) Γ (pLs (pPl K) (plansS t s)) :=
  ev_meth0 hx E.c_State (ok_plansNow E) h ⟨t, s, hs, rfl, rfl⟩ (nolk (by decide +kernel) (by decide +kernel) (by decide +kernel) (by decide +kernel) (by decide +kernel)) hj ht
/-- counted(p.chosen), as whole numbers -/
theorem c_counted (E : Tp T K mg base) (hx : XF P w K mg base k N sc X) {p : Pl} {pp : Pos} (hp : p.chosen.length ≤ 8) (h : EV X T H0 e Γ (pPl K p)) (hj : 1 ≤ k := by decide) (hg : sc.names.lookup ("counted" : Str) = some .globalImplicit := by rfl)
    (he : starEach [.Attribute e "chosen" apos] X.env = (false, eval (.Attribute e "chosen" apos) X.env) :: starEach [] X.env := by rfl) (hb : attributeBase e "chosen" X.env (eval e X.env) = eval e X.env := by rfl) :
    EV X T H0 (.Call (.Name "counted" pp) [.Attribute e "chosen" apos] [] pos) Γ (pIs (countS p)) :=
  (ev_call hx (ok_counted E) (evs_cons (f_chosen E hx h hb) evs_nil he) ⟨p.chosen, by omega, rfl, rfl⟩ hj hg (by decide) he rfl).eq (pZs_ints _)
end
/-! ### tell_least, tell_margin -/
def sTell (K : PySem.W.Frag) (f : VaidxBase.Table → MS → List Int) (ps : List Pm) (R : Pm) : Prop := ∃ (t : VaidxBase.Table) (s : MS), OkM t s ∧ ps = [pSt K s] ∧ R = pIs (f t s)
def sTellN (K : PySem.W.Frag) (f : VaidxBase.Table → MS → Nat → List Int) (ps : List Pm) (R : Pm) : Prop := ∃ (t : VaidxBase.Table) (s : MS) (n : Nat), OkM t s ∧ n < s.qs.length ∧ ps = [pSt K s, pZ n] ∧ R = pIs (f t s n)
theorem sc81 : FnScope ["state", "often", "best"] ["state"] (defScope (top 81)) := ⟨rfl, rfl, rfl, by decide +kernel, rfl, by decide +kernel, by decide +kernel⟩
theorem ok_tellLeast (E : Tp T K mg base) : DefOk P w K mg base T 10 "tell_least" ["state"] (sTell K leastA) := by
  refine def_ok E E.g_tell_least E.d_tell_least sc81 (fun _ _ _ _ _ _ us hl => match us, hl with | [_], _ => rfl) (fun ps R ⟨_, _, _, h, _⟩ => by rw [h]; rfl) ?_
  rintro X A0 H0 ps R hx hf ⟨t, s, h, rfl, rfl⟩
  obtain ⟨b, hb⟩ := firstP_ne (ts := askedS s) (plans_ne h)
  have hls := plans_ls h
  have hm := firstP_mem hb
  unfold leastA
  rw [hb]
  refine st_seq (ss_set hx hf 1 (R := pZs (askedS s)) (m_asked E hx h (ev_var hx 0))) ?_
  refine st_seq (ss_set hx hf 2 (R := pPl K b) ((ev_call hx (ok_first E) (evs_cons (m_plans E hx h (ev_var hx 0)) (evs_cons (ev_var hx 1) evs_nil)) ⟨_, _, _, hls.hp, hls.ht, rfl, rfl⟩).eq (by rw [hb]; rfl))) ?_
  exact st_last (ss_ret (cat_I (xs := [1, (costOf b (askedS s) : Int)]) (by rw [countS_len]; have := plans_ch h hm; show 2 + _ ≤ _; omega) (ev_lst (evs_cons ev_int (evs_cons (ev_call hx (ok_cost E) (evs_cons (ev_var hx 2) (evs_cons (ev_var hx 1) evs_nil)) ⟨_, b, _, hls.hp b hm, hls.ht, rfl, rfl⟩) evs_nil))) (c_counted E hx (plans_ch h hm) (ev_var hx 2))))
theorem sc82 : FnScope ["state", "number", "often", "plans", "best", "home"] ["state", "number"] (defScope (top 82)) := ⟨rfl, rfl, rfl, by decide +kernel, rfl, by decide +kernel, by decide +kernel⟩
theorem ok_tellMargin (E : Tp T K mg base) : DefOk P w K mg base T 10 "tell_margin" ["state", "number"] (sTellN K marginA) := by
  refine def_ok E E.g_tell_margin E.d_tell_margin sc82 (fun _ _ _ _ _ _ us hl => match us, hl with | [_, _], _ => rfl) (fun ps R ⟨_, _, _, _, _, h, _⟩ => by rw [h]; rfl) ?_
  rintro X A0 H0 ps R hx hf ⟨t, s, n, h, hn, rfl, rfl⟩
  obtain ⟨b, hb⟩ := firstP_ne (ts := askedS s) (plans_ne h)
  have hls := plans_ls h
  have hm := firstP_mem hb
  have hql := h.inn.ql
  unfold marginA
  rw [hb]
  refine st_seq (ss_set hx hf 2 (R := pZs (askedS s)) (m_asked E hx h (ev_var hx 0))) ?_
  refine st_seq (ss_set hx hf 3 (R := pLs (pPl K) (plansS t s)) (m_plans E hx h (ev_var hx 0))) ?_
  refine st_seq (ss_set hx hf 4 (R := pPl K b) ((ev_call hx (ok_first E) (evs_cons (ev_var hx 3) (evs_cons (ev_var hx 2) evs_nil)) ⟨_, _, _, hls.hp, hls.ht, rfl, rfl⟩).eq (by rw [hb]; rfl))) ?_
  refine st_seq (ss_set hx hf 5 (R := pFr (lineOf (askedS s) n b)) (ev_tup (evs_cons (ev_call hx (ok_costW E) (evs_cons (ev_var hx 4) (evs_cons (ev_var hx 2) (evs_cons (ev_var hx 1) evs_nil))) ⟨_, b, _, n, hls.hp b hm, hls.ht, hn, rfl, rfl⟩) (evs_cons (ev_ixL (f_rises E hx (ev_var hx 4)) (ev_var hx 1) (atI_map (R := pZ) (natAt_get (by rw [(hls.hp b hm).rl]; exact hn)))) evs_nil)))) ?_
  refine st_last (ss_ret (ev_call hx (ok_margin E) (evs_cons (ev_call hx (ok_lines E) (evs_cons (ev_var hx 3) (evs_cons (ev_var hx 2) (evs_cons (ev_var hx 1) evs_nil))) ⟨_, _, _, n, hls.hp, hls.ht, hn, hls.hl, rfl, rfl⟩) (evs_cons (ev_var hx 5) evs_nil)) ⟨_, _, fun l hl => ?_, line_ok (hls.hp b hm) hls.ht hql hn, by rw [List.length_map]; exact hls.hl, rfl, rfl⟩))
  obtain ⟨p, hp, rfl⟩ := List.mem_map.mp hl
  exact line_ok (hls.hp p hp) hls.ht hql hn
/-! ### tell_pieces -/
theorem sc83 : FnScope ["state", "number", "plans", "lines", "pieces", "out", "begin", "place", "base", "rise"] ["state", "number"] (defScope (top 83)) := ⟨rfl, rfl, rfl, by decide +kernel, rfl, by decide +kernel, by decide +kernel⟩
theorem ok_tellPieces (E : Tp T K mg base) : DefOk P w K mg base T 10 "tell_pieces" ["state", "number"] (sTellN K piecesA) := by
  refine def_ok E E.g_tell_pieces E.d_tell_pieces sc83 (fun _ _ _ _ _ _ us hl => match us, hl with | [_, _], _ => rfl) (fun ps R ⟨_, _, _, _, _, h, _⟩ => by rw [h]; rfl) ?_
  rintro X A0 H0 ps R hx hf ⟨t, s, n, h, hn, rfl, rfl⟩
  have hls := plans_ls h
  have hql := h.inn.ql
  have hne := plans_ne h
  have hll : ((plansS t s).map (lineOf (askedS s) n)).length = (plansS t s).length := List.length_map _
  have h0 : 0 < ((plansS t s).map (lineOf (askedS s) n)).length := by
    rw [hll]
    exact List.length_pos_iff.mpr hne
  have hbl : ∀ l ∈ (plansS t s).map (lineOf (askedS s) n), BL l := fun l hl => by
    obtain ⟨p, hp, rfl⟩ := List.mem_map.mp hl
    exact line_ok (hls.hp p hp) hls.ht hql hn
  obtain ⟨hpl, hpk⟩ := pieces_fine hbl h0
  have hlen := hls.hl
  unfold piecesA
  dsimp only
  generalize hgl : (plansS t s).map (lineOf (askedS s) n) = ls at hll h0 hbl hpl hpk ⊢
  refine st_seq (ss_set hx hf 2 (R := pLs (pPl K) (plansS t s)) (m_plans E hx h (ev_var hx 0))) ?_
  refine st_seq (ss_set hx hf 3 (R := pLs pFr ls) ((ev_call hx (ok_lines E) (evs_cons (ev_var hx 2) (evs_cons (m_asked E hx h (ev_var hx 0)) (evs_cons (ev_var hx 1) evs_nil))) ⟨_, _, _, n, hls.hp, hls.ht, hn, hls.hl, rfl, rfl⟩).eq (by rw [hgl]))) ?_
  refine st_seq (ss_set hx hf 4 (R := pLs pPc (piecesI ls)) (ev_call hx (ok_pieces E) (evs_cons (ev_var hx 3) evs_nil) ⟨ls, hbl, h0, by omega, rfl, rfl⟩)) ?_
  refine st_seq (ss_set hx hf 5 (R := pIs [((piecesI ls).length : Int)]) (ev_lst (evs_cons ((ev_len hx E.b_len (ev_var hx 4 (R := pLs pPc (piecesI ls)))).eq (by rw [List.length_map])) evs_nil))) ?_
  refine st_fold (R := pPc) (xs := piecesI ls) hx (fun out : List Int => [.im (pSt K s), .im (pZ n), .im (pLs (pPl K) (plansS t s)), .im (pLs pFr ls), .im (pLs pPc (piecesI ls)), .im (pIs out), .un, .un, .un, .un]) (pieceStep ls (plansS t s)) (fun i out => out.length ≤ 1 + 13 * i) [((piecesI ls).length : Int)] (ev_var hx 4) (Fg.refl _) (Nat.le_refl _) (fun i out pc hi hl => ?_) fun _ => st_last (ss_ret (ev_var hx 5))
  have hio := lt_of_get hi
  obtain ⟨b1, b2⟩ := hpk pc (List.mem_of_getElem? hi)
  have b3 : pc.2 < (plansS t s).length := by omega
  have hch := plans_ch h (List.mem_of_getElem? (plAt_get b3))
  have hcl := countS_len (plAt (plansS t s) pc.2)
  refine ⟨?_, _, _, tg_tup2 hx 6 7 (R1 := pFr pc.1) (R2 := pZ pc.2), ?_⟩
  · unfold pieceStep
    simp only [List.length_append, hcl]
    show out.length + 2 + 2 + _ ≤ _
    omega
  · refine st_seq (ss_asg (R := pFr (lineAt ls pc.2)) (ev_ixL (ev_var hx 3) (ev_var hx 7) (atI_map (R := pFr) (lineAt_get b2))) (tg_tup2 hx 8 9)) ?_
    refine st_seq (ss_set hx hf 5 (R := pIs (pieceStep ls (plansS t s) out pc)) (cat_I ?_ (cat_I (ys := [(lineAt ls pc.2).1, (lineAt ls pc.2).2]) ?_ (cat_I ?_ (ev_var hx 5) (ev_call hx (ok_low E) (evs_cons (ev_var hx 6) evs_nil) ⟨pc.1, b1, rfl, rfl⟩)) (ev_lst (evs_cons (ev_var hx 8) (evs_cons (ev_var hx 9) evs_nil)))) (c_counted E hx hch (ev_ixL (ev_var hx 2) (ev_var hx 7) (atI_map (R := pPl K) (plAt_get b3)))))) (st_end ?_)
    · simp only [List.length_append, hcl]
      show out.length + 2 + 2 + _ ≤ _
      omega
    · simp only [List.length_append]
      show out.length + 2 + 2 ≤ _
      omega
    · show out.length + 2 ≤ _
      omega
    · walk_at "fg"
/-! ### tell_kept, tell_prices, tell_possible, tell_candidates -/
theorem sc84 : FnScope ["state", "often", "plans", "keeper", "cost"] ["state"] (defScope (top 84)) := ⟨rfl, rfl, rfl, by decide +kernel, rfl, by decide +kernel, by decide +kernel⟩
theorem ok_tellKept (E : Tp T K mg base) : DefOk P w K mg base T 10 "tell_kept" ["state"] (sTell K keptA) := by
  refine def_ok E E.g_tell_kept E.d_tell_kept sc84 (fun _ _ _ _ _ _ us hl => match us, hl with | [_], _ => rfl) (fun ps R ⟨_, _, _, h, _⟩ => by rw [h]; rfl) ?_
  rintro X A0 H0 ps R hx hf ⟨t, s, h, rfl, rfl⟩
  obtain ⟨b, hb⟩ := firstP_ne (ts := askedS s) (plans_ne h)
  have hls := plans_ls h
  have hm := firstP_mem hb
  unfold keptA
  rw [hb]
  refine st_seq (ss_set hx hf 1 (R := pZs (askedS s)) (m_asked E hx h (ev_var hx 0))) ?_
  refine st_seq (ss_set hx hf 2 (R := pLs (pPl K) (plansS t s)) (m_plans E hx h (ev_var hx 0))) ?_
  refine st_seq (ss_set hx hf 3 (R := pOpt (pPl K) (firstK (plansS t s) (askedS s) s.ws)) (ev_call hx (ok_firstK E) (evs_cons (ev_var hx 2) (evs_cons (ev_var hx 1) (evs_cons (s_wishes E hx (ev_var hx 0 (R := pSt K s))) evs_nil))) ⟨_, _, _, _, hls, h.wl, rfl, rfl⟩)) ?_
  cases hk : firstK (plansS t s) (askedS s) s.ws with
  | none => exact st_if1 (evt_isN (S := pPl K) (x := none) (fun _ _ _ h => pO_ne h) (ev_var hx 3)) (st_last (ss_ret (ev_lst (evs_cons ev_int evs_nil))))
  | some x =>
    have hxm := (List.mem_filter.mp (firstP_mem hk)).1
    refine st_if0 (evt_isN (S := pPl K) (x := some x) (fun _ _ _ h => pO_ne h) (ev_var hx 3)) ?_
    refine st_seq (ss_set hx hf 4 (R := pZ (costOf x (askedS s))) (ev_call hx (ok_cost E) (evs_cons (ev_var hx 3 (R := pPl K x)) (evs_cons (ev_var hx 1) evs_nil)) ⟨_, x, _, hls.hp x hxm, hls.ht, rfl, rfl⟩)) ?_
    exact st_last (ss_ret (cat_I (xs := [1, (costOf x (askedS s) : Int), (costOf x (askedS s) : Int) - (costOf b (askedS s) : Int)]) (by rw [countS_len]; have := plans_ch h hxm; show 3 + _ ≤ _; omega)
      (ev_lst (evs_cons ev_int (evs_cons (ev_var hx 4) (evs_cons (ev_sub (ev_var hx 4) (ev_call hx (ok_cost E) (evs_cons ((ev_call hx (ok_first E) (evs_cons (ev_var hx 2) (evs_cons (ev_var hx 1) evs_nil)) ⟨_, _, _, hls.hp, hls.ht, rfl, rfl⟩).eq (R' := pPl K b) (by rw [hb]; rfl)) (evs_cons (ev_var hx 1) evs_nil)) ⟨_, b, _, hls.hp b hm, hls.ht, rfl, rfl⟩)) evs_nil)))) (c_counted E hx (plans_ch h hxm) (ev_var hx 3 (R := pPl K x)))))
theorem sc85 : FnScope ["state", "often", "plans", "prices", "number"] ["state"] (defScope (top 85)) := ⟨rfl, rfl, rfl, by decide +kernel, rfl, by decide +kernel, by decide +kernel⟩
theorem ok_tellPrices (E : Tp T K mg base) : DefOk P w K mg base T 10 "tell_prices" ["state"] (sTell K pricesA) := by
  refine def_ok E E.g_tell_prices E.d_tell_prices sc85 (fun _ _ _ _ _ _ us hl => match us, hl with | [_], _ => rfl) (fun ps R ⟨_, _, _, h, _⟩ => by rw [h]; rfl) ?_
  rintro X A0 H0 ps R hx hf ⟨t, s, h, rfl, rfl⟩
  have hls := plans_ls h
  have hql := h.inn.ql
  unfold pricesA
  have hpl : ((List.range s.qs.length).map fun n => priceI (plansS t s) (askedS s) s.ws n).length = s.qs.length := by rw [List.length_map, List.length_range]
  refine st_seq (ss_set hx hf 1 (R := pZs (askedS s)) (m_asked E hx h (ev_var hx 0))) ?_
  refine st_seq (ss_set hx hf 2 (R := pLs (pPl K) (plansS t s)) (m_plans E hx h (ev_var hx 0))) ?_
  refine st_seq ((ss_setLcR (S := fun n => pI (priceI (plansS t s) (askedS s) s.ws n)) (n := s.qs.length) hx E.b_range 3 [("number", 4)] (fun _ => true) (small_size (by omega)) (by omega) ((ev_len hx E.b_len (s_questions E hx (ev_var hx 0 (R := pSt K s)))).eq (by rw [List.length_map]))
    (fun n hn => ⟨_, fun X' hx' => tg_name hx' 4, fun X' hx' => .nil, fun _ X' hx' => ev_call hx' (ok_price E) (evs_cons (ev_var hx' 2) (evs_cons (ev_var hx' 1) (evs_cons (s_wishes E hx' (ev_var hx' 0 (R := pSt K s))) (evs_cons (ev_var hx' 4) evs_nil)))) ⟨_, _, _, _, n, hls, h.wl, hn, rfl, rfl⟩⟩)).nx (Γ2 := [.im (pSt K s), .im (pZs (askedS s)), .im (pLs (pPl K) (plansS t s)), .im (pIs ((List.range s.qs.length).map fun n => priceI (plansS t s) (askedS s) s.ws n)), .un]) ?_) ?_
  · rw [lcmap pI (fun n => priceI (plansS t s) (askedS s) s.ws n) (List.range s.qs.length)]
    rfl
  refine st_ifr (x := (firstK (plansS t s) (askedS s) s.ws).isNone) (evt_isN (S := pPl K) (fun _ _ _ h => pO_ne h) (ev_call hx (ok_firstK E) (evs_cons (ev_var hx 2) (evs_cons (ev_var hx 1) (evs_cons (s_wishes E hx (ev_var hx 0 (R := pSt K s))) evs_nil))) ⟨_, _, _, _, hls, h.wl, rfl, rfl⟩)) (fun hc => ?_) fun hc => ?_
  · rw [if_pos hc]
    exact st_last (ss_ret (cat_I (ys := [0]) (by rw [hpl]; show _ + 1 ≤ _; omega) (ev_var hx 3) (ev_lst (evs_cons ev_int evs_nil))))
  · rw [if_neg (by rw [hc]; decide)]
    exact st_last (ss_ret (cat_I (ys := [1]) (by rw [hpl]; show _ + 1 ≤ _; omega) (ev_var hx 3) (ev_lst (evs_cons ev_int evs_nil))))
theorem sc86 : FnScope ["state", "number", "often", "plans", "best"] ["state", "number"] (defScope (top 86)) := ⟨rfl, rfl, rfl, by decide +kernel, rfl, by decide +kernel, by decide +kernel⟩
theorem ok_tellPossible (E : Tp T K mg base) : DefOk P w K mg base T 10 "tell_possible" ["state", "number"] (sTellN K possibleA) := by
  refine def_ok E E.g_tell_possible E.d_tell_possible sc86 (fun _ _ _ _ _ _ us hl => match us, hl with | [_, _], _ => rfl) (fun ps R ⟨_, _, _, _, _, h, _⟩ => by rw [h]; rfl) ?_
  rintro X A0 H0 ps R hx hf ⟨t, s, n, h, hn, rfl, rfl⟩
  obtain ⟨b, hb⟩ := firstPos_some (ts := askedS s) (n := n) (plans_ne h)
  have hls := plans_ls h
  have hm := (List.mem_filter.mp (firstP_mem hb)).1
  unfold possibleA
  rw [hb]
  refine st_seq (ss_set hx hf 2 (R := pZs (askedS s)) (m_asked E hx h (ev_var hx 0))) ?_
  refine st_seq (ss_set hx hf 3 (R := pLs (pPl K) (plansS t s)) (m_plans E hx h (ev_var hx 0))) ?_
  refine st_seq (ss_set hx hf 4 (R := pPl K b) ((ev_call hx (ok_firstPos E) (evs_cons (ev_var hx 3) (evs_cons (ev_var hx 2) (evs_cons (ev_var hx 1) evs_nil))) ⟨_, _, _, n, hls, plans_ne h, hn, rfl, rfl⟩).eq (by rw [hb]; rfl))) ?_
  exact st_last (ss_ret (cat_I (xs := [(posC (plansS t s) n : Int), (costOf b (askedS s) : Int)]) (by rw [countS_len]; have := plans_ch h hm; show 2 + _ ≤ _; omega)
    (ev_lst (evs_cons (ev_call hx (ok_posC E) (evs_cons (ev_var hx 3) (evs_cons (ev_var hx 1) evs_nil)) ⟨_, _, n, hls.hp, hls.hl, plans_ne h, hn, rfl, rfl⟩) (evs_cons (ev_call hx (ok_cost E) (evs_cons (ev_var hx 4) (evs_cons (ev_var hx 2) evs_nil)) ⟨_, b, _, hls.hp b hm, hls.ht, rfl, rfl⟩) evs_nil))) (c_counted E hx (plans_ch h hm) (ev_var hx 4))))
theorem sc87 : FnScope ["state", "number", "shapes", "out", "shape"] ["state", "number"] (defScope (top 87)) := ⟨rfl, rfl, rfl, by decide +kernel, rfl, by decide +kernel, by decide +kernel⟩
def qAt (s : MS) (n : Nat) : VaidxBase.Question := (s.qs[n]?).getD ⟨[], [], false, [], 0, 0⟩
theorem qAt_get {s : MS} {n : Nat} (h : n < s.qs.length) : s.qs[n]? = some (qAt s n) := by
  unfold qAt
  rw [List.getElem?_eq_getElem h]
  rfl
theorem ok_tellCands (E : Tp T K mg base) : DefOk P w K mg base T 5 "tell_candidates" ["state", "number"] (sTellN K fun _ s n => zs (candA (qAt s n))) := by
  refine def_ok E E.g_tell_candidates E.d_tell_candidates sc87 (fun _ _ _ _ _ _ us hl => match us, hl with | [_, _], _ => rfl) (fun ps R ⟨_, _, _, _, _, h, _⟩ => by rw [h]; rfl) ?_
  rintro X A0 H0 ps R hx hf ⟨t, s, n, h, hn, rfl, rfl⟩
  have hq := h.inn.hq _ (List.mem_of_getElem? (qAt_get hn))
  have hsl := shapes_len hq
  have hsi := shapes_item hq
  refine st_seq (ss_set hx hf 2 (R := pLs pSh (shapesOf (qAt s n))) (ev_call hx (ok_shapes E) (evs_cons (ev_ixL (s_questions E hx (ev_var hx 0 (R := pSt K s))) (ev_var hx 1) (atI_map (R := pQ K) (qAt_get hn))) evs_nil) ⟨_, _, hq, rfl, rfl⟩)) ?_
  refine st_seq (ss_set hx hf 3 (R := pZs [(shapesOf (qAt s n)).length]) (ev_lst (evs_cons ((ev_len hx E.b_len (ev_var hx 2 (R := pLs pSh (shapesOf (qAt s n))))).eq (by rw [List.length_map])) evs_nil))) ?_
  refine st_fold (R := pSh) (xs := shapesOf (qAt s n)) hx (fun out : List Nat => [.im (pSt K s), .im (pZ n), .im (pLs pSh (shapesOf (qAt s n))), .im (pZs out), .un]) (fun out sh => out ++ numsOf sh) (fun i out => out.length ≤ 1 + 23 * i) [(shapesOf (qAt s n)).length] (ev_var hx 2) (Fg.refl _) (Nat.le_refl _) (fun i out sh hi hl => ?_) fun _ => st_last (ss_ret ((ev_var hx 3).eq (pZs_ints _)))
  have hio := lt_of_get hi
  obtain ⟨g1, g2⟩ := hsi sh (List.mem_of_getElem? hi)
  have hnl : (numsOf sh).length ≤ 23 := by
    unfold numsOf
    simp only [List.length_append, List.length_cons, List.length_nil]
    omega
  refine ⟨by rw [List.length_append]; omega, _, _, tg_name hx 4, ?_⟩
  refine st_seq (ss_set hx hf 3 (R := pZs (out ++ numsOf sh)) (cat_Z (by omega) (ev_var hx 3) (ev_call hx (ok_nums E) (evs_cons (ev_var hx 4) evs_nil) ⟨sh, by omega, by omega, rfl, rfl⟩))) (st_end ?_)
  walk_at "fg"
end
end IX
end

section
set_option Elab.async false
set_option linter.all false
set_option maxRecDepth 100000
set_option maxHeartbeats 2000000
/-! ### the object that changes -/
namespace IX
open PySem PySem.Spec PyProof.Rows L2
def pRef (p : Addr) : Pm := ⟨fun _ v => v = .ref p, fun _ h => h⟩
/-- the object stands at p, its lists at q, w, x; what stands in them is known -/
structure StAt (K : PySem.W.Frag) (A H : Hp) (p q w x : Addr) (s : MS) : Prop where
  ex : ∃ (dx : Addr) (v0 : V) (vq vw vx : List V), H p = some (.ins (He.ga K "State") dx [("table", v0), ("questions", .ref q), ("wishes", .ref w), ("indexes", .ref x), ("room", .int (s.room : Int))]) ∧ H q = some (.lst vq) ∧ H w = some (.lst vw) ∧ H x = some (.lst vx) ∧
    (pOpt (pTab K) s.table).p A v0 ∧ Vs A vq (s.qs.map (pQ K)) ∧ Vs A vw (s.ws.map pI) ∧ Vs A vx (s.os.map (pX K))
  np : A p = none
  nq : A q = none
  nw : A w = none
  nx : A x = none
  qw : q ≠ w
  qx : q ≠ x
  wx : w ≠ x
/-- from (A0, H0) to (A, H): what is at O may have changed -/
structure IStp (T : List (Addr × Str)) (O : List Addr) (A0 H0 A H : Hp) : Prop where
  wf : Wf T A H
  aa : Sub A0 A
  hh : ∀ b o, H0 b = some o → (∀ ps, o ≠ .tbl ps) → b ∉ O → H b = some o
  nn : ∀ b, H0 b ≠ none → H b ≠ none
  fr : ∀ b, H0 b ≠ none → A b = A0 b
def OwnOk (O : List Addr) (H0 : Hp) (q w x : Addr) : Prop := ∀ b ∈ [q, w, x], b ∈ O ∨ H0 b = none
def Ans (A0 H0 : Hp) (O : List Addr) (H : Hp) (v : V) (ans : List Int) : Prop := ∃ a, v = .ref a ∧ H a = some (.lst (ans.map V.int)) ∧ ∀ b, H0 b ≠ none → A0 b = none → b ∉ O → b ≠ a
def Own (p q w x : Addr) : List Addr := [p, q, w, x]
section
variable {T : List (Addr × Str)} {K : PySem.W.Frag} {O O1 : List Addr} {A0 H0 A H A1 H1 A2 H2 : Hp} {p q w x q1 w1 x1 : Addr} {s s' : MS}
theorem IStp.refl (h : Wf T A H) : IStp T O A H A H := ⟨h, Sub.refl _, fun _ _ h _ _ => h, fun _ h => h, fun _ _ => rfl⟩
theorem IStp.then (a : IStp T O A0 H0 A H) (b : Stp T A H A1 H1) : IStp T O A0 H0 A1 H1 :=
  ⟨b.wf, a.aa.trans b.aa, fun c o h n m => b.hh c o (a.hh c o h n m) n, fun c h => b.nn c (a.nn c h), fun c h => (b.fr c (a.nn c h)).trans (a.fr c h)⟩
theorem IStp.trans (a : IStp T O A0 H0 A H) (b : IStp T O1 A H A1 H1) (h : ∀ c ∈ O1, c ∈ O ∨ H0 c = none) : IStp T O A0 H0 A1 H1 :=
  ⟨b.wf, a.aa.trans b.aa, fun c o hc n m => b.hh c o (a.hh c o hc n m) n fun z => (h c z).elim m fun y => (by rw [y] at hc; cases hc), fun c hc => b.nn c (a.nn c hc), fun c hc => (b.fr c (a.nn c hc)).trans (a.fr c hc)⟩
/-- an object of ours is written -/
theorem IStp.upd {c : Addr} {o o' : HO} (a : IStp T O A0 H0 A H) (hc : c ∈ O ∨ H0 c = none) (nA : A c = none) (e : H c = some o) (n1 : ∀ ps, o ≠ .tbl ps) (n2 : ∀ φ, o ≠ .ext φ) : IStp T O A0 H0 A (L2.upd H c o') := by
  refine ⟨⟨fun b u eb => ?_, tabs_upd a.wf.tb (fun ps z => n1 ps (Option.some.inj (e.symm.trans z))) (fun φ z => n2 φ (Option.some.inj (e.symm.trans z))), a.wf.nt⟩, a.aa, fun b u hb n m => ?_, fun b hb => nn_new b (a.nn b hb), a.fr⟩
  · rw [upd_ne (ne_of_none eb nA)]
    exact a.wf.ah b u eb
  · have hne : b ≠ c := fun z => by
      subst z
      rcases hc with y | y
      · exact m y
      · rw [y] at hb; cases hb
    rw [upd_ne hne]
    exact a.hh b u hb n m
theorem StAt.up (h : StAt K A H p q w x s) (st : Stp T A H A1 H1) : StAt K A1 H1 p q w x s := by
  obtain ⟨dx, v0, vq, vw, vx, e1, e2, e3, e4, d0, d1, d2, d3⟩ := h.ex
  have fr : ∀ {b : Addr} {o : HO}, H b = some o → A b = none → A1 b = none := fun {b o} e n => (st.fr b (by rw [e]; exact fun z => by cases z)).trans n
  exact ⟨⟨dx, v0, vq, vw, vx, st.hh _ _ e1 (fun _ z => by cases z), st.hh _ _ e2 (fun _ z => by cases z), st.hh _ _ e3 (fun _ z => by cases z), st.hh _ _ e4 (fun _ z => by cases z), (pOpt (pTab K) s.table).up st.aa d0, d1.up st.aa, d2.up st.aa, d3.up st.aa⟩,
    fr e1 h.np, fr e2 h.nq, fr e3 h.nw, fr e4 h.nx, h.qw, h.qx, h.wx⟩
theorem sub_upd1 {c : Addr} {o : HO} (sA : Sub A H) (e : H c = some o) : Sub (L2.upd A c o) H := fun b u eb => by
  by_cases hb : b = c
  · subst hb
    rw [upd_same] at eb
    rw [e]
    exact eb
  · rw [upd_ne hb] at eb
    exact sA b u eb
/-- for a while it may be known as it stands -/
theorem StAt.freeze (h : StAt K A H p q w x s) (wf : Wf T A H) : ∃ AF, Wf T AF H ∧ Sub A AF ∧ (pSt K s).p AF (.ref p) ∧ ∀ b, b ∉ [p, q, w, x] → AF b = A b := by
  obtain ⟨dx, v0, vq, vw, vx, e1, e2, e3, e4, d0, d1, d2, d3⟩ := h.ex
  have np1 : p ≠ q := fun z => by rw [z, e2] at e1; cases e1
  have np2 : p ≠ w := fun z => by rw [z, e3] at e1; cases e1
  have np3 : p ≠ x := fun z => by rw [z, e4] at e1; cases e1
  have w1 : Wf T (L2.upd A p (.ins (He.ga K "State") dx [("table", v0), ("questions", .ref q), ("wishes", .ref w), ("indexes", .ref x), ("room", .int (s.room : Int))])) H := ⟨sub_upd1 wf.ah e1, wf.tb, nt_upd wf fun _ z => by rw [e1] at z; cases z⟩
  have s1 : Sub A (L2.upd A p (.ins (He.ga K "State") dx [("table", v0), ("questions", .ref q), ("wishes", .ref w), ("indexes", .ref x), ("room", .int (s.room : Int))])) := sub_new h.np
  generalize hA1 : L2.upd A p (.ins (He.ga K "State") dx [("table", v0), ("questions", .ref q), ("wishes", .ref w), ("indexes", .ref x), ("room", .int (s.room : Int))]) = A1 at w1 s1
  have a1p : A1 p = some (.ins (He.ga K "State") dx [("table", v0), ("questions", .ref q), ("wishes", .ref w), ("indexes", .ref x), ("room", .int (s.room : Int))]) := by rw [← hA1]; exact upd_same
  have a1o : ∀ b, b ≠ p → A1 b = A b := fun b hb => by rw [← hA1]; exact upd_ne hb
  have w2 : Wf T (L2.upd A1 q (.lst vq)) H := ⟨sub_upd1 w1.ah e2, w1.tb, nt_upd w1 fun _ z => by rw [e2] at z; cases z⟩
  have w3 : Wf T (L2.upd (L2.upd A1 q (.lst vq)) w (.lst vw)) H := ⟨sub_upd1 w2.ah e3, w2.tb, nt_upd w2 fun _ z => by rw [e3] at z; cases z⟩
  have w4 : Wf T (L2.upd (L2.upd (L2.upd A1 q (.lst vq)) w (.lst vw)) x (.lst vx)) H := ⟨sub_upd1 w3.ah e4, w3.tb, nt_upd w3 fun _ z => by rw [e4] at z; cases z⟩
  have n1 : A1 q = none := (a1o q np1.symm).trans h.nq
  have n2 : L2.upd A1 q (.lst vq) w = none := by rw [upd_ne h.qw.symm]; exact (a1o w np2.symm).trans h.nw
  have n3 : L2.upd (L2.upd A1 q (.lst vq)) w (.lst vw) x = none := by rw [upd_ne h.wx.symm, upd_ne h.qx.symm]; exact (a1o x np3.symm).trans h.nx
  have s4 : Sub A1 (L2.upd (L2.upd (L2.upd A1 q (.lst vq)) w (.lst vw)) x (.lst vx)) := (sub_new n1).trans ((sub_new n2).trans (sub_new n3))
  have sA := s1.trans s4
  refine ⟨_, w4, sA, ⟨p, dx, _, rfl, s4 _ _ a1p, ?_⟩, fun b hb => ?_⟩
  · exact .cons ⟨rfl, (pOpt (pTab K) s.table).up sA d0⟩ (.cons ⟨rfl, q, vq, rfl, by rw [upd_ne h.qx, upd_ne h.qw, upd_same], d1.up sA⟩ (.cons ⟨rfl, w, vw, rfl, by rw [upd_ne h.wx, upd_same], d2.up sA⟩ (.cons ⟨rfl, x, vx, rfl, upd_same, d3.up sA⟩ (.cons ⟨rfl, rfl⟩ .nil))))
  · simp only [List.mem_cons, List.not_mem_nil, or_false, not_or] at hb
    rw [upd_ne hb.2.2.2, upd_ne hb.2.2.1, upd_ne hb.2.1]
    exact a1o b hb.1
/-- all that a def's body knows between statements -/
structure Iv (T : List (Addr × Str)) (K : PySem.W.Frag) (O : List Addr) (A0 H0 : Hp) (p : Addr) (A H : Hp) (q w x : Addr) (s : MS) : Prop where
  st : IStp T O A0 H0 A H
  at_ : StAt K A H p q w x s
  own : OwnOk O H0 q w x
  po : p ∈ O
theorem Iv.then (i : Iv T K O A0 H0 p A H q w x s) (b : Stp T A H A1 H1) : Iv T K O A0 H0 p A1 H1 q w x s := ⟨i.st.then b, i.at_.up b, i.own, i.po⟩
theorem Iv.mem (i : Iv T K O A0 H0 p A H q w x s) : ∀ c ∈ [p, q, w, x], c ∈ O ∨ H0 c = none := fun c hc => by
  rcases List.mem_cons.mp hc with rfl | z
  · exact .inl i.po
  · exact i.own c z
/-- an answer of known whole numbers -/
theorem Iv.ans (i : Iv T K O A0 H0 p A H q w x s) (b : Stp T A H A1 H1) {v : V} {ans : List Int} (h : (pIs ans).p A1 v) : Ans A0 H0 O H1 v ans := by
  obtain ⟨a, us, rfl, e1, e2⟩ := h
  rw [vs_ints e2] at e1
  refine ⟨a, rfl, b.wf.ah _ _ e1, fun c h1 h2 h3 z => ?_⟩
  subst z
  rw [(i.st.then b).fr c h1, h2] at e1
  cases e1
/-- .. known while the object was known -/
theorem Iv.ansF (i : Iv T K O A0 H0 p A H q w x s) {AF : Hp} (hAF : ∀ b, b ∉ [p, q, w, x] → AF b = A b) (b : Stp T AF H A1 H1) {v : V} {ans : List Int} (h : (pIs ans).p A1 v) : Ans A0 H0 O H1 v ans := by
  obtain ⟨a, us, rfl, e1, e2⟩ := h
  rw [vs_ints e2] at e1
  refine ⟨a, rfl, b.wf.ah _ _ e1, fun c h1 h2 h3 z => ?_⟩
  subst z
  have hno : c ∉ [p, q, w, x] := fun z => (i.mem c z).elim h3 h1
  rw [b.fr c (i.st.nn c h1), hAF c hno, i.st.fr c h1, h2] at e1
  cases e1
/-- back to what was known, behind a stretch in which the object was known -/
theorem thaw {AF : Hp} (wf : Wf T A H) (sF : Sub A AF) (b : Stp T AF H A1 H1) : Stp T A H A H1 := ⟨⟨(sF.trans b.aa).trans b.wf.ah, b.wf.tb, wf.nt⟩, Sub.refl _, b.hh, b.nn, fun _ _ => rfl⟩
end
/-! ### expressions -/
section
variable {P : Program} {w : World} {K : PySem.W.Frag} {mg : Str → Option Value} {base : Heap} {k : Nat} {N : List Str} {sc : Scope} {X : Cx} {T : List (Addr × Str)} {O : List Addr} {A0 H0 A H : Hp} {Γ Γ1 Γ2 : List Slot}
variable {a b c e o : Expr} {es : List Expr} {rest body orelse : List Stmt} {st : Stmt} {pos apos : Pos} {R R1 R2 : Pm} {ps qs : List Pm} {p : Addr} {s s' : MS}
/-- e stands for R while the object at p is s -/
def EVS (X : Cx) (T : List (Addr × Str)) (K : PySem.W.Frag) (H0 : Hp) (p : Addr) (s : MS) (e : Expr) (Γ : List Slot) (R : Pm) : Prop :=
  ∀ σ A H q w x, Sls H0 A H σ Γ → Wf T A H → StAt K A H p q w x s → ∀ Q : VK, (∀ v A' H', Stp T A H A' H' → R.p A' v → Q v H') → cE X e σ H Q
def EVTS (X : Cx) (T : List (Addr × Str)) (K : PySem.W.Frag) (H0 : Hp) (p : Addr) (s : MS) (e : Expr) (Γ : List Slot) (b : Bool) : Prop :=
  ∀ σ A H q w x, Sls H0 A H σ Γ → Wf T A H → StAt K A H p q w x s → ∀ Q : Bool → Hp → Prop, (∀ A' H', Stp T A H A' H' → Q b H') → cT X e σ H Q
def EVSs (X : Cx) (T : List (Addr × Str)) (K : PySem.W.Frag) (H0 : Hp) (p : Addr) (s : MS) (es : List Expr) (Γ : List Slot) (ps : List Pm) : Prop :=
  ∀ σ A H q w x, Sls H0 A H σ Γ → Wf T A H → StAt K A H p q w x s → ∀ Q : List V → Hp → Prop, (∀ vs A' H', Stp T A H A' H' → Vs A' vs ps → Q vs H') → cA X es σ H Q
theorem EV.S (h : EV X T H0 e Γ R) : EVS X T K H0 p s e Γ R := fun σ A H q w x sl wf _ Q k => h σ A H sl wf Q k
theorem EVT.S {t : Bool} (h : EVT X T H0 e Γ t) : EVTS X T K H0 p s e Γ t := fun σ A H q w x sl wf _ Q k => h σ A H sl wf Q k
theorem EVS.eq (h : EVS X T K H0 p s e Γ R) {R' : Pm} (q : R = R') : EVS X T K H0 p s e Γ R' := q ▸ h
theorem EVTS.eq {t u : Bool} (h : EVTS X T K H0 p s e Γ t) (q : t = u) : EVTS X T K H0 p s e Γ u := q ▸ h
/-- the slots with the object known -/
theorem sls_freeze {σ : L2.St} {AF : Hp} (sl : Sls H0 A H σ (.im (pRef p) :: Γ)) (n : (Γ.all fun y => !isMu y) = true) (sF : Sub A AF) (h : (pSt K s).p AF (.ref p)) : Sls H0 AF H σ (.im (pSt K s) :: Γ) := by
  cases sl with
  | @cons a b as bs r t =>
    refine .cons ?_ ?_
    · cases a with
      | none => exact r.elim
      | some v =>
        have r : v = .ref p := r
        rw [r]
        exact h
    · clear r
      induction t with
      | nil => exact .nil
      | @cons a b as bs r t ih =>
        rw [List.all_cons, Bool.and_eq_true] at n
        refine .cons ?_ (ih n.2)
        cases a with
        | none => cases b with
          | un => trivial
          | im _ => exact r.elim
          | mu _ => exact r.elim
        | some v => cases b with
          | un => trivial
          | im S => exact S.up sF r
          | mu _ => exact absurd (show false = true from n.1) Bool.false_ne_true
/-- what leans on no object: read while the object is known -/
theorem EV.F (h : EV X T H0 e (.im (pSt K s) :: Γ) R) (hR : ∀ A A' v, R.p A v → R.p A' v) (n : (Γ.all fun y => !isMu y) = true := by rfl) : EVS X T K H0 p s e (.im (pRef p) :: Γ) R := by
  intro σ A H q w x sl wf hst Q k
  obtain ⟨AF, wF, sF, hp, _⟩ := hst.freeze wf
  exact h σ AF H (sls_freeze sl n sF hp) wF Q fun v A1 H1 s1 p1 => k v A H1 (thaw wf sF s1) (hR _ _ _ p1)
theorem EVT.F {t : Bool} (h : EVT X T H0 e (.im (pSt K s) :: Γ) t) (n : (Γ.all fun y => !isMu y) = true := by rfl) : EVTS X T K H0 p s e (.im (pRef p) :: Γ) t := by
  intro σ A H q w x sl wf hst Q k
  obtain ⟨AF, wF, sF, hp, _⟩ := hst.freeze wf
  exact h σ AF H (sls_freeze sl n sF hp) wF Q fun A1 H1 s1 => k A H1 (thaw wf sF s1)
theorem pI_any {i : Int} : ∀ A A' v, (pI i).p A v → (pI i).p A' v := fun _ _ _ h => h
theorem evS_nil : EVSs X T K H0 p s [] Γ [] := fun σ A H q w x sl wf _ Q k => ofA pa_nil (k [] A H (.refl wf) .nil)
theorem evS_cons (ha : EVS X T K H0 p s e Γ R) (hr : EVSs X T K H0 p s es Γ ps) (hs : starEach (e :: es) X.env = (false, eval e X.env) :: starEach es X.env := by rfl) : EVSs X T K H0 p s (e :: es) Γ (R :: ps) := by
  intro σ A H q w x sl wf hst Q k
  refine ofA (pa_cons canE canA hs) (ha σ A H q w x sl wf hst _ fun v A1 H1 s1 p1 => hr σ A1 H1 q w x (sl.up s1) s1.wf (hst.up s1) _ fun vs A2 H2 s2 p2 => ?_)
  exact k _ A2 H2 (s1.trans s2) (.cons (R.up s2.aa p1) p2)
theorem evS_call {S : List Pm → Pm → Prop} {j : Nat} {f : Str} {ns : List Str} {fp : Pos} (hx : XF P w K mg base k N sc X) (F : DefOk P w K mg base T j f ns S) (h : EVSs X T K H0 p s (e :: es) Γ ps) (hS : S ps R) (hj : j ≤ k := by decide) (hg : sc.names.lookup f = some .globalImplicit := by rfl) (hdb : (f == ("__debug__" : Str)) = false := by decide)
    (he : starEach (e :: es) X.env = (false, eval e X.env) :: starEach es X.env := by rfl) (hpl : (backTo pos (starEach es X.env)).any (·.1) = false := by rfl) : EVS X T K H0 p s (.Call (.Name f fp) (e :: es) [] pos) Γ R := by
  intro σ A H q w' x sl wf hst Q k'
  obtain ⟨fa, fd, hm, hk, hb, hF⟩ := F.ex
  have hg' := gl_of hx hg
  have hroom : Room j X.A := hx.room.mono hj
  obtain ⟨eP, ew, eK, em, eb, _⟩ := hx
  subst eP ew eK em eb
  refine ofE (pe_call hF hroom hg' hm hk hb .nil pass0 canA hdb he hpl) (h σ A H q w' x sl wf hst _ fun vs A1 H1 s1 p1 => ?_)
  rw [List.append_nil]
  exact ⟨A1, ps, R, s1.wf, p1, hS, fun v A2 H2 s2 p2 => k' v A2 H2 (s1.trans s2) p2⟩
/-- o.questions[i] -/
theorem evS_q (E : Tp T K mg base) (hx : XF P w K mg base k N sc X) {n : Nat} {q : VaidxBase.Question} (ho : EV X T H0 o Γ (pRef p)) (hi : EV X T H0 a Γ (pZ n)) (hn : s.qs[n]? = some q) (hs : PlainIx a := by exact fun _ _ => rfl) (hb : attributeBase o "questions" X.env (eval o X.env) = eval o X.env := by rfl) :
    EVS X T K H0 p s (.Subscript (.Attribute o "questions" apos) a pos) Γ (pQ K q) := by
  intro σ A H q' w' x sl wf hst Q k'
  refine ofE (pe_ix ix_list (pe_fld canE hb) canE hs) (ho σ A H sl wf _ fun v A1 H1 s1 p1 => ?_)
  have p1 : v = .ref p := p1
  obtain ⟨dx, v0, vq, vw, vx, e1, e2, e3, e4, d0, d1, d2, d3⟩ := (hst.up s1).ex
  refine ⟨p, _, dx, _, .ref q', p1, e1, by rw [hx.eK]; exact E.c_State, by rw [hx.eK]; exact E.n_State_questions, (lk_past (by decide +kernel)).trans lk_here, hi σ A1 H1 (sl.up s1) s1.wf _ fun u A2 H2 s2 p2 => ?_⟩
  obtain ⟨dx, v0, vq, vw, vx, e1, e2, e3, e4, d0, d1, d2, d3⟩ := ((hst.up s1).up s2).ex
  have hq : (s.qs.map (pQ K))[n]? = some (pQ K q) := by rw [List.getElem?_map, hn]; rfl
  obtain ⟨v, g1, g2⟩ := d1.get hq
  exact ⟨q', vq, (n : Int), v, rfl, p2, SqL.of e2, atI_nat g1, k' v A2 H2 (s1.trans s2) g2⟩
/-! ### statements -/
inductive OutI where
  | nx (Γ : List Slot) (s : MS)
  | rt (ans : List Int) (s : MS)
def GoesI (T : List (Addr × Str)) (K : PySem.W.Frag) (O : List Addr) (A0 H0 : Hp) (p : Addr) (o : OutI) (D : Ends) : Prop := match o with
  | .nx Γ s => ∀ σ A H q w x, Iv T K O A0 H0 p A H q w x s → Sls H0 A H σ Γ → D.nx σ H
  | .rt ans s => ∀ v A H q w x, Iv T K O A0 H0 p A H q w x s → Ans A0 H0 O H v ans → D.rt v H
def SSI (X : Cx) (T : List (Addr × Str)) (K : PySem.W.Frag) (O : List Addr) (A0 H0 : Hp) (p : Addr) (st : Stmt) (Γ : List Slot) (s : MS) (o : OutI) : Prop :=
  ∀ σ A H q w x, Iv T K O A0 H0 p A H q w x s → Sls H0 A H σ Γ → ∀ D : Ends, GoesI T K O A0 H0 p o D → cS X st D σ H
def STI (X : Cx) (T : List (Addr × Str)) (K : PySem.W.Frag) (O : List Addr) (A0 H0 : Hp) (p : Addr) (sts : List Stmt) (Γ : List Slot) (s : MS) (o : OutI) : Prop :=
  ∀ σ A H q w x, Iv T K O A0 H0 p A H q w x s → Sls H0 A H σ Γ → ∀ D : Ends, GoesI T K O A0 H0 p o D → cSs X sts D σ H
variable {out : OutI} {ans : List Int}
theorem sti_nil : STI X T K O A0 H0 p [] Γ s (.nx Γ s) := fun σ A H q w x i sl D g => ofSs pss_nil (g σ A H q w x i sl)
theorem sti_seq (h1 : SSI X T K O A0 H0 p st Γ s (.nx Γ1 s')) (h2 : STI X T K O A0 H0 p rest Γ1 s' out) : STI X T K O A0 H0 p (st :: rest) Γ s out := fun σ A H q w x i sl D g =>
  ofSs (pss_cons canS canSs) (h1 σ A H q w x i sl { D with nx := cSs X rest D } fun σ1 A1 H1 q1 w1 x1 i1 sl1 => h2 σ1 A1 H1 q1 w1 x1 i1 sl1 D (by
    cases out with
    | nx Γ3 s3 => exact g
    | rt a3 s3 => exact g))
theorem sti_last (h1 : SSI X T K O A0 H0 p st Γ s (.rt ans s')) : STI X T K O A0 H0 p (st :: rest) Γ s (.rt ans s') := fun σ A H q w x i sl D g =>
  ofSs (pss_cons canS canSs) (h1 σ A H q w x i sl { D with nx := cSs X rest D } g)
theorem ssi_set (hx : XF P w K mg base k N sc X) (hf : ∀ x, X.fn x = true) (i : Nat) {y : Str} {p' : Pos} (h : EVS X T K H0 p s e Γ R) (h1 : N[i]? = some y := by rfl) (h2 : Loc sc y := by first | exact .inl rfl | exact .inr rfl)
    (hs : swapsWith e (some (.Name y p')) pos.line X.env = pure false := by rfl) : SSI X T K O A0 H0 p (.Assign [.Name y p'] e pos) Γ s (.nx (Γ.set i (.im R)) s) := by
  intro σ A H q w' x iv sl D g
  refine ofS (ps_set (i := i) (by rw [hx.eN]; exact hx.nd) (by rw [hx.eN]; exact h1) (loc_of hx h2) canE hs (.inl (hf y))) (h σ A H q w' x sl iv.st.wf iv.at_ _ fun v A1 H1 s1 p1 => g _ A1 H1 q w' x (iv.then s1) ((sl.up s1).set i p1))
theorem sti_ifr {t : Bool} (hc : EVTS X T K H0 p s c Γ t) (ht : t = true → STI X T K O A0 H0 p body Γ s (.rt ans s')) (he : t = false → STI X T K O A0 H0 p rest Γ s (.rt ans s')) : STI X T K O A0 H0 p (.If c body [] pos :: rest) Γ s (.rt ans s') := by
  intro σ A H q w x iv sl D g
  refine ofSs (pss_cons (ps_if canT canSs canSs) canSs) (hc σ A H q w x sl iv.st.wf iv.at_ _ fun A1 H1 s1 => ?_)
  cases t with
  | true => exact iteT (ht rfl σ A1 H1 q w x (iv.then s1) (sl.up s1) { D with nx := cSs X rest D } g)
  | false => exact iteF (ofSs pss_nil (he rfl σ A1 H1 q w x (iv.then s1) (sl.up s1) D g))
theorem ssi_ret (h : EVS X T K H0 p s e Γ (pIs ans)) : SSI X T K O A0 H0 p (.Return (some e) pos) Γ s (.rt ans s) := by
  intro σ A H q w x iv sl D g
  exact ofS (ps_ret canE) (h σ A H q w x sl iv.st.wf iv.at_ _ fun v A1 H1 s1 p1 => g v A1 H1 q w x (iv.then s1) (iv.ans s1 p1))
/-- return f(state, ..), the object known for that while -/
theorem ssi_retF (h : EV X T H0 e (.im (pSt K s) :: Γ) (pIs ans)) (n : (Γ.all fun y => !isMu y) = true := by rfl) : SSI X T K O A0 H0 p (.Return (some e) pos) (.im (pRef p) :: Γ) s (.rt ans s) := by
  intro σ A H q w x iv sl D g
  obtain ⟨AF, wF, sF, hp, hAF⟩ := iv.at_.freeze iv.st.wf
  exact ofS (ps_ret canE) (h σ AF H (sls_freeze sl n sF hp) wF _ fun v A1 H1 s1 p1 => g v A H1 q w x (iv.then (thaw iv.st.wf sF s1)) (iv.ansF hAF s1 p1))
end
end IX
end

section
set_option Elab.async false
set_option linter.all false
set_option maxRecDepth 100000
set_option maxHeartbeats 2000000
/-! the object's fields and lists written. Partly printed by gen_state.py. -/
namespace IX
open PySem PySem.Spec PyProof.Rows L2
section
variable {P : Program} {w : World} {K : PySem.W.Frag} {mg : Str → Option Value} {base : Heap} {k : Nat} {N : List Str} {sc : Scope} {X : Cx} {T : List (Addr × Str)} {O : List Addr} {A0 H0 A H : Hp} {Γ Γ1 Γ2 : List Slot}
variable {a b c e o idx : Expr} {es : List Expr} {rest body orelse : List Stmt} {st : Stmt} {pos apos : Pos} {R R1 R2 : Pm} {ps qs : List Pm} {p : Addr} {s s' : MS}
theorem at_ne {c d : Addr} {o o' : HO} (h1 : H c = some o) (h2 : H d = some o') (h : o ≠ o') : c ≠ d := fun z => h (Option.some.inj (h1.symm.trans (by rw [z]; exact h2)))
theorem ins_lst {C dx : Addr} {fs : List (Str × V)} {xs : List V} : HO.ins C dx fs ≠ HO.lst xs := fun z => by cases z
/-- slots lean on nothing that is written -/
theorem slsU {A H H0 : Hp} {σ : L2.St} {Γ : List Slot} {c : Addr} {o o' : HO} (nA : A c = none) (e : H c = some o) (n : (Γ.all fun y => !isMu y) = true := by rfl) (sl : Sls H0 A H σ Γ) : Sls H0 A (L2.upd H c o') σ Γ := by
  induction sl with
  | nil => exact .nil
  | @cons a b as bs r t ih =>
    rw [List.all_cons, Bool.and_eq_true] at n
    refine .cons ?_ (ih n.2)
    cases a with
    | none => cases b with
      | un => trivial
      | im _ => exact r.elim
      | mu _ => exact r.elim
    | some v => cases b with
      | un => trivial
      | im S => exact r
      | mu _ => exact absurd (show false = true from n.1) Bool.false_ne_true
/-- self.table = e -/
theorem ssi_fTable (E : Tp T K mg base) (hx : XF P w K mg base k N sc X) {ot : Option VaidxBase.Table} (ho : EV X T H0 o Γ (pRef p)) (h : EVS X T K H0 p s e Γ (pOpt (pTab K) ot))
    (hs : swapsWith e (some (.Attribute o "table" apos)) pos.line X.env = pure false := by rfl) (nm : (Γ.all fun y => !isMu y) = true := by rfl) : SSI X T K O A0 H0 p (.Assign [.Attribute o "table" apos] e pos) Γ s (.nx Γ { s with table := ot }) := by
  intro σ A H q w x iv sl D g
  refine ofS (ps_fld canE canE hs) (h σ A H q w x sl iv.st.wf iv.at_ _ fun v A1 H1 s1 p1 => ho σ A1 H1 (sl.up s1) s1.wf _ fun u A2 H2 s2 p2 => ?_)
  have p2 : u = .ref p := p2
  have iv2 := (iv.then s1).then s2
  obtain ⟨dx, v0, vq, vw, vx, e1, e2, e3, e4, d0, d1, d2, d3⟩ := iv2.at_.ex
  refine ⟨p, _, dx, _, p2, e1, by rw [hx.eK]; exact E.c_State, by rw [hx.eK]; exact E.n_State_table, (show 5 < 1000 by decide), ?_⟩
  have n1 := at_ne e1 e2 ins_lst
  have n2 := at_ne e1 e3 ins_lst
  have n3 := at_ne e1 e4 ins_lst
  refine g σ A2 _ q w x ⟨iv2.st.upd (.inl iv2.po) iv2.at_.np e1 (fun _ z => by cases z) (fun _ z => by cases z), ⟨⟨dx, v, vq, vw, vx, upd_same, by rw [upd_ne n1.symm]; exact e2, by rw [upd_ne n2.symm]; exact e3, by rw [upd_ne n3.symm]; exact e4, (pOpt (pTab K) ot).up s2.aa p1, d1, d2, d3⟩, iv2.at_.np, iv2.at_.nq, iv2.at_.nw, iv2.at_.nx, iv2.at_.qw, iv2.at_.qx, iv2.at_.wx⟩, iv2.own, iv2.po⟩ ((sl.up s1).up s2 |> slsU iv2.at_.np e1 (n := nm))
/-- self.room = e -/
theorem ssi_fRoom (E : Tp T K mg base) (hx : XF P w K mg base k N sc X) {r : Nat} (ho : EV X T H0 o Γ (pRef p)) (h : EVS X T K H0 p s e Γ (pZ r))
    (hs : swapsWith e (some (.Attribute o "room" apos)) pos.line X.env = pure false := by rfl) (nm : (Γ.all fun y => !isMu y) = true := by rfl) : SSI X T K O A0 H0 p (.Assign [.Attribute o "room" apos] e pos) Γ s (.nx Γ { s with room := r }) := by
  intro σ A H q w x iv sl D g
  refine ofS (ps_fld canE canE hs) (h σ A H q w x sl iv.st.wf iv.at_ _ fun v A1 H1 s1 p1 => ho σ A1 H1 (sl.up s1) s1.wf _ fun u A2 H2 s2 p2 => ?_)
  have p2 : u = .ref p := p2
  have p1 : v = .int (r : Int) := p1
  have iv2 := (iv.then s1).then s2
  obtain ⟨dx, v0, vq, vw, vx, e1, e2, e3, e4, d0, d1, d2, d3⟩ := iv2.at_.ex
  refine ⟨p, _, dx, _, p2, e1, by rw [hx.eK]; exact E.c_State, by rw [hx.eK]; exact E.n_State_room, (show 5 < 1000 by decide), ?_⟩
  have n1 := at_ne e1 e2 ins_lst
  have n2 := at_ne e1 e3 ins_lst
  have n3 := at_ne e1 e4 ins_lst
  rw [p1]
  refine g σ A2 _ q w x ⟨iv2.st.upd (.inl iv2.po) iv2.at_.np e1 (fun _ z => by cases z) (fun _ z => by cases z), ⟨⟨dx, v0, vq, vw, vx, upd_same, by rw [upd_ne n1.symm]; exact e2, by rw [upd_ne n2.symm]; exact e3, by rw [upd_ne n3.symm]; exact e4, d0, d1, d2, d3⟩, iv2.at_.np, iv2.at_.nq, iv2.at_.nw, iv2.at_.nx, iv2.at_.qw, iv2.at_.qx, iv2.at_.wx⟩, iv2.own, iv2.po⟩ ((sl.up s1).up s2 |> slsU iv2.at_.np e1 (n := nm))
/-- self.questions = [] -/
theorem ssi_newQ (E : Tp T K mg base) (hx : XF P w K mg base k N sc X) {p2 : Pos} (ho : EV X T H0 o Γ (pRef p))
    (hs : swapsWith (.List [] p2) (some (.Attribute o "questions" apos)) pos.line X.env = pure false := by rfl) (nm : (Γ.all fun y => !isMu y) = true := by rfl) : SSI X T K O A0 H0 p (.Assign [.Attribute o "questions" apos] (.List [] p2) pos) Γ s (.nx Γ { s with qs := [] }) := by
  intro σ A H q w x iv sl D g
  refine ofS (ps_fld canE (pe_lst pa_nil) hs) ⟨(show 0 ≤ sizeLine from Nat.zero_le _), fun l nl => ?_⟩
  have st := Stp.newM (.lst []) iv.st.wf nl
  refine ho σ A _ (sl.up st) st.wf _ fun u A2 H2 s2 p2 => ?_
  have p2 : u = .ref p := p2
  have iv3 := (iv.then st).then s2
  have eL : H2 l = some (.lst []) := s2.hh _ _ upd_same fun _ z => by cases z
  have nAl : A2 l = none := (s2.fr l (by rw [upd_same]; exact fun z => by cases z)).trans (sub_none iv.st.wf.ah nl)
  obtain ⟨_, _, _, _, _, f1, f2, f3, f4, _⟩ := iv.at_.ex
  obtain ⟨dx, v0, vq, vw, vx, e1, e2, e3, e4, d0, d1, d2, d3⟩ := iv3.at_.ex
  refine ⟨p, _, dx, _, p2, e1, by rw [hx.eK]; exact E.c_State, by rw [hx.eK]; exact E.n_State_questions, (show 5 < 1000 by decide), ?_⟩
  have n0 : H0 l = none := by
    cases z : H0 l with
    | none => rfl
    | some u => exact absurd nl (iv.st.nn l (by rw [z]; exact fun y => by cases y))
  refine g σ A2 _ l w x ⟨iv3.st.upd (.inl iv3.po) iv3.at_.np e1 (fun _ z => by cases z) (fun _ z => by cases z), ⟨⟨dx, v0, [], vw, vx, upd_same, by rw [upd_ne (at_ne e1 eL ins_lst).symm]; exact eL, by rw [upd_ne (at_ne e1 e3 ins_lst).symm]; exact e3, by rw [upd_ne (at_ne e1 e4 ins_lst).symm]; exact e4, d0, .nil, d2, d3⟩, iv3.at_.np, nAl, iv3.at_.nw, iv3.at_.nx, fun y => (by rw [y, f3] at nl; cases nl), fun y => (by rw [y, f4] at nl; cases nl), iv3.at_.wx⟩, fun b hb => ?_, iv3.po⟩ ((sl.up st).up s2 |> slsU iv3.at_.np e1 (n := nm))
  simp only [List.mem_cons, List.not_mem_nil, or_false] at hb
  rcases hb with rfl | rfl | rfl
  · exact .inr n0
  · exact iv3.own _ (by simp)
  · exact iv3.own _ (by simp)
/-- self.questions.append(e) -/
theorem ssi_appQ (E : Tp T K mg base) (hx : XF P w K mg base k N sc X) {y : VaidxBase.Question} {p1 p2 p3 : Pos} (ho : EV X T H0 o Γ (pRef p)) (h : EVS X T K H0 p s e Γ (pQ K y)) (hz : s.qs.length < sizeLine) (nm : (Γ.all fun y => !isMu y) = true := by rfl)
    (hb : attributeBase o "questions" X.env (eval o X.env) = eval o X.env := by rfl) (hs : starEach [e] X.env = (false, eval e X.env) :: starEach [] X.env := by rfl)
    (hsw : swapsWith (.Call (.Attribute (.Attribute o "questions" p1) "append" p2) [e] [] p3) none pos.line X.env = pure false := by rfl)
    (hfew : ((backTo p3 (starEach [e] X.env)).all (fun x => !x.1) && (backToKw p3 (keywordEach [] X.env)).all (fun x => x.1.isSome) && decide (([e] : List Expr).length + ([] : List Keyword).length + (if ([] : List Keyword).isEmpty then 0 else 1) < 30)) = true := by rfl)
    (hline : (p2.endLine == p3.line) = true := by rfl) (hba : attributeBase (.Attribute o "questions" p1) "append" X.env (eval (.Attribute o "questions" p1) X.env) = eval (.Attribute o "questions" p1) X.env := by rfl) :
    SSI X T K O A0 H0 p (.Expr (.Call (.Attribute (.Attribute o "questions" p1) "append" p2) [e] [] p3) pos) Γ s (.nx Γ { s with qs := s.qs ++ [y] }) := by
  intro σ A H q w x iv sl D g
  refine ofS (ps_expr (pe_bm PySem.F.plainAttrs_list PySem.F.slot_list_append PySem.F.type_list_append mt_append (pe_fld canE hb) (pa_cons canE pa_nil hs) hba hfew hline hs rfl) hsw) (ho σ A H sl iv.st.wf _ fun u A1 H1 s1 p1 => ?_)
  have p1 : u = .ref p := p1
  obtain ⟨dx, v0, vq, vw, vx, e1, e2, e3, e4, d0, d1, d2, d3⟩ := (iv.then s1).at_.ex
  refine ⟨p, _, dx, _, .ref q, p1, e1, by rw [hx.eK]; exact E.c_State, by rw [hx.eK]; exact E.n_State_questions, (lk_past (by decide +kernel)).trans lk_here, .inl ⟨rfl, _, SqL.of e2⟩, ?_⟩
  refine h σ A1 H1 q w x (sl.up s1) s1.wf (iv.then s1).at_ _ fun v A2 H2 s2 pv => ?_
  have iv3 := (iv.then s1).then s2
  obtain ⟨dx, v0, vq, vw, vx, e1, e2, e3, e4, d0, d1, d2, d3⟩ := iv3.at_.ex
  refine ⟨q, vq, v, rfl, rfl, e2, by rw [d1.len, List.length_map]; exact hz, ?_⟩
  refine g σ A2 _ q w x ⟨iv3.st.upd (iv3.own _ (by simp)) iv3.at_.nq e2 (fun _ z => by cases z) (fun _ z => by cases z), ⟨⟨dx, v0, (vq ++ [v]), vw, vx, by rw [upd_ne (at_ne e1 e2 ins_lst)]; exact e1, upd_same, by rw [upd_ne (Ne.symm iv3.at_.qw)]; exact e3, by rw [upd_ne (Ne.symm iv3.at_.qx)]; exact e4, d0, (by rw [List.map_append]; exact d1.app (.one pv)), d2, d3⟩, iv3.at_.np, iv3.at_.nq, iv3.at_.nw, iv3.at_.nx, iv3.at_.qw, iv3.at_.qx, iv3.at_.wx⟩, iv3.own, iv3.po⟩ ((sl.up s1).up s2 |> slsU iv3.at_.nq e2 (n := nm))
/-- self.wishes = [] -/
theorem ssi_newW (E : Tp T K mg base) (hx : XF P w K mg base k N sc X) {p2 : Pos} (ho : EV X T H0 o Γ (pRef p))
    (hs : swapsWith (.List [] p2) (some (.Attribute o "wishes" apos)) pos.line X.env = pure false := by rfl) (nm : (Γ.all fun y => !isMu y) = true := by rfl) : SSI X T K O A0 H0 p (.Assign [.Attribute o "wishes" apos] (.List [] p2) pos) Γ s (.nx Γ { s with ws := [] }) := by
  intro σ A H q w x iv sl D g
  refine ofS (ps_fld canE (pe_lst pa_nil) hs) ⟨(show 0 ≤ sizeLine from Nat.zero_le _), fun l nl => ?_⟩
  have st := Stp.newM (.lst []) iv.st.wf nl
  refine ho σ A _ (sl.up st) st.wf _ fun u A2 H2 s2 p2 => ?_
  have p2 : u = .ref p := p2
  have iv3 := (iv.then st).then s2
  have eL : H2 l = some (.lst []) := s2.hh _ _ upd_same fun _ z => by cases z
  have nAl : A2 l = none := (s2.fr l (by rw [upd_same]; exact fun z => by cases z)).trans (sub_none iv.st.wf.ah nl)
  obtain ⟨_, _, _, _, _, f1, f2, f3, f4, _⟩ := iv.at_.ex
  obtain ⟨dx, v0, vq, vw, vx, e1, e2, e3, e4, d0, d1, d2, d3⟩ := iv3.at_.ex
  refine ⟨p, _, dx, _, p2, e1, by rw [hx.eK]; exact E.c_State, by rw [hx.eK]; exact E.n_State_wishes, (show 5 < 1000 by decide), ?_⟩
  have n0 : H0 l = none := by
    cases z : H0 l with
    | none => rfl
    | some u => exact absurd nl (iv.st.nn l (by rw [z]; exact fun y => by cases y))
  refine g σ A2 _ q l x ⟨iv3.st.upd (.inl iv3.po) iv3.at_.np e1 (fun _ z => by cases z) (fun _ z => by cases z), ⟨⟨dx, v0, vq, [], vx, upd_same, by rw [upd_ne (at_ne e1 e2 ins_lst).symm]; exact e2, by rw [upd_ne (at_ne e1 eL ins_lst).symm]; exact eL, by rw [upd_ne (at_ne e1 e4 ins_lst).symm]; exact e4, d0, d1, .nil, d3⟩, iv3.at_.np, iv3.at_.nq, nAl, iv3.at_.nx, fun y => (by rw [← y, f2] at nl; cases nl), iv3.at_.qx, fun y => (by rw [y, f4] at nl; cases nl)⟩, fun b hb => ?_, iv3.po⟩ ((sl.up st).up s2 |> slsU iv3.at_.np e1 (n := nm))
  simp only [List.mem_cons, List.not_mem_nil, or_false] at hb
  rcases hb with rfl | rfl | rfl
  · exact iv3.own _ (by simp)
  · exact .inr n0
  · exact iv3.own _ (by simp)
/-- self.wishes.append(e) -/
theorem ssi_appW (E : Tp T K mg base) (hx : XF P w K mg base k N sc X) {y : Int} {p1 p2 p3 : Pos} (ho : EV X T H0 o Γ (pRef p)) (h : EVS X T K H0 p s e Γ (pI y)) (hz : s.ws.length < sizeLine) (nm : (Γ.all fun y => !isMu y) = true := by rfl)
    (hb : attributeBase o "wishes" X.env (eval o X.env) = eval o X.env := by rfl) (hs : starEach [e] X.env = (false, eval e X.env) :: starEach [] X.env := by rfl)
    (hsw : swapsWith (.Call (.Attribute (.Attribute o "wishes" p1) "append" p2) [e] [] p3) none pos.line X.env = pure false := by rfl)
    (hfew : ((backTo p3 (starEach [e] X.env)).all (fun x => !x.1) && (backToKw p3 (keywordEach [] X.env)).all (fun x => x.1.isSome) && decide (([e] : List Expr).length + ([] : List Keyword).length + (if ([] : List Keyword).isEmpty then 0 else 1) < 30)) = true := by rfl)
    (hline : (p2.endLine == p3.line) = true := by rfl) (hba : attributeBase (.Attribute o "wishes" p1) "append" X.env (eval (.Attribute o "wishes" p1) X.env) = eval (.Attribute o "wishes" p1) X.env := by rfl) :
    SSI X T K O A0 H0 p (.Expr (.Call (.Attribute (.Attribute o "wishes" p1) "append" p2) [e] [] p3) pos) Γ s (.nx Γ { s with ws := s.ws ++ [y] }) := by
  intro σ A H q w x iv sl D g
  refine ofS (ps_expr (pe_bm PySem.F.plainAttrs_list PySem.F.slot_list_append PySem.F.type_list_append mt_append (pe_fld canE hb) (pa_cons canE pa_nil hs) hba hfew hline hs rfl) hsw) (ho σ A H sl iv.st.wf _ fun u A1 H1 s1 p1 => ?_)
  have p1 : u = .ref p := p1
  obtain ⟨dx, v0, vq, vw, vx, e1, e2, e3, e4, d0, d1, d2, d3⟩ := (iv.then s1).at_.ex
  refine ⟨p, _, dx, _, .ref w, p1, e1, by rw [hx.eK]; exact E.c_State, by rw [hx.eK]; exact E.n_State_wishes, (lk_past (by decide +kernel)).trans ((lk_past (by decide +kernel)).trans lk_here), .inl ⟨rfl, _, SqL.of e3⟩, ?_⟩
  refine h σ A1 H1 q w x (sl.up s1) s1.wf (iv.then s1).at_ _ fun v A2 H2 s2 pv => ?_
  have iv3 := (iv.then s1).then s2
  obtain ⟨dx, v0, vq, vw, vx, e1, e2, e3, e4, d0, d1, d2, d3⟩ := iv3.at_.ex
  refine ⟨w, vw, v, rfl, rfl, e3, by rw [d2.len, List.length_map]; exact hz, ?_⟩
  refine g σ A2 _ q w x ⟨iv3.st.upd (iv3.own _ (by simp)) iv3.at_.nw e3 (fun _ z => by cases z) (fun _ z => by cases z), ⟨⟨dx, v0, vq, (vw ++ [v]), vx, by rw [upd_ne (at_ne e1 e3 ins_lst)]; exact e1, by rw [upd_ne iv3.at_.qw]; exact e2, upd_same, by rw [upd_ne (Ne.symm iv3.at_.wx)]; exact e4, d0, d1, (by rw [List.map_append]; exact d2.app (.one pv)), d3⟩, iv3.at_.np, iv3.at_.nq, iv3.at_.nw, iv3.at_.nx, iv3.at_.qw, iv3.at_.qx, iv3.at_.wx⟩, iv3.own, iv3.po⟩ ((sl.up s1).up s2 |> slsU iv3.at_.nw e3 (n := nm))
/-- self.indexes = [] -/
theorem ssi_newI (E : Tp T K mg base) (hx : XF P w K mg base k N sc X) {p2 : Pos} (ho : EV X T H0 o Γ (pRef p))
    (hs : swapsWith (.List [] p2) (some (.Attribute o "indexes" apos)) pos.line X.env = pure false := by rfl) (nm : (Γ.all fun y => !isMu y) = true := by rfl) : SSI X T K O A0 H0 p (.Assign [.Attribute o "indexes" apos] (.List [] p2) pos) Γ s (.nx Γ { s with os := [] }) := by
  intro σ A H q w x iv sl D g
  refine ofS (ps_fld canE (pe_lst pa_nil) hs) ⟨(show 0 ≤ sizeLine from Nat.zero_le _), fun l nl => ?_⟩
  have st := Stp.newM (.lst []) iv.st.wf nl
  refine ho σ A _ (sl.up st) st.wf _ fun u A2 H2 s2 p2 => ?_
  have p2 : u = .ref p := p2
  have iv3 := (iv.then st).then s2
  have eL : H2 l = some (.lst []) := s2.hh _ _ upd_same fun _ z => by cases z
  have nAl : A2 l = none := (s2.fr l (by rw [upd_same]; exact fun z => by cases z)).trans (sub_none iv.st.wf.ah nl)
  obtain ⟨_, _, _, _, _, f1, f2, f3, f4, _⟩ := iv.at_.ex
  obtain ⟨dx, v0, vq, vw, vx, e1, e2, e3, e4, d0, d1, d2, d3⟩ := iv3.at_.ex
  refine ⟨p, _, dx, _, p2, e1, by rw [hx.eK]; exact E.c_State, by rw [hx.eK]; exact E.n_State_indexes, (show 5 < 1000 by decide), ?_⟩
  have n0 : H0 l = none := by
    cases z : H0 l with
    | none => rfl
    | some u => exact absurd nl (iv.st.nn l (by rw [z]; exact fun y => by cases y))
  refine g σ A2 _ q w l ⟨iv3.st.upd (.inl iv3.po) iv3.at_.np e1 (fun _ z => by cases z) (fun _ z => by cases z), ⟨⟨dx, v0, vq, vw, [], upd_same, by rw [upd_ne (at_ne e1 e2 ins_lst).symm]; exact e2, by rw [upd_ne (at_ne e1 e3 ins_lst).symm]; exact e3, by rw [upd_ne (at_ne e1 eL ins_lst).symm]; exact eL, d0, d1, d2, .nil⟩, iv3.at_.np, iv3.at_.nq, iv3.at_.nw, nAl, iv3.at_.qw, fun y => (by rw [← y, f2] at nl; cases nl), fun y => (by rw [← y, f3] at nl; cases nl)⟩, fun b hb => ?_, iv3.po⟩ ((sl.up st).up s2 |> slsU iv3.at_.np e1 (n := nm))
  simp only [List.mem_cons, List.not_mem_nil, or_false] at hb
  rcases hb with rfl | rfl | rfl
  · exact iv3.own _ (by simp)
  · exact iv3.own _ (by simp)
  · exact .inr n0
/-- self.indexes.append(e) -/
theorem ssi_appI (E : Tp T K mg base) (hx : XF P w K mg base k N sc X) {y : Vaidxd.Offer} {p1 p2 p3 : Pos} (ho : EV X T H0 o Γ (pRef p)) (h : EVS X T K H0 p s e Γ (pX K y)) (hz : s.os.length < sizeLine) (nm : (Γ.all fun y => !isMu y) = true := by rfl)
    (hb : attributeBase o "indexes" X.env (eval o X.env) = eval o X.env := by rfl) (hs : starEach [e] X.env = (false, eval e X.env) :: starEach [] X.env := by rfl)
    (hsw : swapsWith (.Call (.Attribute (.Attribute o "indexes" p1) "append" p2) [e] [] p3) none pos.line X.env = pure false := by rfl)
    (hfew : ((backTo p3 (starEach [e] X.env)).all (fun x => !x.1) && (backToKw p3 (keywordEach [] X.env)).all (fun x => x.1.isSome) && decide (([e] : List Expr).length + ([] : List Keyword).length + (if ([] : List Keyword).isEmpty then 0 else 1) < 30)) = true := by rfl)
    (hline : (p2.endLine == p3.line) = true := by rfl) (hba : attributeBase (.Attribute o "indexes" p1) "append" X.env (eval (.Attribute o "indexes" p1) X.env) = eval (.Attribute o "indexes" p1) X.env := by rfl) :
    SSI X T K O A0 H0 p (.Expr (.Call (.Attribute (.Attribute o "indexes" p1) "append" p2) [e] [] p3) pos) Γ s (.nx Γ { s with os := s.os ++ [y] }) := by
  intro σ A H q w x iv sl D g
  refine ofS (ps_expr (pe_bm PySem.F.plainAttrs_list PySem.F.slot_list_append PySem.F.type_list_append mt_append (pe_fld canE hb) (pa_cons canE pa_nil hs) hba hfew hline hs rfl) hsw) (ho σ A H sl iv.st.wf _ fun u A1 H1 s1 p1 => ?_)
  have p1 : u = .ref p := p1
  obtain ⟨dx, v0, vq, vw, vx, e1, e2, e3, e4, d0, d1, d2, d3⟩ := (iv.then s1).at_.ex
  refine ⟨p, _, dx, _, .ref x, p1, e1, by rw [hx.eK]; exact E.c_State, by rw [hx.eK]; exact E.n_State_indexes, (lk_past (by decide +kernel)).trans ((lk_past (by decide +kernel)).trans ((lk_past (by decide +kernel)).trans lk_here)), .inl ⟨rfl, _, SqL.of e4⟩, ?_⟩
  refine h σ A1 H1 q w x (sl.up s1) s1.wf (iv.then s1).at_ _ fun v A2 H2 s2 pv => ?_
  have iv3 := (iv.then s1).then s2
  obtain ⟨dx, v0, vq, vw, vx, e1, e2, e3, e4, d0, d1, d2, d3⟩ := iv3.at_.ex
  refine ⟨x, vx, v, rfl, rfl, e4, by rw [d3.len, List.length_map]; exact hz, ?_⟩
  refine g σ A2 _ q w x ⟨iv3.st.upd (iv3.own _ (by simp)) iv3.at_.nx e4 (fun _ z => by cases z) (fun _ z => by cases z), ⟨⟨dx, v0, vq, vw, (vx ++ [v]), by rw [upd_ne (at_ne e1 e4 ins_lst)]; exact e1, by rw [upd_ne iv3.at_.qx]; exact e2, by rw [upd_ne iv3.at_.wx]; exact e3, upd_same, d0, d1, d2, (by rw [List.map_append]; exact d3.app (.one pv))⟩, iv3.at_.np, iv3.at_.nq, iv3.at_.nw, iv3.at_.nx, iv3.at_.qw, iv3.at_.qx, iv3.at_.wx⟩, iv3.own, iv3.po⟩ ((sl.up s1).up s2 |> slsU iv3.at_.nx e4 (n := nm))
/-- self.wishes[i] = e -/
theorem ssi_itemW (E : Tp T K mg base) (hx : XF P w K mg base k N sc X) {y : Int} {n : Nat} {p1 p2 : Pos} (ho : EV X T H0 o Γ (pRef p)) (h : EVS X T K H0 p s e Γ (pI y)) (hi : EV X T H0 idx Γ (pZ n)) (hn : n < s.ws.length) (nm : (Γ.all fun y => !isMu y) = true := by rfl)
    (hb : attributeBase o "wishes" X.env (eval o X.env) = eval o X.env := by rfl) (hs : swapsWithSole [.Subscript (.Attribute o "wishes" p1) idx p2] e pos.line X.env = pure false := by rfl) (hw : swappedStores [.Subscript (.Attribute o "wishes" p1) idx p2] e X.env = pure none := by rfl)
    (ha1 : (assignEach [.Subscript (.Attribute o "wishes" p1) idx p2] X.env).map (·.2) = [assign (.Subscript (.Attribute o "wishes" p1) idx p2) X.env] := by rfl)
    (ha : ∀ v, assign (.Subscript (.Attribute o "wishes" p1) idx p2) X.env v = (do
      let ov ← holding [v] (eval (.Attribute o "wishes" p1) X.env)
      let iv ← holding [v, ov] (eval idx X.env)
      standAt p2
      holding [v, ov, iv] (setItem ov iv v)
      release [v, ov, iv] []) := by intro _; rfl) :
    SSI X T K O A0 H0 p (.Assign [.Subscript (.Attribute o "wishes" p1) idx p2] e pos) Γ s (.nx Γ { s with ws := s.ws.set n y }) := by
  intro σ A H q w x iv sl D g
  refine ofS (ps_asg canE (pg_sub (pe_fld canE hb) canE set_list ha) hs hw ha1) (h σ A H q w x sl iv.st.wf iv.at_ _ fun v A1 H1 s1 pv => ho σ A1 H1 (sl.up s1) s1.wf _ fun u A2 H2 s2 p2 => ?_)
  have p2 : u = .ref p := p2
  have iv2 := (iv.then s1).then s2
  obtain ⟨dx, v0, vq, vw, vx, e1, e2, e3, e4, d0, d1, d2, d3⟩ := iv2.at_.ex
  refine ⟨p, _, dx, _, .ref w, p2, e1, by rw [hx.eK]; exact E.c_State, by rw [hx.eK]; exact E.n_State_wishes, (lk_past (by decide +kernel)).trans ((lk_past (by decide +kernel)).trans lk_here), ?_⟩
  refine hi σ A2 H2 ((sl.up s1).up s2) s2.wf _ fun j A3 H3 s3 pj => ?_
  have pj : j = .int (n : Int) := pj
  have iv3 := iv2.then s3
  obtain ⟨dx, v0, vq, vw, vx, e1, e2, e3, e4, d0, d1, d2, d3⟩ := iv3.at_.ex
  refine ⟨w, vw, (n : Int), n, rfl, pj, e3, ixN_nat (by rw [d2.len, List.length_map]; exact hn), ?_⟩
  refine g σ A3 _ q w x ⟨iv3.st.upd (iv3.own _ (by simp)) iv3.at_.nw e3 (fun _ z => by cases z) (fun _ z => by cases z), ⟨⟨dx, v0, vq, vw.set n v, vx, by rw [upd_ne (at_ne e1 e3 ins_lst)]; exact e1, by rw [upd_ne iv3.at_.qw]; exact e2, upd_same, by rw [upd_ne (Ne.symm iv3.at_.wx)]; exact e4, d0, d1, ?_, d3⟩, iv3.at_.np, iv3.at_.nq, iv3.at_.nw, iv3.at_.nx, iv3.at_.qw, iv3.at_.qx, iv3.at_.wx⟩, iv3.own, iv3.po⟩ (((sl.up s1).up s2).up s3 |> slsU iv3.at_.nw e3 (n := nm))
  show Vs A3 (vw.set n v) ((s.ws.set n y).map pI)
  rw [List.map_set]
  exact All2.set (R := fun (v : V) (P : Pm) => P.p A3 v) (show (pI y).p A3 v from pv) n d2
end
end IX
end

section
set_option Elab.async false
set_option linter.all false
set_option maxRecDepth 100000
set_option maxHeartbeats 2000000
/-! the object's methods -/
namespace IX
open PySem PySem.Spec PyProof.Rows L2
/-- what such a def promises: the object's new state, an answer -/
def ISp (T : List (Addr × Str)) (K : PySem.W.Frag) (S : MS → List Pm → MS → List Int → Prop) : Sp := fun vs H Q _ => ∃ A p q w x us ps s s' ans, vs = V.ref p :: us ∧ Wf T A H ∧ StAt K A H p q w x s ∧ Vs A us ps ∧ S s ps s' ans ∧
  ∀ v A' H' q' w' x', Iv T K [p, q, w, x] A H p A' H' q' w' x' s' → Ans A H [p, q, w, x] H' v ans → Q v H'
section
variable {P : Program} {w : World} {K : PySem.W.Frag} {mg : Str → Option Value} {base : Heap} {k : Nat} {N : List Str} {sc : Scope} {X : Cx} {T : List (Addr × Str)} {O : List Addr} {A0 H0 A H : Hp} {Γ Γ1 Γ2 : List Slot}
variable {a b c e o idx : Expr} {es : List Expr} {rest body orelse : List Stmt} {st : Stmt} {pos apos : Pos} {R R1 R2 : Pm} {ps qs : List Pm} {p : Addr} {s s' : MS} {ans : List Int} {S : MS → List Pm → MS → List Int → Prop}
theorem fnI_ok {f : Addr} {fd : FuncData} {x qual : Str} {params : Arguments} {ns : List Str} (F : FunD K x qual params body sc [] [] f fd) (Sc : FnScope N ns sc) (len : ∀ s ps s' ans, S s ps s' ans → ps.length + 1 = ns.length)
    (hb : ∀ (X : Cx) (O : List Addr) (A0 H0 : Hp) (p : Addr) (s : MS) (ps : List Pm) (s' : MS) (ans : List Int), XF P w K mg base k N sc X → (∀ x, X.fn x = true) → S s ps s' ans → STI X T K O A0 H0 p body (startG N (pRef p :: ps)) s (.rt ans s')) : FnOk P w K mg base CX0 (k + 1) f fd ns (ISp T K S) := by
  refine F.ok Sc (fun vs H Q E ⟨A, p, q, w, x, us, ps, s, s', ans, hvs, _, _, hv, hS, _⟩ => by rw [hvs, List.length_cons, hv.len]; exact len _ _ _ _ hS) (fun cdv A outer s1 H vs Q E hr ⟨A', p, q, w', x, us, ps, s, s', ans, hvs, wf, hst, hv, hS, k'⟩ => ?_)
  subst hvs
  have hx : XF P w K mg base k N sc (cxOf CX0 P w K mg base N qual sc f cdv A outer s1 H E).nox := ⟨rfl, rfl, rfl, rfl, rfl, rfl, rfl, rfl, rfl, hr, Sc.nd⟩
  refine ⟨_, PSs.nox canSs, ?_⟩
  refine hb _ [p, q, w', x] A' H p s ps s' ans hx (fun _ => rfl) hS _ A' H q w' x ⟨IStp.refl wf, hst, fun b hb => .inl (List.mem_cons_of_mem _ hb), List.mem_cons_self⟩ (sls_start (.cons (show (pRef p).p A' (.ref p) from rfl) hv)) _ ?_
  exact fun v A2 H2 q2 w2 x2 iv an => k' v A2 H2 q2 w2 x2 iv an
/-- a method that changes its object -/
structure MethI (P : Program) (w : World) (K : PySem.W.Frag) (mg : Str → Option Value) (base : Heap) (T : List (Addr × Str)) (k : Nat) (m : Str) (ns : List Str) (S : MS → List Pm → MS → List Int → Prop) : Prop where
  ex : ∃ f fd, Meth K (He.ga K "State") m f ∧ Binds K fd ns [] ∧ FnOk P w K mg base CX0 k f fd ns (ISp T K S)
structure DefI (P : Program) (w : World) (K : PySem.W.Frag) (mg : Str → Option Value) (base : Heap) (T : List (Addr × Str)) (k : Nat) (x : Str) (ns : List Str) (S : MS → List Pm → MS → List Int → Prop) : Prop where
  ex : ∃ f fd, mg x = some (.ref f) ∧ PySem.W.keepIn K (.ref f) = true ∧ Binds K fd ns [] ∧ FnOk P w K mg base CX0 k f fd ns (ISp T K S)
theorem methI_ok {x q : Str} {f : Addr} {params : Arguments} {ns : List Str} (hM : Meth K (He.ga K "State") x f) (F : ∃ fd, FunD K x q params body sc [] [] f fd) (Sc : FnScope N ns sc)
    (hbind : ∀ (kV doc pm : Value) (an : Option Addr) (cdv ct : Value) (us : List Value), us.length = ns.length → bindArgs (PySem.W.fnOf x q params body sc .none kV doc pm an cdv ct) ⟨us, []⟩ = pure (ns.zip us)) (len : ∀ s ps s' ans, S s ps s' ans → ps.length + 1 = ns.length)
    (hb : ∀ (X : Cx) (O : List Addr) (A0 H0 : Hp) (p : Addr) (s : MS) (ps : List Pm) (s' : MS) (ans : List Int), XF P w K mg base k N sc X → (∀ x, X.fn x = true) → S s ps s' ans → STI X T K O A0 H0 p body (startG N (pRef p :: ps)) s (.rt ans s')) : MethI P w K mg base T (k + 1) x ns S := by
  obtain ⟨fd, F⟩ := F
  exact ⟨f, fd, hM, F.bindsN hbind, fnI_ok F Sc len hb⟩
theorem defI_ok {x : Str} {params : Arguments} {ns : List Str} (hm : mg x = some (.ref (He.ga K x))) (F : ∃ fd, FunD K x x params body sc [] [] (He.ga K x) fd) (Sc : FnScope N ns sc)
    (hbind : ∀ (kV doc pm : Value) (an : Option Addr) (cdv ct : Value) (us : List Value), us.length = ns.length → bindArgs (PySem.W.fnOf x x params body sc .none kV doc pm an cdv ct) ⟨us, []⟩ = pure (ns.zip us)) (len : ∀ s ps s' ans, S s ps s' ans → ps.length + 1 = ns.length)
    (hb : ∀ (X : Cx) (O : List Addr) (A0 H0 : Hp) (p : Addr) (s : MS) (ps : List Pm) (s' : MS) (ans : List Int), XF P w K mg base k N sc X → (∀ x, X.fn x = true) → S s ps s' ans → STI X T K O A0 H0 p body (startG N (pRef p :: ps)) s (.rt ans s')) : DefI P w K mg base T (k + 1) x ns S := by
  obtain ⟨fd, F⟩ := F
  exact ⟨He.ga K x, fd, hm, F.kp, F.bindsN hbind, fnI_ok F Sc len hb⟩
theorem Iv.over {O : List Addr} {A0 H0 A H A1 H1 : Hp} {q w x q1 w1 x1 : Addr} (i : Iv T K O A0 H0 p A H q w x s) (j : Iv T K [p, q, w, x] A H p A1 H1 q1 w1 x1 s') : Iv T K O A0 H0 p A1 H1 q1 w1 x1 s' := by
  refine ⟨i.st.trans j.st i.mem, j.at_, fun b hb => ?_, i.po⟩
  rcases j.own b hb with z | z
  · exact i.mem b z
  · cases e : H0 b with
    | none => exact .inr rfl
    | some u => exact absurd z (i.st.nn b (by rw [e]; exact fun y => by cases y))
theorem Iv.overA {O : List Addr} {A0 H0 A H H1 : Hp} {q w x : Addr} {v : V} (i : Iv T K O A0 H0 p A H q w x s) (h : Ans A H [p, q, w, x] H1 v ans) : Ans A0 H0 O H1 v ans := by
  obtain ⟨a, e1, e2, e3⟩ := h
  exact ⟨a, e1, e2, fun b h1 h2 h3 => e3 b (i.st.nn b h1) (by rw [i.st.fr b h1, h2]) fun z => (i.mem b z).elim h3 h1⟩
/-- return o.m(..) -/
theorem ssi_retM {j : Nat} {m : Str} {ns : List Str} (E : Tp T K mg base) (hx : XF P w K mg base k N sc X) (F : MethI P w K mg base T j m ns S) (ho : EV X T H0 o Γ (pRef p)) (h : EVSs X T K H0 p s (e :: es) Γ ps) (hS : S s ps s' ans) (hj : j ≤ k := by decide)
    (l1 : (m == ("table" : Str)) = false := by decide +kernel) (l2 : (m == ("questions" : Str)) = false := by decide +kernel) (l3 : (m == ("wishes" : Str)) = false := by decide +kernel) (l4 : (m == ("indexes" : Str)) = false := by decide +kernel) (l5 : (m == ("room" : Str)) = false := by decide +kernel)
    (hst : starEach (e :: es) X.env = (false, eval e X.env) :: starEach es X.env := by rfl) (hpl : (backTo pos (starEach es X.env)).any (·.1) = false := by rfl) {pl : Sem Bool}
    (ht : eval (.Call (.Attribute o m apos) (e :: es) [] pos) X.env = (do
      let ov ← eval o X.env
      standAt apos.atName
      let (f, first) ← holding [ov] (getMethod ov m pl)
      callWith pos f first (backTo pos (starEach (e :: es) X.env)) (backToKw pos (keywordEach [] X.env))) := by rfl) {pos' : Pos} :
    SSI X T K O A0 H0 p (.Return (some (.Call (.Attribute o m apos) (e :: es) [] pos)) pos') Γ s (.rt ans s') := by
  intro σ A H q w' x iv sl D g
  obtain ⟨f, fd, hM, hb, hF⟩ := F.ex
  have hroom : Room j X.A := hx.room.mono hj
  obtain ⟨eP, ew, eK, em, eb, _⟩ := hx
  subst eP ew eK em eb
  refine ofS (ps_ret (pe_meth canE E.c_State hM hF hroom hb .nil pass0 canA hst hpl ht)) (ho σ A H sl iv.st.wf _ fun u A1 H1 s1 p1 => ?_)
  have p1 : u = .ref p := p1
  have iv1 := iv.then s1
  obtain ⟨dx, v0, vq, vw, vx, e1, _⟩ := iv1.at_.ex
  refine ⟨p, dx, _, p1, e1, (lk_past l1).trans ((lk_past l2).trans ((lk_past l3).trans ((lk_past l4).trans ((lk_past l5).trans rfl)))), h σ A1 H1 q w' x (sl.up s1) s1.wf iv1.at_ _ fun vs A2 H2 s2 p2 => ?_⟩
  have iv2 := iv1.then s2
  rw [List.append_nil]
  exact ⟨A2, p, q, w', x, vs, ps, s, s', ans, by rw [p1], iv2.st.wf, iv2.at_, p2, hS, fun v A' H' q' w'' x' jv an => g v A' H' q' w'' x' (iv2.over jv) (iv2.overA an)⟩
/-- return f(o, ..) -/
theorem ssi_retC {j : Nat} {f : Str} {ns : List Str} {fp : Pos} (hx : XF P w K mg base k N sc X) (F : DefI P w K mg base T j f ns S) (h : EVSs X T K H0 p s (e :: es) Γ (pRef p :: ps)) (hS : S s ps s' ans) (hj : j ≤ k := by decide) (hg : sc.names.lookup f = some .globalImplicit := by rfl) (hdb : (f == ("__debug__" : Str)) = false := by decide)
    (he : starEach (e :: es) X.env = (false, eval e X.env) :: starEach es X.env := by rfl) (hpl : (backTo pos (starEach es X.env)).any (·.1) = false := by rfl) {pos' : Pos} : SSI X T K O A0 H0 p (.Return (some (.Call (.Name f fp) (e :: es) [] pos)) pos') Γ s (.rt ans s') := by
  intro σ A H q w' x iv sl D g
  obtain ⟨fa, fd, hm, hk, hb, hF⟩ := F.ex
  have hg' := gl_of hx hg
  have hroom : Room j X.A := hx.room.mono hj
  obtain ⟨eP, ew, eK, em, eb, _⟩ := hx
  subst eP ew eK em eb
  refine ofS (ps_ret (pe_call hF hroom hg' hm hk hb .nil pass0 canA hdb he hpl)) (h σ A H q w' x sl iv.st.wf iv.at_ _ fun vs A1 H1 s1 p1 => ?_)
  have iv1 := iv.then s1
  cases p1 with
  | cons r t =>
    have r : _ = V.ref p := r
    rw [List.append_nil]
    exact ⟨A1, p, q, w', x, _, ps, s, s', ans, by rw [r], iv1.st.wf, iv1.at_, t, hS, fun v A' H' q' w'' x' jv an => g v A' H' q' w'' x' (iv1.over jv) (iv1.overA an)⟩
end
/-! ### what the methods do -/
def rowSum (t : VaidxBase.Table) : Nat := (t.groups.map fun g => g.count).sum
def takeTable (s : MS) (l : List Int) : MS × List Int := match tableOf l with
  | none => (s, [-1])
  | some t => (⟨some t, [], [], [], 0⟩, [(rowSum t : Int)])
def takeQ (t : VaidxBase.Table) (s : MS) (l : List Int) : MS × List Int := match questionOf l t.cols with
  | none => (s, [-1])
  | some q => if 6 ≤ s.qs.length then (s, [-6]) else ({ s with qs := s.qs ++ [q], ws := s.ws ++ [-1] }, [(s.qs.length : Int)])
def standM (t : VaidxBase.Table) (s : MS) (o : Vaidxd.Offer) : MS × List Int := if 8 ≤ s.os.length then (s, [-6]) else ({ s with os := s.os ++ [o] }, [(s.os.length : Int), (roomR t o.index : Int)])
def takeI (t : VaidxBase.Table) (s : MS) (u : Int) (l : List Int) : MS × List Int := if btw u 0 1000000000 = true then (match indexOf l t.cols u.toNat with
  | none => (s, [-1])
  | some o => standM t s o) else (s, [-3])
def takeR (s : MS) (r : Int) : MS × List Int := if btw r 0 1000000000 = true then ({ s with room := r.toNat }, [r]) else (s, [-3])
def takeW (s : MS) (n : Nat) (c : Int) : MS × List Int := if btw c (-1) 1000000000 = true then ({ s with ws := s.ws.set n c }, [0]) else (s, [-3])
def shAt (l : List Shape) (k : Nat) : Shape := (l[k]?).getD ([], [])
theorem shAt_get {l : List Shape} {k : Nat} (h : k < l.length) : l[k]? = some (shAt l k) := by
  unfold shAt
  rw [List.getElem?_eq_getElem h]
  rfl
def candO (s : Shape) (u : Nat) : Vaidxd.Offer := ⟨⟨s.1, s.2, none⟩, u⟩
def makeI (t : VaidxBase.Table) (s : MS) (n : Nat) (j u : Int) : MS × List Int := if btw u 0 1000000000 = true then
    (if btw j 0 ((shapesOf (qAt s n)).length - 1) = true then standM t s (candO (shAt (shapesOf (qAt s n)) j.toNat) u.toNat) else (s, [-4])) else (s, [-3])
/-! ### what is read stands within bounds -/
theorem cols_lt {l : List Int} {at_ w : Nat} {cs : List Nat} (h : colsAt l at_ w = some cs) : ∀ c ∈ cs, c < w := by
  unfold colsAt at h
  split at h
  · cases h
  split at h
  · cases h
  split at h
  · cases h
  rename_i h3
  split at h
  · cases h
  cases h
  intro c hc
  obtain ⟨x, hx, rfl⟩ := List.mem_map.mp hc
  have := btw_nonneg (List.all_eq_true.mp (Classical.not_not.mp h3) x hx)
  omega
theorem fils_lt {l : List Int} {at_ w : Nat} {cs : List VaidxBase.Filter} (h : filsAt l at_ w = some cs) : ∀ f ∈ cs, f.col < w := by
  unfold filsAt at h
  split at h
  · cases h
  split at h
  · cases h
  split at h
  · cases h
  rename_i h3
  split at h
  · cases h
  cases h
  intro f hf
  obtain ⟨x, hx, rfl⟩ := List.mem_map.mp hf
  have := List.all_eq_true.mp (Classical.not_not.mp h3) x hx
  unfold okF at this
  rw [Bool.and_eq_true] at this
  have := btw_nonneg this.1
  show x.1.toNat < w
  omega
theorem indexOf_ok {l : List Int} {w u : Nat} {o : Vaidxd.Offer} (hw : w ≤ 4) (hu : u ≤ 1000000000) (h : indexOf l w u = some o) : OkO w o := by
  unfold indexOf at h
  cases hks : colsAt l 0 w with
  | none => rw [hks] at h; cases h
  | some ks =>
    rw [hks] at h
    dsimp only at h
    split at h
    · cases h
    cases his : colsAt l (1 + ks.length) w with
    | none => rw [his] at h; cases h
    | some inc =>
      rw [his] at h
      dsimp only at h
      split at h
      · cases h
      cases hcs : filsAt l (1 + ks.length + 1 + inc.length) w with
      | none => rw [hcs] at h; cases h
      | some cs =>
        rw [hcs] at h
        dsimp only at h
        split at h
        · cases h
        split at h
        · cases h
        cases h
        have h1 := colsAt_len hks
        have h2 := colsAt_len his
        refine ⟨by show ks.length ≤ 100; omega, by show inc.length ≤ 100; omega, cols_lt hks, fun f hf => fils_lt hcs f ?_, hu⟩
        cases cs with
        | nil => cases hf
        | cons a r =>
          have hf' : f ∈ [a] := hf
          rw [List.mem_singleton.mp hf']
          exact List.mem_cons_self
theorem keysL_lt {q : VaidxBase.Question} {n : Nat} (hq : OkQ n q) (hn : 1 ≤ n) : ∀ k ∈ keysL q, ∀ c ∈ k, c < n := by
  have he : ∀ c ∈ Vaidxe.equals q, c < n := fun c hc => by
    unfold Vaidxe.equals at hc
    obtain ⟨f, hf, rfl⟩ := List.mem_map.mp hc
    exact hq.fc f (List.mem_filter.mp hf).1
  have ho : ∀ c ∈ without q.order (Vaidxe.equals q), c < n := fun c hc => hq.oc c (List.mem_filter.mp hc).1
  have hnd : ∀ c ∈ VaidxBase.needed q, c < n := fun c hc => by
    unfold VaidxBase.needed at hc
    rcases List.mem_append.mp hc with z | z
    · obtain ⟨f, hf, rfl⟩ := List.mem_map.mp z
      exact hq.fc f hf
    · rcases List.mem_append.mp z with z | z
      · exact hq.oc c z
      · exact hq.wc c z
  have hon : ∀ (l acc : List Nat), (∀ c ∈ l, c < n) → (∀ c ∈ acc, c < n) → ∀ c ∈ l.foldl onceF acc, c < n := by
    intro l
    induction l with
    | nil => intro acc _ h; exact h
    | cons a r ih =>
      intro acc hl h
      rw [List.foldl_cons]
      refine ih _ (fun c hc => hl c (List.mem_cons_of_mem _ hc)) ?_
      unfold onceF
      split
      · exact h
      · intro c hc
        rcases List.mem_append.mp hc with z | z
        · exact h c z
        · rw [List.mem_singleton.mp z]; exact hl a List.mem_cons_self
  have ho1 : ∀ c ∈ onceL (VaidxBase.needed q), c < n := hon _ [] hnd (fun c hc => by cases hc)
  intro k hk c hc
  unfold keysL at hk
  split at hk
  · rw [List.mem_singleton.mp hk] at hc
    unfold wantKeys at hc
    split at hc
    · exact he c hc
    · split at hc
      · rename_i h0
        rw [List.mem_singleton.mp hc]
        exact ho1 _ (natAt_mem h0)
      · rw [List.mem_singleton.mp hc]; omega
  · unfold keys2 keys1 at hk
    rcases List.mem_append.mp hk with z | z
    · split at z
      · rw [List.mem_singleton.mp z] at hc
        rcases List.mem_append.mp hc with y | y
        · exact he c y
        · exact ho c y
      · cases z
    · obtain ⟨f, hf, rfl⟩ := List.mem_map.mp z
      rcases List.mem_append.mp hc with y | y
      · exact he c y
      · rw [List.mem_singleton.mp y]
        exact hq.fc f (List.mem_filter.mp hf).1
theorem shapes_lt {q : VaidxBase.Question} {n : Nat} (hq : OkQ n q) (hn : 1 ≤ n) : ∀ s ∈ shapesOf q, ∀ c ∈ s.1, c < n := by
  have hk := keysL_lt hq hn
  have key : ∀ (l : List (List Nat)) (out : List Shape), (∀ k ∈ l, ∀ c ∈ k, c < n) → (∀ s ∈ out, ∀ c ∈ s.1, c < n) → ∀ s ∈ l.foldl (shapeStep (onceL (VaidxBase.needed q))) out, ∀ c ∈ s.1, c < n := by
    intro l
    induction l with
    | nil => intro out _ h; exact h
    | cons k r ih =>
      intro out hl h
      rw [List.foldl_cons]
      refine ih _ (fun k' hk' => hl k' (List.mem_cons_of_mem _ hk')) ?_
      have add : ∀ (o : List Shape) (s : Shape), (∀ s ∈ o, ∀ c ∈ s.1, c < n) → (∀ c ∈ s.1, c < n) → ∀ s' ∈ addS o s, ∀ c ∈ s'.1, c < n := by
        intro o s ho hs s' hs'
        unfold addS at hs'
        split at hs'
        · exact ho s' hs'
        · rcases List.mem_append.mp hs' with z | z
          · exact ho s' z
          · rw [List.mem_singleton.mp z]; exact hs
      unfold shapeStep
      exact add _ _ (add _ _ h (hl k List.mem_cons_self)) (hl k List.mem_cons_self)
  exact key _ _ hk (fun s hs => by cases hs)
theorem cand_ok {q : VaidxBase.Question} {n u : Nat} (hq : OkQ n q) (hn : 1 ≤ n) (hu : u ≤ 1000000000) {s : Shape} (h : s ∈ shapesOf q) : OkO n (candO s u) := by
  obtain ⟨h1, h2⟩ := shapes_item hq s h
  exact ⟨by show s.1.length ≤ 100; omega, by show s.2.length ≤ 100; omega, shapes_lt hq hn s h, fun f hf => (by cases hf), hu⟩
end IX
end

section
set_option Elab.async false
set_option linter.all false
set_option maxRecDepth 100000
set_option maxHeartbeats 2000000
namespace IX
open PySem PySem.Spec PyProof.Rows L2
section
variable {P : Program} {w : World} {K : PySem.W.Frag} {mg : Str → Option Value} {base : Heap} {T : List (Addr × Str)}
theorem evS_lst {X : Cx} {H0 : Hp} {p : Addr} {s : MS} {es : List Expr} {Γ : List Slot} {pos : Pos} {ps : List Pm} (h : EVSs X T K H0 p s es Γ ps) (hz : ps.length ≤ sizeLine := by exact Nat.le_of_ble_eq_true rfl) : EVS X T K H0 p s (.List es pos) Γ (pL ps) := by
  intro σ A H q w x sl wf hst Q k
  refine ofE (pe_lst canA) (h σ A H q w x sl wf hst _ fun vs A1 H1 s1 p1 => ⟨by rw [p1.len]; exact hz, fun l np => ?_⟩)
  have s3 := Stp.new (.lst vs) s1.wf np
  exact k _ _ _ (s1.trans s3) ⟨l, _, rfl, upd_same, p1.up s3.aa⟩
/-! ### take_table -/
def sTakeTable (s : MS) (ps : List Pm) (s' : MS) (ans : List Int) : Prop := ∃ l : List Int, l.length ≤ 1000 ∧ ps = [pIs l] ∧ s' = (takeTable s l).1 ∧ ans = (takeTable s l).2
theorem scTakeTable : FnScope ["self", "numbers", "table", "values", "rows"] ["self", "numbers"] (defScope (inClass (top 58) 1)) := ⟨rfl, rfl, rfl, by decide +kernel, rfl, by decide +kernel, by decide +kernel⟩
theorem tableOf_len {l : List Int} {t : VaidxBase.Table} (h : tableOf l = some t) : t.groups.length ≤ 12 := by
  unfold tableOf at h
  split at h
  · cases h
  split at h
  · cases h
  rename_i h2
  split at h
  · cases h
  dsimp only at h
  split at h
  · cases h
  split at h
  · cases h
  cases h
  rw [List.length_map, List.length_map, List.length_range]
  simp only [Bool.or_eq_true, Bool.not_eq_true', not_or, Bool.not_eq_false] at h2
  have := btw_nonneg h2.2
  omega
theorem ok_takeTable (E : Tp T K mg base) : MethI P w K mg base T 4 "take_table" ["self", "numbers"] sTakeTable := by
  refine methI_ok E.t_take_table E.d_State_take_table scTakeTable (fun _ _ _ _ _ _ us hl => match us, hl with | [_, _], _ => rfl) (fun s ps s' ans ⟨_, _, h, _⟩ => by rw [h]; rfl) ?_
  rintro X O A0 H0 p s ps s' ans hx hf ⟨l, hn, rfl, rfl, rfl⟩
  unfold takeTable
  refine sti_seq (ssi_set hx hf 2 (R := pOpt (pTab K) (tableOf l)) (EV.S (ev_call hx (ok_tableOf E) (evs_cons (ev_var hx 1) evs_nil) ⟨l, hn, rfl, rfl⟩))) ?_
  cases ht : tableOf l with
  | none => exact sti_ifr (EVT.S (evt_isN (S := pTab K) (x := none) (fun _ _ _ h => pO_ne h) (ev_var hx 2))) (fun _ => sti_last (ssi_ret (EV.S (ev_lst (evs_cons (ev_neg ev_int) evs_nil))))) fun z => by cases z
  | some t =>
  have hl := tableOf_len ht
  refine sti_ifr (EVT.S (evt_isN (S := pTab K) (x := some t) (fun _ _ _ h => pO_ne h) (ev_var hx 2))) (fun z => by cases z) fun _ => ?_
  refine sti_seq (ssi_fTable E hx (ot := some t) (ev_var hx 0) (EV.S (ev_var hx 2 (R := pOpt (pTab K) (some t))))) ?_
  refine sti_seq (ssi_newQ E hx (ev_var hx 0)) ?_
  refine sti_seq (ssi_newW E hx (ev_var hx 0)) ?_
  refine sti_seq (ssi_newI E hx (ev_var hx 0)) ?_
  refine sti_seq (ssi_fRoom E hx (r := 0) (ev_var hx 0) (EV.S ev_int)) ?_
  exact sti_last (ssi_ret (EV.S (ev_lst (evs_cons ((ev_sum (ns := zs (t.groups.map fun g => g.count)) hx E.b_sum ((ev_lc (R := pGrp) (S := fun g => pZ g.count) (xs := t.groups) hx [("values", 3), ("rows", 4)] (fun _ => true) (small_size (by omega)) (f_groups E hx (ev_var hx 2 (R := pTab K t)))
    (fun g hg => ⟨_, fun X' hx' => tg_tup2 hx' 3 4 (R1 := pZs g.row) (R2 := pZ g.count), fun X' hx' => .nil, fun _ X' hx' => ev_var hx' 4⟩)).eq ((congrArg pL (lcmap pZ (fun g : VaidxBase.Group => g.count) t.groups)).trans (pZs_ints _)))).eq (by rw [zs_sum]; rfl)) evs_nil))))
/-! ### take_question -/
def sTakeQ (s : MS) (ps : List Pm) (s' : MS) (ans : List Int) : Prop := ∃ (t : VaidxBase.Table) (l : List Int), OkM t s ∧ l.length ≤ 1000 ∧ ps = [pIs l] ∧ s' = (takeQ t s l).1 ∧ ans = (takeQ t s l).2
theorem scTakeQ : FnScope ["self", "numbers", "question"] ["self", "numbers"] (defScope (inClass (top 58) 2)) := ⟨rfl, rfl, rfl, by decide +kernel, rfl, by decide +kernel, by decide +kernel⟩
theorem ok_takeQ (E : Tp T K mg base) : MethI P w K mg base T 5 "take_question" ["self", "numbers"] sTakeQ := by
  refine methI_ok E.t_take_question E.d_State_take_question scTakeQ (fun _ _ _ _ _ _ us hl => match us, hl with | [_, _], _ => rfl) (fun s ps s' ans ⟨_, _, _, _, h, _⟩ => by rw [h]; rfl) ?_
  rintro X O A0 H0 p s ps s' ans hx hf ⟨t, l, hm, hn, rfl, rfl, rfl⟩
  have hql := hm.inn.ql
  have hwl := hm.wl
  unfold takeQ
  refine sti_seq (ssi_set hx hf 2 (R := pOpt (pQ K) (questionOf l t.cols)) (evS_call hx (ok_questionOf E) (evS_cons (EV.S (ev_var hx 1)) (evS_cons (EV.F (f_width E hx ((s_table E hx (ev_var hx 0 (R := pSt K s))).eq (R' := pTab K t) (by rw [hm.ht]; rfl))) pI_any) evS_nil)) ⟨l, t.cols, hn, hm.inn.ht.c4, rfl, rfl⟩)) ?_
  cases hq : questionOf l t.cols with
  | none => exact sti_ifr (EVT.S (evt_isN (S := pQ K) (x := none) (fun _ _ _ h => pO_ne h) (ev_var hx 2))) (fun _ => sti_last (ssi_ret (EV.S (ev_lst (evs_cons (ev_neg ev_int) evs_nil))))) fun z => by cases z
  | some q =>
  refine sti_ifr (EVT.S (evt_isN (S := pQ K) (x := some q) (fun _ _ _ h => pO_ne h) (ev_var hx 2))) (fun z => by cases z) fun _ => ?_
  dsimp only
  by_cases h6 : 6 ≤ s.qs.length
  · rw [if_pos h6]
    exact sti_ifr (t := true) (EVTS.eq (EVT.F (evt_ge (ev_len hx E.b_len (s_questions E hx (ev_var hx 0 (R := pSt K s)))) (ev_gint hx E.i_MOST_QUESTIONS))) (by rw [List.length_map]; exact decide_eq_true (by omega))) (fun _ => sti_last (ssi_ret (EV.S (ev_lst (evs_cons (ev_neg ev_int) evs_nil))))) fun z => by cases z
  · rw [if_neg h6]
    refine sti_ifr (t := false) (EVTS.eq (EVT.F (evt_ge (ev_len hx E.b_len (s_questions E hx (ev_var hx 0 (R := pSt K s)))) (ev_gint hx E.i_MOST_QUESTIONS))) (by rw [List.length_map]; exact decide_eq_false (by omega))) (fun z => by cases z) fun _ => ?_
    refine sti_seq (ssi_appQ E hx (y := q) (ev_var hx 0) (EV.S (ev_var hx 2 (R := pQ K q))) (small_lt (by omega))) ?_
    refine sti_seq (ssi_appW E hx (y := -1) (ev_var hx 0) (EV.S (ev_neg ev_int)) (small_lt (show s.ws.length ≤ 1000000 by omega))) ?_
    refine sti_last (ssi_ret (evS_lst (evS_cons (EVS.eq (EV.F (ev_sub (ev_len hx E.b_len (s_questions E hx (ev_var hx 0 (R := pSt K _)))) ev_int) pI_any) ?_) evS_nil)))
    show pI _ = pI _
    rw [List.length_map, List.length_append]
    congr 1
    show ((s.qs.length + 1 : Nat) : Int) - 1 = _
    omega
/-! ### stand_behind -/
def sStand (K : PySem.W.Frag) (s : MS) (ps : List Pm) (s' : MS) (ans : List Int) : Prop := ∃ (t : VaidxBase.Table) (o : Vaidxd.Offer), OkM t s ∧ OkO t.cols o ∧ ps = [pX K o] ∧ s' = (standM t s o).1 ∧ ans = (standM t s o).2
theorem scStand : FnScope ["self", "index"] ["self", "index"] (defScope (inClass (top 58) 4)) := ⟨rfl, rfl, rfl, by decide +kernel, rfl, by decide +kernel, by decide +kernel⟩
theorem ok_stand (E : Tp T K mg base) : MethI P w K mg base T 4 "stand_behind" ["self", "index"] (sStand K) := by
  refine methI_ok E.t_stand_behind E.d_State_stand_behind scStand (fun _ _ _ _ _ _ us hl => match us, hl with | [_, _], _ => rfl) (fun s ps s' ans ⟨_, _, _, _, h, _⟩ => by rw [h]; rfl) ?_
  rintro X O A0 H0 p s ps s' ans hx hf ⟨t, o, hm, ho, rfl, rfl, rfl⟩
  have hol := hm.inn.ol
  unfold standM
  by_cases h8 : 8 ≤ s.os.length
  · rw [if_pos h8]
    exact sti_ifr (t := true) (EVTS.eq (EVT.F (evt_ge (ev_len hx E.b_len (s_indexes E hx (ev_var hx 0 (R := pSt K s)))) (ev_gint hx E.i_MOST_INDEXES))) (by rw [List.length_map]; exact decide_eq_true (by omega))) (fun _ => sti_last (ssi_ret (EV.S (ev_lst (evs_cons (ev_neg ev_int) evs_nil))))) fun z => by cases z
  · rw [if_neg h8]
    refine sti_ifr (t := false) (EVTS.eq (EVT.F (evt_ge (ev_len hx E.b_len (s_indexes E hx (ev_var hx 0 (R := pSt K s)))) (ev_gint hx E.i_MOST_INDEXES))) (by rw [List.length_map]; exact decide_eq_false (by omega))) (fun z => by cases z) fun _ => ?_
    refine sti_seq (ssi_appI E hx (y := o) (ev_var hx 0) (EV.S (ev_var hx 1)) (small_lt (by omega))) ?_
    refine sti_last (ssi_ret (evS_lst (evS_cons (R := pI (s.os.length : Int)) (EVS.eq (EV.F (ev_sub (ev_len hx E.b_len (s_indexes E hx (ev_var hx 0 (R := pSt K _)))) ev_int) pI_any) ?_) (evS_cons (R := pI (roomR t o.index : Int)) (EV.F (ev_call hx (ok_room E) (evs_cons ((s_table E hx (ev_var hx 0 (R := pSt K { s with os := s.os ++ [o] }))).eq (R' := pTab K t) (by show pOpt (pTab K) s.table = _; rw [hm.ht]; rfl)) (evs_cons (ev_var hx 1) evs_nil)) ⟨t, o, hm.inn.ht, ho, rfl, rfl⟩) pI_any) evS_nil))))
    show pI _ = pI _
    rw [List.length_map, List.length_append]
    congr 1
    show ((s.os.length + 1 : Nat) : Int) - 1 = _
    omega
/-! ### take_index -/
def sTakeI (s : MS) (ps : List Pm) (s' : MS) (ans : List Int) : Prop := ∃ (t : VaidxBase.Table) (u : Int) (l : List Int), OkM t s ∧ l.length ≤ 1000 ∧ ps = [pI u, pIs l] ∧ s' = (takeI t s u l).1 ∧ ans = (takeI t s u l).2
theorem scTakeI : FnScope ["self", "upkeep", "numbers", "index"] ["self", "upkeep", "numbers"] (defScope (inClass (top 58) 3)) := ⟨rfl, rfl, rfl, by decide +kernel, rfl, by decide +kernel, by decide +kernel⟩
theorem ok_takeI (E : Tp T K mg base) : MethI P w K mg base T 5 "take_index" ["self", "upkeep", "numbers"] sTakeI := by
  refine methI_ok E.t_take_index E.d_State_take_index scTakeI (fun _ _ _ _ _ _ us hl => match us, hl with | [_, _, _], _ => rfl) (fun s ps s' ans ⟨_, _, _, _, _, h, _⟩ => by rw [h]; rfl) ?_
  rintro X O A0 H0 p s ps s' ans hx hf ⟨t, u, l, hm, hn, rfl, rfl, rfl⟩
  unfold takeI
  refine sti_ifr (t := !btw u 0 1000000000) (EVT.S (evt_not (evt_val (ev_call hx (ok_btw E) (evs_cons (ev_var hx 1) (evs_cons ev_int (evs_cons (ev_gint hx E.i_MOST) evs_nil))) ⟨u, 0, 1000000000, rfl, rfl⟩)))) (fun h => ?_) fun h => ?_
  · rw [if_neg (by simpa using h)]
    exact sti_last (ssi_ret (EV.S (ev_lst (evs_cons (ev_neg ev_int) evs_nil))))
  have hb : btw u 0 1000000000 = true := by simpa using h
  have hu := btw_nonneg hb
  rw [if_pos hb]
  refine sti_seq (ssi_set hx hf 3 (R := pOpt (pX K) (indexOf l t.cols u.toNat)) (evS_call hx (ok_indexOf E) (evS_cons (EV.S (ev_var hx 2)) (evS_cons (EV.F (f_width E hx ((s_table E hx (ev_var hx 0 (R := pSt K s))).eq (R' := pTab K t) (by rw [hm.ht]; rfl))) pI_any) (evS_cons (EV.S ((ev_var hx 1 (R := pI u)).eq (toNat_pI hu.1))) evS_nil))) ⟨l, t.cols, u.toNat, hn, hm.inn.ht.c4, rfl, rfl⟩)) ?_
  cases hi : indexOf l t.cols u.toNat with
  | none => exact sti_ifr (EVT.S (evt_isN (S := pX K) (x := none) (fun _ _ _ h => pO_ne h) (ev_var hx 3))) (fun _ => sti_last (ssi_ret (EV.S (ev_lst (evs_cons (ev_neg ev_int) evs_nil))))) fun z => by cases z
  | some o =>
  refine sti_ifr (EVT.S (evt_isN (S := pX K) (x := some o) (fun _ _ _ h => pO_ne h) (ev_var hx 3))) (fun z => by cases z) fun _ => ?_
  exact sti_last (ssi_retM E hx (ok_stand E) (ev_var hx 0) (evS_cons (EV.S (ev_var hx 3 (R := pX K o))) evS_nil) ⟨t, o, hm, indexOf_ok hm.inn.ht.c4 (by omega) hi, rfl, rfl, rfl⟩)
/-! ### take_room, take_wish -/
def sTakeR (s : MS) (ps : List Pm) (s' : MS) (ans : List Int) : Prop := ∃ r : Int, ps = [pI r] ∧ s' = (takeR s r).1 ∧ ans = (takeR s r).2
theorem scTakeR : FnScope ["self", "room"] ["self", "room"] (defScope (inClass (top 58) 5)) := ⟨rfl, rfl, rfl, by decide +kernel, rfl, by decide +kernel, by decide +kernel⟩
theorem ok_takeR (E : Tp T K mg base) : MethI P w K mg base T 2 "take_room" ["self", "room"] sTakeR := by
  refine methI_ok E.t_take_room E.d_State_take_room scTakeR (fun _ _ _ _ _ _ us hl => match us, hl with | [_, _], _ => rfl) (fun s ps s' ans ⟨_, h, _⟩ => by rw [h]; rfl) ?_
  rintro X O A0 H0 p s ps s' ans hx hf ⟨r, rfl, rfl, rfl⟩
  unfold takeR
  refine sti_ifr (t := !btw r 0 1000000000) (EVT.S (evt_not (evt_val (ev_call hx (ok_btw E) (evs_cons (ev_var hx 1) (evs_cons ev_int (evs_cons (ev_gint hx E.i_MOST) evs_nil))) ⟨r, 0, 1000000000, rfl, rfl⟩)))) (fun h => ?_) fun h => ?_
  · rw [if_neg (by simpa using h)]
    exact sti_last (ssi_ret (EV.S (ev_lst (evs_cons (ev_neg ev_int) evs_nil))))
  have hb : btw r 0 1000000000 = true := by simpa using h
  rw [if_pos hb]
  refine sti_seq (ssi_fRoom E hx (r := r.toNat) (ev_var hx 0) (EV.S ((ev_var hx 1 (R := pI r)).eq (toNat_pI (btw_nonneg hb).1)))) ?_
  exact sti_last (ssi_ret (EV.S (ev_lst (evs_cons (ev_var hx 1) evs_nil))))
def sTakeW (s : MS) (ps : List Pm) (s' : MS) (ans : List Int) : Prop := ∃ (n : Nat) (c : Int), n < s.ws.length ∧ ps = [pZ n, pI c] ∧ s' = (takeW s n c).1 ∧ ans = (takeW s n c).2
theorem scTakeW : FnScope ["self", "number", "cost"] ["self", "number", "cost"] (defScope (inClass (top 58) 6)) := ⟨rfl, rfl, rfl, by decide +kernel, rfl, by decide +kernel, by decide +kernel⟩
theorem ok_takeW (E : Tp T K mg base) : MethI P w K mg base T 2 "take_wish" ["self", "number", "cost"] sTakeW := by
  refine methI_ok E.t_take_wish E.d_State_take_wish scTakeW (fun _ _ _ _ _ _ us hl => match us, hl with | [_, _, _], _ => rfl) (fun s ps s' ans ⟨_, _, _, h, _⟩ => by rw [h]; rfl) ?_
  rintro X O A0 H0 p s ps s' ans hx hf ⟨n, c, hn, rfl, rfl, rfl⟩
  unfold takeW
  refine sti_ifr (t := !btw c (-1) 1000000000) (EVT.S (evt_not (evt_val (ev_call hx (ok_btw E) (evs_cons (ev_var hx 2) (evs_cons (ev_neg ev_int) (evs_cons (ev_gint hx E.i_MOST) evs_nil))) ⟨c, -1, 1000000000, rfl, rfl⟩)))) (fun h => ?_) fun h => ?_
  · rw [if_neg (by simpa using h)]
    exact sti_last (ssi_ret (EV.S (ev_lst (evs_cons (ev_neg ev_int) evs_nil))))
  have hb : btw c (-1) 1000000000 = true := by simpa using h
  rw [if_pos hb]
  refine sti_seq (ssi_itemW E hx (y := c) (n := n) (ev_var hx 0) (EV.S (ev_var hx 2)) (ev_var hx 1) hn) ?_
  exact sti_last (ssi_ret (EV.S (ev_lst (evs_cons ev_int evs_nil))))
/-! ### make_index -/
def sMakeI (s : MS) (ps : List Pm) (s' : MS) (ans : List Int) : Prop := ∃ (t : VaidxBase.Table) (n : Nat) (j u : Int), OkM t s ∧ n < s.qs.length ∧ ps = [pZ n, pI j, pI u] ∧ s' = (makeI t s n j u).1 ∧ ans = (makeI t s n j u).2
theorem scMakeI : FnScope ["self", "number", "candidate", "upkeep", "shapes"] ["self", "number", "candidate", "upkeep"] (defScope (inClass (top 58) 7)) := ⟨rfl, rfl, rfl, by decide +kernel, rfl, by decide +kernel, by decide +kernel⟩
theorem ok_makeI (E : Tp T K mg base) : MethI P w K mg base T 5 "make_index" ["self", "number", "candidate", "upkeep"] sMakeI := by
  refine methI_ok E.t_make_index E.d_State_make_index scMakeI (fun _ _ _ _ _ _ us hl => match us, hl with | [_, _, _, _], _ => rfl) (fun s ps s' ans ⟨_, _, _, _, _, _, h, _⟩ => by rw [h]; rfl) ?_
  rintro X O A0 H0 p s ps s' ans hx hf ⟨t, n, j, u, hm, hn, rfl, rfl, rfl⟩
  have hq := hm.inn.hq _ (List.mem_of_getElem? (qAt_get hn))
  unfold makeI
  refine sti_ifr (t := !btw u 0 1000000000) (EVT.S (evt_not (evt_val (ev_call hx (ok_btw E) (evs_cons (ev_var hx 3) (evs_cons ev_int (evs_cons (ev_gint hx E.i_MOST) evs_nil))) ⟨u, 0, 1000000000, rfl, rfl⟩)))) (fun h => ?_) fun h => ?_
  · rw [if_neg (by simpa using h)]
    exact sti_last (ssi_ret (EV.S (ev_lst (evs_cons (ev_neg ev_int) evs_nil))))
  have hb : btw u 0 1000000000 = true := by simpa using h
  have hu := btw_nonneg hb
  rw [if_pos hb]
  refine sti_seq (ssi_set hx hf 4 (R := pLs pSh (shapesOf (qAt s n))) (evS_call hx (ok_shapes E) (evS_cons (evS_q E hx (ev_var hx 0) (ev_var hx 1) (qAt_get hn)) evS_nil) ⟨_, _, hq, rfl, rfl⟩)) ?_
  refine sti_ifr (t := !btw j 0 ((shapesOf (qAt s n)).length - 1)) (EVT.S (evt_not (evt_val (ev_call hx (ok_btw E) (evs_cons (ev_var hx 2) (evs_cons ev_int (evs_cons (ev_sub ((ev_len hx E.b_len (ev_var hx 4 (R := pLs pSh (shapesOf (qAt s n))))).eq (by rw [List.length_map])) ev_int) evs_nil))) ⟨j, 0, _, rfl, rfl⟩)))) (fun h => ?_) fun h => ?_
  · rw [if_neg (by simpa using h)]
    exact sti_last (ssi_ret (EV.S (ev_lst (evs_cons (ev_neg ev_int) evs_nil))))
  have hbj : btw j 0 ((shapesOf (qAt s n)).length - 1) = true := by simpa using h
  have hj := btw_nonneg hbj
  rw [if_pos hbj]
  obtain ⟨jn, rfl⟩ : ∃ jn : Nat, j = (jn : Int) := ⟨j.toNat, by omega⟩
  rw [Int.toNat_natCast]
  have hjl : jn < (shapesOf (qAt s n)).length := by omega
  have hsm : shAt (shapesOf (qAt s n)) jn ∈ shapesOf (qAt s n) := List.mem_of_getElem? (shAt_get hjl)
  exact sti_last (ssi_retM E hx (ok_stand E) (ev_var hx 0) (evS_cons (EV.S (ev_call hx (ok_cand E) (evs_cons (ev_ixL (ev_var hx 4 (R := pLs pSh (shapesOf (qAt s n)))) (ev_var hx 2) (atI_map (R := pSh) (shAt_get hjl))) (evs_cons ((ev_var hx 3 (R := pI u)).eq (toNat_pI hu.1)) evs_nil)) ⟨_, u.toNat, rfl, rfl⟩)) evS_nil) ⟨t, candO (shAt (shapesOf (qAt s n)) jn) u.toNat, hm, cand_ok hq hm.inn.ht.c1 (by omega) hsm, rfl, rfl, rfl⟩)
end
end IX
end

section
set_option Elab.async false
set_option linter.all false
set_option maxRecDepth 100000
set_option maxHeartbeats 2000000
namespace IX
open PySem PySem.Spec PyProof.Rows L2
def aboutM (t : VaidxBase.Table) (s : MS) (c : Int) (parts : List Int) : MS × List Int :=
  if c = 4 then takeW s (wayAt parts 0).toNat (wayAt parts 1) else if c = 6 then (s, marginA t s (wayAt parts 0).toNat) else if c = 7 then (s, piecesA t s (wayAt parts 0).toNat) else if c = 10 then (s, possibleA t s (wayAt parts 0).toNat) else
  if c = 11 then (s, zs (candA (qAt s (wayAt parts 0).toNat))) else makeI t s (wayAt parts 0).toNat (wayAt parts 1) (wayAt parts 2)
def stepM (s : MS) (c : Int) (parts nums : List Int) : MS × List Int :=
  if c = 0 then takeTable s nums else match s.table with
  | none => (s, [-8])
  | some t => if c = 1 then takeQ t s nums else if c = 2 then takeI t s (wayAt parts 0) nums else if c = 3 then takeR s (wayAt parts 0) else if c = 5 then (s, leastA t s) else if c = 8 then (s, keptA t s) else if c = 9 then (s, pricesA t s) else
    if (decide (wayAt parts 0 < 0) || decide ((s.qs.length : Int) ≤ wayAt parts 0)) = true then (s, [-2]) else aboutM t s c parts
structure CallOk (c : Int) (parts nums : List Int) : Prop where
  nl : nums.length ≤ 1000
  p1 : c ≠ 0 → c ≠ 1 → c ≠ 5 → c ≠ 8 → c ≠ 9 → 1 ≤ parts.length
  p4 : c = 4 → 2 ≤ parts.length
  p12 : c ≠ 0 → c ≠ 1 → c ≠ 2 → c ≠ 3 → c ≠ 4 → c ≠ 5 → c ≠ 6 → c ≠ 7 → c ≠ 8 → c ≠ 9 → c ≠ 10 → c ≠ 11 → 3 ≤ parts.length
def InvM (s : MS) : Prop := ∀ t, s.table = some t → OkM t s
section
variable {P : Program} {w : World} {K : PySem.W.Frag} {mg : Str → Option Value} {base : Heap} {T : List (Addr × Str)}
def sAbout (s : MS) (ps : List Pm) (s' : MS) (ans : List Int) : Prop := ∃ (t : VaidxBase.Table) (c : Int) (parts : List Int), OkM t s ∧ 1 ≤ parts.length ∧ (c = 4 → 2 ≤ parts.length) ∧ (c ≠ 4 → c ≠ 6 → c ≠ 7 → c ≠ 10 → c ≠ 11 → 3 ≤ parts.length) ∧ 0 ≤ wayAt parts 0 ∧ wayAt parts 0 < (s.qs.length : Int) ∧
  ps = [pI c, pIs parts] ∧ s' = (aboutM t s c parts).1 ∧ ans = (aboutM t s c parts).2
theorem sc104 : FnScope ["state", "call", "parts", "number"] ["state", "call", "parts"] (defScope (top 104)) := ⟨rfl, rfl, rfl, by decide +kernel, rfl, by decide +kernel, by decide +kernel⟩
theorem ok_about (E : Tp T K mg base) : DefI P w K mg base T 11 "answer_about" ["state", "call", "parts"] sAbout := by
  refine defI_ok E.g_answer_about E.d_answer_about sc104 (fun _ _ _ _ _ _ us hl => match us, hl with | [_, _, _], _ => rfl) (fun s ps s' ans ⟨_, _, _, _, _, _, _, _, _, h, _⟩ => by rw [h]; rfl) ?_
  rintro X O A0 H0 p s ps s' ans hx hf ⟨t, c, parts, hm, h1, h2, h3, h4, h5, rfl, rfl, rfl⟩
  have hn : (wayAt parts 0).toNat < s.qs.length := by omega
  have hnw : (wayAt parts 0).toNat < s.ws.length := by rw [hm.wl]; exact hn
  unfold aboutM
  generalize hg : (wayAt parts 0).toNat = n at hn hnw
  have hpn : wayAt parts 0 = (n : Int) := by omega
  refine sti_seq (ssi_set hx hf 3 (R := pZ n) (EV.S ((ev_ixL (R := pI (wayAt parts 0)) (ev_var hx 2) ev_int (wayAt_atI (by omega) rfl)).eq (by rw [hpn])))) ?_
  refine sti_ifr (t := decide (c = 4)) (EVT.S (evt_eq (ev_var hx 1) (ev_gint hx E.i_WISH))) (fun h => ?_) fun h => ?_
  · have h := of_decide_eq_true h
    rw [if_pos h]
    exact sti_last (ssi_retM E hx (ok_takeW E) (ev_var hx 0) (evS_cons (EV.S (ev_var hx 3)) (evS_cons (EV.S (ev_ixL (R := pI (wayAt parts 1)) (ev_var hx 2) ev_int (wayAt_atI (h2 h) rfl))) evS_nil)) ⟨n, wayAt parts 1, hnw, rfl, rfl, rfl⟩)
  have c4 := of_decide_eq_false h
  rw [if_neg c4]
  refine sti_ifr (t := decide (c = 6)) (EVT.S (evt_eq (ev_var hx 1) (ev_gint hx E.i_MARGIN))) (fun h => ?_) fun h => ?_
  · rw [if_pos (of_decide_eq_true h)]
    exact sti_last (ssi_retF (ev_call hx (ok_tellMargin E) (evs_cons (ev_var hx 0) (evs_cons (ev_var hx 3) evs_nil)) ⟨t, s, n, hm, hn, rfl, rfl⟩))
  have c6 := of_decide_eq_false h
  rw [if_neg c6]
  refine sti_ifr (t := decide (c = 7)) (EVT.S (evt_eq (ev_var hx 1) (ev_gint hx E.i_PIECES))) (fun h => ?_) fun h => ?_
  · rw [if_pos (of_decide_eq_true h)]
    exact sti_last (ssi_retF (ev_call hx (ok_tellPieces E) (evs_cons (ev_var hx 0) (evs_cons (ev_var hx 3) evs_nil)) ⟨t, s, n, hm, hn, rfl, rfl⟩))
  have c7 := of_decide_eq_false h
  rw [if_neg c7]
  refine sti_ifr (t := decide (c = 10)) (EVT.S (evt_eq (ev_var hx 1) (ev_gint hx E.i_POSSIBLE))) (fun h => ?_) fun h => ?_
  · rw [if_pos (of_decide_eq_true h)]
    exact sti_last (ssi_retF (ev_call hx (ok_tellPossible E) (evs_cons (ev_var hx 0) (evs_cons (ev_var hx 3) evs_nil)) ⟨t, s, n, hm, hn, rfl, rfl⟩))
  have c10 := of_decide_eq_false h
  rw [if_neg c10]
  refine sti_ifr (t := decide (c = 11)) (EVT.S (evt_eq (ev_var hx 1) (ev_gint hx E.i_CANDIDATES))) (fun h => ?_) fun h => ?_
  · rw [if_pos (of_decide_eq_true h)]
    exact sti_last (ssi_retF (ev_call hx (ok_tellCands E) (evs_cons (ev_var hx 0) (evs_cons (ev_var hx 3) evs_nil)) ⟨t, s, n, hm, hn, rfl, rfl⟩))
  have c11 := of_decide_eq_false h
  rw [if_neg c11]
  have hl3 := h3 c4 c6 c7 c10 c11
  exact sti_last (ssi_retM E hx (ok_makeI E) (ev_var hx 0) (evS_cons (EV.S (ev_var hx 3)) (evS_cons (EV.S (ev_ixL (R := pI (wayAt parts 1)) (ev_var hx 2) ev_int (wayAt_atI (by omega) rfl))) (evS_cons (EV.S (ev_ixL (R := pI (wayAt parts 2)) (ev_var hx 2) ev_int (wayAt_atI (by omega) rfl))) evS_nil))) ⟨t, n, _, _, hm, hn, rfl, rfl, rfl⟩)
def sStep (s : MS) (ps : List Pm) (s' : MS) (ans : List Int) : Prop := ∃ (c : Int) (parts nums : List Int), InvM s ∧ CallOk c parts nums ∧ ps = [pI c, pIs parts, pIs nums] ∧ s' = (stepM s c parts nums).1 ∧ ans = (stepM s c parts nums).2
theorem sc103 : FnScope ["state", "call", "parts", "numbers"] ["state", "call", "parts", "numbers"] (defScope (top 103)) := ⟨rfl, rfl, rfl, by decide +kernel, rfl, by decide +kernel, by decide +kernel⟩
theorem ok_step (E : Tp T K mg base) : DefI P w K mg base T 12 "answer_of" ["state", "call", "parts", "numbers"] sStep := by
  refine defI_ok E.g_answer_of E.d_answer_of sc103 (fun _ _ _ _ _ _ us hl => match us, hl with | [_, _, _, _], _ => rfl) (fun s ps s' ans ⟨_, _, _, _, _, h, _⟩ => by rw [h]; rfl) ?_
  rintro X O A0 H0 p s ps s' ans hx hf ⟨c, parts, nums, hi, hc, rfl, rfl, rfl⟩
  unfold stepM
  refine sti_ifr (t := decide (c = 0)) (EVT.S (evt_eq (ev_var hx 1) (ev_gint hx E.i_TABLE))) (fun h => ?_) fun h => ?_
  · rw [if_pos (of_decide_eq_true h)]
    exact sti_last (ssi_retM E hx (ok_takeTable E) (ev_var hx 0) (evS_cons (EV.S (ev_var hx 3)) evS_nil) ⟨nums, hc.nl, rfl, rfl, rfl⟩)
  have c0 := of_decide_eq_false h
  rw [if_neg c0]
  cases ht : s.table with
  | none =>
    exact sti_ifr (t := true) (EVTS.eq (EVT.F (evt_isN (S := pTab K) (fun _ _ _ h => pO_ne h) (s_table E hx (ev_var hx 0 (R := pSt K s))))) (by rw [ht]; rfl)) (fun _ => sti_last (ssi_ret (EV.S (ev_lst (evs_cons (ev_neg ev_int) evs_nil))))) fun z => by cases z
  | some t =>
  have hm := hi t ht
  refine sti_ifr (t := false) (EVTS.eq (EVT.F (evt_isN (S := pTab K) (fun _ _ _ h => pO_ne h) (s_table E hx (ev_var hx 0 (R := pSt K s))))) (by rw [ht]; rfl)) (fun z => by cases z) fun _ => ?_
  dsimp only
  refine sti_ifr (t := decide (c = 1)) (EVT.S (evt_eq (ev_var hx 1) (ev_gint hx E.i_QUESTION))) (fun h => ?_) fun h => ?_
  · rw [if_pos (of_decide_eq_true h)]
    exact sti_last (ssi_retM E hx (ok_takeQ E) (ev_var hx 0) (evS_cons (EV.S (ev_var hx 3)) evS_nil) ⟨t, nums, hm, hc.nl, rfl, rfl, rfl⟩)
  have c1 := of_decide_eq_false h
  rw [if_neg c1]
  refine sti_ifr (t := decide (c = 2)) (EVT.S (evt_eq (ev_var hx 1) (ev_gint hx E.i_INDEX))) (fun h => ?_) fun h => ?_
  · have h := of_decide_eq_true h
    rw [if_pos h]
    have hp := hc.p1 (by omega) (by omega) (by omega) (by omega) (by omega)
    exact sti_last (ssi_retM E hx (ok_takeI E) (ev_var hx 0) (evS_cons (EV.S (ev_ixL (R := pI (wayAt parts 0)) (ev_var hx 2) ev_int (wayAt_atI (by omega) rfl))) (evS_cons (EV.S (ev_var hx 3)) evS_nil)) ⟨t, _, nums, hm, hc.nl, rfl, rfl, rfl⟩)
  have c2 := of_decide_eq_false h
  rw [if_neg c2]
  refine sti_ifr (t := decide (c = 3)) (EVT.S (evt_eq (ev_var hx 1) (ev_gint hx E.i_ROOM))) (fun h => ?_) fun h => ?_
  · have h := of_decide_eq_true h
    rw [if_pos h]
    have hp := hc.p1 (by omega) (by omega) (by omega) (by omega) (by omega)
    exact sti_last (ssi_retM E hx (ok_takeR E) (ev_var hx 0) (evS_cons (EV.S (ev_ixL (R := pI (wayAt parts 0)) (ev_var hx 2) ev_int (wayAt_atI (by omega) rfl))) evS_nil) ⟨_, rfl, rfl, rfl⟩)
  have c3 := of_decide_eq_false h
  rw [if_neg c3]
  refine sti_ifr (t := decide (c = 5)) (EVT.S (evt_eq (ev_var hx 1) (ev_gint hx E.i_LEAST))) (fun h => ?_) fun h => ?_
  · rw [if_pos (of_decide_eq_true h)]
    exact sti_last (ssi_retF (ev_call hx (ok_tellLeast E) (evs_cons (ev_var hx 0) evs_nil) ⟨t, s, hm, rfl, rfl⟩))
  have c5 := of_decide_eq_false h
  rw [if_neg c5]
  refine sti_ifr (t := decide (c = 8)) (EVT.S (evt_eq (ev_var hx 1) (ev_gint hx E.i_KEPT))) (fun h => ?_) fun h => ?_
  · rw [if_pos (of_decide_eq_true h)]
    exact sti_last (ssi_retF (ev_call hx (ok_tellKept E) (evs_cons (ev_var hx 0) evs_nil) ⟨t, s, hm, rfl, rfl⟩))
  have c8 := of_decide_eq_false h
  rw [if_neg c8]
  refine sti_ifr (t := decide (c = 9)) (EVT.S (evt_eq (ev_var hx 1) (ev_gint hx E.i_PRICES))) (fun h => ?_) fun h => ?_
  · rw [if_pos (of_decide_eq_true h)]
    exact sti_last (ssi_retF (ev_call hx (ok_tellPrices E) (evs_cons (ev_var hx 0) evs_nil) ⟨t, s, hm, rfl, rfl⟩))
  have c9 := of_decide_eq_false h
  rw [if_neg c9]
  have hp := hc.p1 c0 c1 c5 c8 c9
  refine sti_ifr (t := decide (wayAt parts 0 < 0) || decide ((s.qs.length : Int) ≤ wayAt parts 0)) (EVT.F (evt_or (evt_lt (ev_ixL (R := pI (wayAt parts 0)) (ev_var hx 2) ev_int (wayAt_atI (by omega) rfl)) ev_int) fun _ => evt_ge (ev_ixL (R := pI (wayAt parts 0)) (ev_var hx 2) ev_int (wayAt_atI (by omega) rfl)) ((ev_len hx E.b_len (s_questions E hx (ev_var hx 0 (R := pSt K s)))).eq (by rw [List.length_map])))) (fun h => ?_) fun h => ?_
  · rw [if_pos h]
    exact sti_last (ssi_ret (EV.S (ev_lst (evs_cons (ev_neg ev_int) evs_nil))))
  rw [if_neg (by rw [h]; decide)]
  simp only [Bool.or_eq_false_iff, decide_eq_false_iff_not] at h
  exact sti_last (ssi_retC hx (ok_about E) (evS_cons (EV.S (ev_var hx 0)) (evS_cons (EV.S (ev_var hx 1)) (evS_cons (EV.S (ev_var hx 2)) evS_nil))) ⟨t, c, parts, hm, hp, hc.p4, fun a4 a6 a7 a10 a11 => hc.p12 c0 c1 c2 c3 a4 c5 a6 a7 c8 c9 a10 a11, by omega, by omega, rfl, rfl, rfl⟩)
end
end IX
end

section
set_option Elab.async false
set_option linter.all false
set_option maxRecDepth 100000
set_option maxHeartbeats 2000000
namespace IX
open PySem PySem.Spec PyProof.Rows L2
/-! ### the list that is handed in -/
theorem sqL_sub {K : PySem.W.Frag} {A B : Hp} {a : Addr} {xs : List V} (h : Sub A B) (q : SqL K A a xs) : SqL K B a xs := by
  rcases q with (q | ⟨o, q⟩) | q
  · exact .inl (.inl (h _ _ q))
  · exact .inl (.inr ⟨o, h _ _ q⟩)
  · exact .inr q
def pF (K : PySem.W.Frag) (xs : List Int) : Pm := ⟨fun A v => ∃ a, v = .ref a ∧ SqL K A a (xs.map V.int), fun h ⟨a, e, q⟩ => ⟨a, e, sqL_sub h q⟩⟩
section
variable {P : Program} {w : World} {K : PySem.W.Frag} {mg : Str → Option Value} {base : Heap} {k : Nat} {N : List Str} {sc : Scope} {X : Cx} {T : List (Addr × Str)} {A0 H0 A H : Hp} {Γ Γ1 Γ2 : List Slot}
variable {a b c e o : Expr} {es : List Expr} {rest body orelse : List Stmt} {pos p apos : Pos} {R R1 R2 : Pm} {ps qs : List Pm} {xs : List Int}
theorem ev_lenF (hx : XF P w K mg base k N sc X) (hm : mg "len" = none) (h : EV X T H0 a Γ (pF K xs)) (hg : sc.names.lookup ("len" : Str) = some .globalImplicit := by rfl)
    (he : starEach [a] X.env = (false, eval a X.env) :: starEach [] X.env := by rfl) : EV X T H0 (.Call (.Name "len" p) [a] [] pos) Γ (pZ xs.length) := by
  refine ev_blt hx call_len_seq hm boot_len (evs_cons h evs_nil he) (fun vs A H wf q Q k => ?_) hg (by decide) (by decide) he rfl
  cases q with
  | cons q t =>
    cases t
    obtain ⟨l, rfl, h1⟩ := q
    refine ⟨l, _, rfl, .inl (by rw [hx.eK]; exact sqL_sub wf.ah h1), k _ A H (.refl wf) ?_⟩
    rw [List.length_map]
    rfl
theorem ev_ixF (hx : XF P w K mg base k N sc X) {j : Nat} (h : EV X T H0 e Γ (pF K xs)) (hi : EV X T H0 a Γ (pZ j)) (hj : j < xs.length) (hs : PlainIx a := by exact fun _ _ => rfl) : EV X T H0 (.Subscript e a pos) Γ (pI (wayAt xs j)) := by
  intro σ A H sl wf Q q
  refine ofE (pe_ix ix_list canE canE hs) (h σ A H sl wf _ fun v A1 H1 s1 p1 => hi σ A1 H1 (sl.up s1) s1.wf _ fun u A2 H2 s2 p2 => ?_)
  obtain ⟨x, rfl, h1⟩ := (pF K xs).up s2.aa p1
  exact ⟨x, _, (j : Int), .int (wayAt xs j), rfl, p2, by rw [hx.eK]; exact sqL_sub s2.wf.ah h1, atI_nat (by rw [List.getElem?_map, wayAt_get hj]; rfl), q _ A2 H2 (s1.trans s2) rfl⟩
theorem ev_sliceF (hx : XF P w K mg base k N sc X) {lo hi : Option Expr} {i j : Option Int} {p2 : Pos} (h : EV X T H0 e Γ (pF K xs)) (hl : EVO X T H0 Γ lo i) (hh : EVO X T H0 Γ hi j) : EV X T H0 (.Subscript e (.Slice lo hi none p2) pos) Γ (pL (cutP (xs.map pI) i j)) := by
  obtain ⟨t1, r1, q1⟩ := hl.run
  obtain ⟨t2, r2, q2⟩ := hh.run
  intro σ A H sl wf Q q
  refine ofE (pe_slice sl_list canE r1 r2) (h σ A H sl wf _ fun v A1 H1 s1 p1 => q1 σ A1 H1 (sl.up s1) s1.wf _ fun A2 H2 s2 => q2 σ A2 H2 (sl.up (s1.trans s2)) s2.wf _ fun A3 H3 s3 => ?_)
  obtain ⟨x, rfl, h1⟩ := (pF K xs).up (s2.trans s3).aa p1
  refine ⟨x, _, rfl, by rw [hx.eK]; exact sqL_sub s3.wf.ah h1, fun p np => ?_⟩
  have s4 := Stp.new (.lst (cutV (xs.map V.int) i j)) s3.wf np
  exact q _ _ _ (((s1.trans s2).trans s3).trans s4) ⟨p, _, rfl, upd_same, cut_all2 (ints_vs xs)⟩
def plainN (c : Nat) : Nat := match c with
  | 2 => 1
  | 3 => 1
  | 4 => 2
  | 6 => 1
  | 7 => 1
  | 10 => 1
  | 11 => 1
  | 12 => 3
  | _ => 0
theorem plain_at (K : PySem.W.Frag) : ∀ n, n < 13 → (plain.map (He.Dv.v K))[n]? = some (V.int (plainN n : Int))
  | 0, _ => rfl
  | 1, _ => rfl
  | 2, _ => rfl
  | 3, _ => rfl
  | 4, _ => rfl
  | 5, _ => rfl
  | 6, _ => rfl
  | 7, _ => rfl
  | 8, _ => rfl
  | 9, _ => rfl
  | 10, _ => rfl
  | 11, _ => rfl
  | 12, _ => rfl
  | n + 13, h => absurd h (by omega)
/-- PLAIN[c] -/
theorem ev_plain (E : Tp T K mg base) (hx : XF P w K mg base k N sc X) {n : Nat} (hi : EV X T H0 a Γ (pZ n)) (hn : n < 13) (hg : sc.names.lookup ("PLAIN" : Str) = some .globalImplicit := by rfl) (hs : PlainIx a := by exact fun _ _ => rfl) : EV X T H0 (.Subscript (.Name "PLAIN" p) a pos) Γ (pZ (plainN n)) := by
  intro σ A H sl wf Q q
  refine ofE (pe_ix ix_tup (pe_glob (v := .ref (He.ga K "PLAIN")) (gl_of hx hg) (by rw [hx.em]; exact E.g_PLAIN) rfl (by decide)) canE hs) (hi σ A H sl wf _ fun u A1 H1 s1 p1 => ?_)
  exact ⟨He.ga K "PLAIN", plain.map (He.Dv.v K), (n : Int), .int (plainN n : Int), rfl, p1, by rw [hx.eK]; exact He.tupB_ok E.ex H1, atI_nat (plain_at K n hn), q _ A1 H1 s1 rfl⟩
end
/-! ### State() -/
def ms0 : MS := ⟨none, [], [], [], 0⟩
def spInit (T : List (Addr × Str)) (K : PySem.W.Frag) : Sp := fun vs H Q _ => ∃ p dx A, vs = [V.ref p] ∧ H p = some (.ins (He.ga K "State") dx []) ∧ A p = none ∧ Wf T A H ∧
  ∀ H' q w x, IStp T [p] A H A H' → StAt K A H' p q w x ms0 → H q = none → H w = none → H x = none → Q .non H'
section
variable {P : Program} {w : World} {K : PySem.W.Frag} {mg : Str → Option Value} {base : Heap} {T : List (Addr × Str)}
theorem scInit : FnScope ["self"] ["self"] (defScope (inClass (top 58) 0)) := ⟨rfl, rfl, rfl, by decide +kernel, rfl, by decide +kernel, by decide +kernel⟩
theorem mk_State (E : Tp T K mg base) : ∃ fd, Binds K fd ["self"] [] ∧ FnOk P w K mg base CX0 1 (He.ma K (He.ga K "State") "__init__") fd ["self"] (spInit T K) := by
  obtain ⟨fd, F⟩ := E.d_State___init__
  refine ⟨fd, F.bindsN (fun _ _ _ _ _ _ us hl => match us, hl with | [_], _ => rfl), F.ok scInit (fun vs H Q E ⟨p, dx, A, h, _⟩ => by rw [h]; rfl) ?_⟩
  rintro cdv Ar outer s1 H vs Q E' hr ⟨p, dx, A, rfl, hp, nA, wf, k⟩
  have slf : ∀ {X : Cx} {ps : Pos}, X.N = ([("self" : Str)] : List Str) → X.env.scope = defScope (inClass (top 58) 0) → PE X (.Name "self" ps) (tVar 0) := fun {X ps} h1 h2 => pe_var (i := 0) (by rw [h1]; rfl) (by rw [h2]; exact Or.inl rfl)
  refine ⟨_, PSs.nox (pss_cons (ps_fld (slf rfl rfl) pe_non rfl) (pss_cons (ps_fld (slf rfl rfl) (pe_lst pa_nil) rfl) (pss_cons (ps_fld (slf rfl rfl) (pe_lst pa_nil) rfl) (pss_cons (ps_fld (slf rfl rfl) (pe_lst pa_nil) rfl) (pss_one (ps_fld (slf rfl rfl) pe_int rfl)))))), ?_⟩
  have i0 : IStp T [p] A H A H := IStp.refl wf
  refine ⟨_, rfl, p, _, dx, [], rfl, hp, E.c_State, E.n_State_table, by decide, ?_⟩
  have i1 := i0.upd (o' := .ins (He.ga K "State") dx (putF "table" .non [])) (.inl List.mem_cons_self) nA hp (fun _ z => by cases z) (fun _ z => by cases z)
  have e1 : L2.upd H p (.ins (He.ga K "State") dx (putF "table" .non [])) p = some (.ins (He.ga K "State") dx [("table", .non)]) := upd_same
  generalize L2.upd H p (.ins (He.ga K "State") dx (putF "table" .non [])) = H1 at i1 e1
  refine ⟨(show 0 ≤ sizeLine from Nat.zero_le _), fun q nq => ?_⟩
  have i2 := i1.then (Stp.newM (.lst []) i1.wf nq)
  have q2 : L2.upd H1 q (.lst []) q = some (.lst []) := upd_same
  have e2 : L2.upd H1 q (.lst []) p = some (.ins (He.ga K "State") dx [("table", .non)]) := by rw [upd_ne (ne_of_none e1 nq)]; exact e1
  have nAq : A q = none := sub_none i1.wf.ah nq
  have nHq : H q = none := by
    cases z : H q with
    | none => rfl
    | some u => exact absurd nq (i1.nn q (by rw [z]; exact fun y => by cases y))
  generalize L2.upd H1 q (.lst []) = H2 at i2 q2 e2
  refine ⟨_, rfl, p, _, dx, _, rfl, e2, E.c_State, E.n_State_questions, (show 1 < 1000 by decide), ?_⟩
  have i3 := i2.upd (o' := .ins (He.ga K "State") dx (putF "questions" (.ref q) [("table", .non)])) (.inl List.mem_cons_self) nA e2 (fun _ z => by cases z) (fun _ z => by cases z)
  have e3 : L2.upd H2 p (.ins (He.ga K "State") dx (putF "questions" (.ref q) [("table", .non)])) p = some (.ins (He.ga K "State") dx [("table", .non), ("questions", .ref q)]) := upd_same
  have pq := at_ne e2 q2 ins_lst
  have q3 : L2.upd H2 p (.ins (He.ga K "State") dx (putF "questions" (.ref q) [("table", .non)])) q = some (.lst []) := by rw [upd_ne pq.symm]; exact q2
  generalize L2.upd H2 p (.ins (He.ga K "State") dx (putF "questions" (.ref q) [("table", .non)])) = H3 at i3 e3 q3
  refine ⟨(show 0 ≤ sizeLine from Nat.zero_le _), fun w' nw => ?_⟩
  have i4 := i3.then (Stp.newM (.lst []) i3.wf nw)
  have w4 : L2.upd H3 w' (.lst []) w' = some (.lst []) := upd_same
  have e4 : L2.upd H3 w' (.lst []) p = some (.ins (He.ga K "State") dx [("table", .non), ("questions", .ref q)]) := by rw [upd_ne (ne_of_none e3 nw)]; exact e3
  have q4 : L2.upd H3 w' (.lst []) q = some (.lst []) := by rw [upd_ne (ne_of_none q3 nw)]; exact q3
  have qw : q ≠ w' := ne_of_none q3 nw
  have nAw : A w' = none := sub_none i3.wf.ah nw
  have nHw : H w' = none := by
    cases z : H w' with
    | none => rfl
    | some u => exact absurd nw (i3.nn w' (by rw [z]; exact fun y => by cases y))
  generalize L2.upd H3 w' (.lst []) = H4 at i4 w4 e4 q4
  refine ⟨_, rfl, p, _, dx, _, rfl, e4, E.c_State, E.n_State_wishes, (show 2 < 1000 by decide), ?_⟩
  have i5 := i4.upd (o' := .ins (He.ga K "State") dx (putF "wishes" (.ref w') [("table", .non), ("questions", .ref q)])) (.inl List.mem_cons_self) nA e4 (fun _ z => by cases z) (fun _ z => by cases z)
  have e5 : L2.upd H4 p (.ins (He.ga K "State") dx (putF "wishes" (.ref w') [("table", .non), ("questions", .ref q)])) p = some (.ins (He.ga K "State") dx [("table", .non), ("questions", .ref q), ("wishes", .ref w')]) := upd_same
  have pw := at_ne e4 w4 ins_lst
  have q5 : L2.upd H4 p (.ins (He.ga K "State") dx (putF "wishes" (.ref w') [("table", .non), ("questions", .ref q)])) q = some (.lst []) := by rw [upd_ne pq.symm]; exact q4
  have w5 : L2.upd H4 p (.ins (He.ga K "State") dx (putF "wishes" (.ref w') [("table", .non), ("questions", .ref q)])) w' = some (.lst []) := by rw [upd_ne pw.symm]; exact w4
  generalize L2.upd H4 p (.ins (He.ga K "State") dx (putF "wishes" (.ref w') [("table", .non), ("questions", .ref q)])) = H5 at i5 e5 q5 w5
  refine ⟨(show 0 ≤ sizeLine from Nat.zero_le _), fun x nx => ?_⟩
  have i6 := i5.then (Stp.newM (.lst []) i5.wf nx)
  have x6 : L2.upd H5 x (.lst []) x = some (.lst []) := upd_same
  have e6 : L2.upd H5 x (.lst []) p = some (.ins (He.ga K "State") dx [("table", .non), ("questions", .ref q), ("wishes", .ref w')]) := by rw [upd_ne (ne_of_none e5 nx)]; exact e5
  have q6 : L2.upd H5 x (.lst []) q = some (.lst []) := by rw [upd_ne (ne_of_none q5 nx)]; exact q5
  have w6 : L2.upd H5 x (.lst []) w' = some (.lst []) := by rw [upd_ne (ne_of_none w5 nx)]; exact w5
  have qx : q ≠ x := ne_of_none q5 nx
  have wx : w' ≠ x := ne_of_none w5 nx
  have nAx : A x = none := sub_none i5.wf.ah nx
  have nHx : H x = none := by
    cases z : H x with
    | none => rfl
    | some u => exact absurd nx (i5.nn x (by rw [z]; exact fun y => by cases y))
  generalize L2.upd H5 x (.lst []) = H6 at i6 x6 e6 q6 w6
  refine ⟨_, rfl, p, _, dx, _, rfl, e6, E.c_State, E.n_State_indexes, (show 3 < 1000 by decide), ?_⟩
  have i7 := i6.upd (o' := .ins (He.ga K "State") dx (putF "indexes" (.ref x) [("table", .non), ("questions", .ref q), ("wishes", .ref w')])) (.inl List.mem_cons_self) nA e6 (fun _ z => by cases z) (fun _ z => by cases z)
  have e7 : L2.upd H6 p (.ins (He.ga K "State") dx (putF "indexes" (.ref x) [("table", .non), ("questions", .ref q), ("wishes", .ref w')])) p = some (.ins (He.ga K "State") dx [("table", .non), ("questions", .ref q), ("wishes", .ref w'), ("indexes", .ref x)]) := upd_same
  have px := at_ne e6 x6 ins_lst
  have q7 : L2.upd H6 p (.ins (He.ga K "State") dx (putF "indexes" (.ref x) [("table", .non), ("questions", .ref q), ("wishes", .ref w')])) q = some (.lst []) := by rw [upd_ne pq.symm]; exact q6
  have w7 : L2.upd H6 p (.ins (He.ga K "State") dx (putF "indexes" (.ref x) [("table", .non), ("questions", .ref q), ("wishes", .ref w')])) w' = some (.lst []) := by rw [upd_ne pw.symm]; exact w6
  have x7 : L2.upd H6 p (.ins (He.ga K "State") dx (putF "indexes" (.ref x) [("table", .non), ("questions", .ref q), ("wishes", .ref w')])) x = some (.lst []) := by rw [upd_ne px.symm]; exact x6
  generalize L2.upd H6 p (.ins (He.ga K "State") dx (putF "indexes" (.ref x) [("table", .non), ("questions", .ref q), ("wishes", .ref w')])) = H7 at i7 e7 q7 w7 x7
  refine ⟨_, rfl, p, _, dx, _, rfl, e7, E.c_State, E.n_State_room, (show 4 < 1000 by decide), ?_⟩
  have i8 := i7.upd (o' := .ins (He.ga K "State") dx (putF "room" (.int 0) [("table", .non), ("questions", .ref q), ("wishes", .ref w'), ("indexes", .ref x)])) (.inl List.mem_cons_self) nA e7 (fun _ z => by cases z) (fun _ z => by cases z)
  refine k _ q w' x i8 ⟨⟨dx, .non, [], [], [], upd_same, by rw [upd_ne pq.symm]; exact q7, by rw [upd_ne pw.symm]; exact w7, by rw [upd_ne px.symm]; exact x7, rfl, .nil, .nil, .nil⟩, nA, nAq, nAw, nAx, qw, qx, wx⟩ nHq nHw nHx
end
end IX
end

section
set_option Elab.async false
set_option linter.all false
set_option maxRecDepth 100000
set_option maxHeartbeats 4000000
namespace IX
open PySem PySem.Spec PyProof.Rows L2
local macro_rules | `(tactic| walk_at "fg") => `(tactic| repeat (first | exact All2.nil | exact Fg.refl _ | refine All2.cons (by first | exact Or.inl rfl | exact Or.inr rfl) ?_))
/-! ### the calls that lie in the list -/
abbrev CallD := Int × List Int × List Int
/-- from this place on the list has these calls -/
inductive Fits (l : List Int) : Nat → List CallD → Prop
  | done : Fits l l.length []
  | row {a c k : Nat} {cs : List CallD} : a < l.length → wayAt l a = (c : Int) → c ≤ 2 → a + 1 + plainN c < l.length → wayAt l (a + 1 + plainN c) = (k : Int) → a + 1 + plainN c + 1 + k ≤ l.length → k ≤ 1000 → Fits l (a + 1 + plainN c + 1 + k) cs →
      Fits l a (((c : Int), (l.drop (a + 1)).take (plainN c), (l.drop (a + 1 + plainN c + 1)).take k) :: cs)
  | flat {a c : Nat} {cs : List CallD} : a < l.length → wayAt l a = (c : Int) → 2 < c → c ≤ 12 → a + 1 + plainN c ≤ l.length → Fits l (a + 1 + plainN c) cs → Fits l a (((c : Int), (l.drop (a + 1)).take (plainN c), []) :: cs)
def toldM (s : MS) : List CallD → List Int
  | [] => []
  | x :: r => ((stepM s x.1 x.2.1 x.2.2).2.length : Int) :: ((stepM s x.1 x.2.1 x.2.2).2 ++ toldM (stepM s x.1 x.2.1 x.2.2).1 r)
/-- the object keeps its promise call by call -/
def Keeps : MS → List CallD → Prop
  | _, [] => True
  | s, x :: r => InvM s ∧ CallOk x.1 x.2.1 x.2.2 ∧ Keeps (stepM s x.1 x.2.1 x.2.2).1 r
section
variable {T : List (Addr × Str)} {K : PySem.W.Frag} {A0 H0 A H A1 H1 n n' : Hp} {σ : L2.St} {Γ : List Slot}
def noMu (Γ : List Slot) : Bool := Γ.all fun y => !isMu y
theorem sls_any (h : noMu Γ = true) (u : Sub A A1) (sl : Sls n A H σ Γ) : Sls n' A1 H1 σ Γ := by
  induction sl with
  | nil => exact .nil
  | @cons a b as bs r t ih =>
    have h' : ((!isMu b) && bs.all fun y => !isMu y) = true := h
    rw [Bool.and_eq_true] at h'
    refine .cons ?_ (ih h'.2)
    cases a with
    | none => cases b with
      | un => trivial
      | im _ => exact r.elim
      | mu _ => exact r.elim
    | some v => cases b with
      | un => trivial
      | im S => exact S.up u r
      | mu _ => exact absurd (show false = true from h'.1) Bool.false_ne_true
theorem IStp.toStp {O : List Addr} (a : Stp T A0 H0 A H) (b : IStp T O A H A1 H1) (h : ∀ c ∈ O, H0 c = none) : Stp T A0 H0 A1 H1 :=
  ⟨b.wf, a.aa.trans b.aa, fun c o hc m => b.hh c o (a.hh c o hc m) m fun z => (by rw [h c z] at hc; cases hc), fun c hc => b.nn c (a.nn c hc), fun c hc => (b.fr c (a.nn c hc)).trans (a.fr c hc)⟩
end
section
variable {P : Program} {w : World} {K : PySem.W.Frag} {mg : Str → Option Value} {base : Heap} {k : Nat} {N : List Str} {sc : Scope} {X : Cx} {T : List (Addr × Str)} {A0 H0 A H : Hp} {σ : L2.St} {Γ Γ1 Γ2 : List Slot}
variable {a b c e o : Expr} {es : List Expr} {rest body orelse : List Stmt} {st : Stmt} {pos apos : Pos} {R R1 R2 : Pm} {ps qs : List Pm} {D : Ends}
/-- a statement that changes nothing, ahead of others -/
theorem raw_cons (sl : Sls (fun _ => none) A H σ Γ) (wf : Wf T A H) (h : ∀ A0 H0, SS X T A0 H0 st Γ (.nx Γ1)) (k : ∀ σ1 A1 H1, Stp T A H A1 H1 → Sls (fun _ => none) A1 H1 σ1 Γ1 → cSs X rest D σ1 H1) (nm : noMu Γ = true := by rfl) (nm1 : noMu Γ1 = true := by rfl) : cSs X (st :: rest) D σ H :=
  ofSs (pss_cons canS canSs) (h A H σ A H (.refl wf) (sls_any nm (Sub.refl _) sl) { D with nx := cSs X rest D } fun σ1 A1 H1 s1 _ sl1 => k σ1 A1 H1 s1 (sls_any nm1 (Sub.refl _) sl1))
end
/-- what is known at the loop's head -/
structure Lp (T : List (Addr × Str)) (K : PySem.W.Frag) (A0 H0 A H : Hp) (p q w x o : Addr) (s : MS) (outl : List Int) : Prop where
  st : Stp T A0 H0 A H
  at_ : StAt K A H p q w x s
  own : ∀ c ∈ [p, q, w, x], H0 c = none
  ho : H o = some (.lst (outl.map V.int))
  nA : A o = none
  n0 : H0 o = none
  od : o ∉ [p, q, w, x]
theorem Lp.then {T : List (Addr × Str)} {K : PySem.W.Frag} {A0 H0 A H A1 H1 : Hp} {p q w x o : Addr} {s : MS} {outl : List Int} (l : Lp T K A0 H0 A H p q w x o s outl) (b : Stp T A H A1 H1) : Lp T K A0 H0 A1 H1 p q w x o s outl :=
  ⟨l.st.trans b, l.at_.up b, l.own, b.hh _ _ l.ho (fun _ z => by cases z), (b.fr o (by rw [l.ho]; exact fun z => by cases z)).trans l.nA, l.n0, l.od⟩
/-- the list is written -/
theorem Lp.out {T : List (Addr × Str)} {K : PySem.W.Frag} {A0 H0 A H : Hp} {p q w x o : Addr} {s : MS} {outl outl' : List Int} (l : Lp T K A0 H0 A H p q w x o s outl) : Lp T K A0 H0 A (L2.upd H o (.lst (outl'.map V.int))) p q w x o s outl' := by
  have hne : ∀ c ∈ [p, q, w, x], c ≠ o := fun c hc z => l.od (by rw [← z]; exact hc)
  obtain ⟨dx, v0, vq, vw, vx, e1, e2, e3, e4, d⟩ := l.at_.ex
  refine ⟨stp_upd l.st l.n0 l.nA l.ho, ⟨⟨dx, v0, vq, vw, vx, ?_, ?_, ?_, ?_, d⟩, l.at_.np, l.at_.nq, l.at_.nw, l.at_.nx, l.at_.qw, l.at_.qx, l.at_.wx⟩, l.own, upd_same, l.nA, l.n0, l.od⟩
  · rw [upd_ne (hne p (by simp))]; exact e1
  · rw [upd_ne (hne q (by simp))]; exact e2
  · rw [upd_ne (hne w (by simp))]; exact e3
  · rw [upd_ne (hne x (by simp))]; exact e4
def spAnswers (T : List (Addr × Str)) (K : PySem.W.Frag) : Sp := fun vs H Q _ => ∃ a xs cs, vs = [V.ref a] ∧ LamX.Tabs T H ∧ SqL K H a (xs.map V.int) ∧ xs.length ≤ 100000 ∧ Fits xs 0 cs ∧ Keeps ms0 cs ∧ (toldM ms0 cs).length ≤ 10000000 ∧
  ∀ o H', H' o = some (.lst ((toldM ms0 cs).map V.int)) → Q (.ref o) H'
/-- what is known of the list that is handed in -/
theorem sqL_known {T : List (Addr × Str)} {K : PySem.W.Frag} {H : Hp} {a : Addr} {xs : List V} (tb : LamX.Tabs T H) (q : SqL K H a xs) : ∃ A0, Wf T A0 H ∧ SqL K A0 a xs := by
  rcases q with q | q
  · refine ⟨fun b => if b = a then H a else none, ⟨fun b o e => ?_, tb, fun t ht => ?_⟩, .inl ?_⟩
    · by_cases hb : b = a
      · rw [if_pos hb] at e
        rw [hb]; exact e
      · rw [if_neg hb] at e; cases e
    · show (if t.1 = a then H a else none) = none
      by_cases hb : t.1 = a
      · obtain ⟨ps, e1, _⟩ := tb t ht
        rw [hb] at e1
        rcases q with q | ⟨ob, q⟩ <;> rw [q] at e1 <;> cases e1
      · exact if_neg hb
    · rcases q with q | ⟨ob, q⟩
      · exact .inl ((if_pos rfl).trans q)
      · exact .inr ⟨ob, (if_pos rfl).trans q⟩
  · exact ⟨fun _ => none, ⟨fun _ _ z => (by cases z), tb, fun _ _ => rfl⟩, .inr q⟩
end IX
end

section
set_option Elab.async false
set_option linter.all false
set_option maxRecDepth 100000
set_option maxHeartbeats 4000000
namespace IX
open PySem PySem.Spec PyProof.Rows L2
local macro_rules | `(tactic| walk_at "fg") => `(tactic| repeat (first | exact All2.nil | exact Fg.refl _ | refine All2.cons (by first | exact Or.inl rfl | exact Or.inr rfl) ?_))
theorem fits_inv {l : List Int} {a : Nat} {cs : List CallD} (h : Fits l a cs) (ha : a < l.length) : ∃ (c : Nat) (nums : List Int) (e : Nat) (r : List CallD), cs = ((c : Int), (l.drop (a + 1)).take (plainN c), nums) :: r ∧ wayAt l a = (c : Int) ∧ c ≤ 12 ∧ a + 1 + plainN c ≤ l.length ∧ Fits l e r ∧
    ((c ≤ 2 ∧ ∃ k : Nat, a + 1 + plainN c < l.length ∧ wayAt l (a + 1 + plainN c) = (k : Int) ∧ a + 1 + plainN c + 1 + k ≤ l.length ∧ e = a + 1 + plainN c + 1 + k ∧ nums = (l.drop (a + 1 + plainN c + 1)).take k) ∨ (2 < c ∧ e = a + 1 + plainN c ∧ nums = [])) := by
  cases h with
  | done => omega
  | @row _ c k cs h1 h2 h3 h4 h5 h6 h7 h8 => exact ⟨c, _, _, _, rfl, h2, by omega, by omega, h8, .inl ⟨h3, k, h4, h5, h6, rfl, rfl⟩⟩
  | @flat _ c cs h1 h2 h3 h4 h5 h6 => exact ⟨c, _, _, _, rfl, h2, h4, h5, h6, .inr ⟨h3, rfl, rfl⟩⟩
theorem fits_end {l : List Int} {a : Nat} (h : Fits l a []) : a = l.length := by
  cases h
  rfl
theorem fits_lt {l : List Int} {a : Nat} {x : CallD} {cs : List CallD} (h : Fits l a (x :: cs)) : a < l.length := by
  cases h with
  | row h1 => exact h1
  | flat h1 => exact h1
abbrev N102 : List Str := ["calls", "state", "out", "at", "call", "end", "parts", "numbers", "begin", "answer"]
theorem sc102 : FnScope N102 ["calls"] (defScope (top 102)) := ⟨rfl, rfl, rfl, by decide +kernel, rfl, by decide +kernel, by decide +kernel⟩
section
variable {P : Program} {w : World} {K : PySem.W.Frag} {mg : Str → Option Value} {base : Heap} {T : List (Addr × Str)}
theorem ok_answers (E : Tp T K mg base) : ∃ fd, Binds K fd ["calls"] [] ∧ FnOk P w K mg base CX0 14 (He.ga K "answers") fd ["calls"] (spAnswers T K) := by
  obtain ⟨fd, F⟩ := E.d_answers
  refine ⟨fd, F.bindsN (fun _ _ _ _ _ _ us hl => match us, hl with | [_], _ => rfl), F.ok sc102 (fun vs H Q E ⟨a, xs, cs, h, _⟩ => by rw [h]; rfl) ?_⟩
  rintro cdv Ar outer s1 H0 vs Q E' hr ⟨a, xs, cs, rfl, tb, hsq, hxl, hfit, hkeep, hlen, k⟩
  obtain ⟨A0, wf0, hsq0⟩ := sqL_known tb hsq
  have hx : XF P w K mg base 13 N102 (defScope (top 102)) (cxOf CX0 P w K mg base N102 "answers" (defScope (top 102)) (He.ga K "answers") cdv Ar outer s1 H0 E').nox := ⟨rfl, rfl, rfl, rfl, rfl, rfl, rfl, rfl, rfl, hr, sc102.nd⟩
  have hf : ∀ x, (cxOf CX0 P w K mg base N102 "answers" (defScope (top 102)) (He.ga K "answers") cdv Ar outer s1 H0 E').nox.fn x = true := fun _ => rfl
  refine ⟨_, PSs.nox canSs, ?_⟩
  generalize (cxOf CX0 P w K mg base N102 "answers" (defScope (top 102)) (He.ga K "answers") cdv Ar outer s1 H0 E').nox = X at hx hf ⊢
  have hrm := hx.room
  obtain ⟨fdI, hbI, hFI⟩ := mk_State (P := P) (w := w) E
  obtain ⟨fA, fdA, hmA, hkA, hbA, hFA⟩ := (ok_step (P := P) (w := w) E).ex
  obtain ⟨eP, ew, eK, em, eb, _⟩ := id hx
  subst eP ew eK em eb
  -- state = State()
  refine ofSs (pss_cons (ps_set (i := 1) (by rw [hx.eN]; exact hx.nd) (by rw [hx.eN]; rfl) (loc_of hx (.inl rfl)) (pe_make0 E.m_State hFI (hrm.mono (by decide)) (gl_of hx rfl) E.g_State hbI .nil pass0) (by rfl) (.inl (hf _))) canSs) ?_
  intro p dx np nd ne
  have t1 := Stp.newM (.own p) wf0 nd
  have np' : L2.upd H0 dx (.own p) p = none := by rw [upd_ne ne.symm]; exact np
  have t2 := t1.trans (Stp.newM (.ins (He.ga X.K "State") dx []) t1.wf np')
  refine ⟨p, dx, A0, rfl, upd_same, sub_none wf0.ah np, t2.wf, fun H2 q w' x i2 st2 nq nw nx => ⟨rfl, ?_⟩⟩
  have nH : ∀ c, L2.upd (L2.upd H0 dx (.own p)) p (.ins (He.ga X.K "State") dx []) c = none → H0 c = none := fun c hc => by
    cases z : H0 c with
    | none => rfl
    | some u => exact absurd hc (t2.nn c (by rw [z]; exact fun y => by cases y))
  have t3 := IStp.toStp t2 i2 fun c hc => by rw [List.mem_singleton.mp hc]; exact np
  -- out = []
  refine ofSs (pss_cons (ps_set (i := 2) (by rw [hx.eN]; exact hx.nd) (by rw [hx.eN]; rfl) (loc_of hx (.inl rfl)) (pe_lst pa_nil) (by rfl) (.inl (hf _))) canSs) ⟨(show 0 ≤ sizeLine from Nat.zero_le _), fun o no => ?_⟩
  have t4 := t3.trans (Stp.newM (.lst []) t3.wf no)
  have n0 : H0 o = none := by
    cases z : H0 o with
    | none => rfl
    | some u => exact absurd no (t3.nn o (by rw [z]; exact fun y => by cases y))
  obtain ⟨dx2, v0, vq, vw, vx, e1, e2, e3, e4, dd⟩ := st2.ex
  have od : o ∉ [p, q, w', x] := fun hc => by
    simp only [List.mem_cons, List.not_mem_nil, or_false] at hc
    rcases hc with rfl | rfl | rfl | rfl
    · rw [e1] at no; cases no
    · rw [e2] at no; cases no
    · rw [e3] at no; cases no
    · rw [e4] at no; cases no
  have lp0 : Lp T X.K A0 H0 A0 (L2.upd H2 o (.lst [])) p q w' x o ms0 [] := by
    refine ⟨t4, st2.up (Stp.newM (.lst []) t3.wf no), fun c hc => ?_, upd_same, sub_none t3.wf.ah no, n0, od⟩
    simp only [List.mem_cons, List.not_mem_nil, or_false] at hc
    rcases hc with rfl | rfl | rfl | rfl
    · exact np
    · exact nH _ nq
    · exact nH _ nw
    · exact nH _ nx
  generalize L2.upd H2 o (.lst []) = H3 at lp0 ⊢
  have sl0 : Sls (fun _ => none) A0 H3 (((L2.start N102 [V.ref a]).set 1 (some (V.ref p))).set 2 (some (V.ref o))) [.im (pF X.K xs), .im (pRef p), .im (pRef o), .un, .un, .un, .un, .un, .un, .un] :=
    .cons ⟨a, rfl, hsq0⟩ (.cons rfl (.cons rfl (.cons trivial (.cons trivial (.cons trivial (.cons trivial (.cons trivial (.cons trivial (.cons trivial .nil)))))))))
  -- at = 0
  refine raw_cons sl0 lp0.st.wf (fun A0 H0 => ss_set hx hf 3 (R := pZ 0) ev_int) fun σ1 A1 H1 s1 sl1 => ?_
  have lp1 := lp0.then s1
  -- the loop
  refine ofSs (pss_cons (ps_while (never_of hx) canT canSs) canSs) ⟨fun n σ H => ∃ A p q w x o s outl at_ cs', n = cs'.length ∧ Lp T X.K A0 H0 A H p q w x o s outl ∧ Fits xs at_ cs' ∧ Keeps s cs' ∧ outl ++ toldM s cs' = toldM ms0 cs ∧ Sls (fun _ => none) A H σ [.im (pF X.K xs), .im (pRef p), .im (pRef o), .im (pZ at_), .un, .un, .un, .un, .un, .un],
    ⟨cs.length, A1, p, q, w', x, o, ms0, [], 0, cs, rfl, lp1, hfit, hkeep, rfl, sl1⟩, ?_⟩
  rintro n σ H ⟨A, p, q, w, x, o, s, outl, at_, cs', rfl, lp, hfit, hkeep, htot, sl⟩
  refine (evt_lt (ev_var hx 3) (ev_lenF hx E.b_len (ev_var hx 0))) σ A H sl lp.st.wf _ fun A2 H2 s2 => ?_
  have lp2 := lp.then s2
  have sl2 := sls_any (n' := fun _ => none) (H1 := H2) (by rfl) s2.aa sl
  cases cs' with
  | nil =>
    have hat := fits_end hfit
    rw [decide_eq_false (by omega)]
    refine iteF ?_
    -- return out
    obtain ⟨v, ev, pv⟩ := sl2.im (i := 2) rfl
    have pv : v = .ref o := pv
    refine ofSs (pss_one (ps_ret (pe_var (i := 2) (by rw [hx.eN]; rfl) (by rw [hx.es]; exact Or.inl rfl)))) ⟨v, ev, ?_⟩
    rw [pv]
    refine k o H2 ?_
    have e := lp2.ho
    rw [show toldM ms0 cs = outl from by rw [← htot]; exact List.append_nil _]
    exact e
  | cons call cs' =>
    have hat := fits_lt hfit
    rw [decide_eq_true (by omega)]
    refine iteT ⟨fun σ H => ∃ A q w x s outl at_, Lp T X.K A0 H0 A H p q w x o s outl ∧ Fits xs at_ cs' ∧ Keeps s cs' ∧ outl ++ toldM s cs' = toldM ms0 cs ∧ Sls (fun _ => none) A H σ [.im (pF X.K xs), .im (pRef p), .im (pRef o), .im (pZ at_), .un, .un, .un, .un, .un, .un],
      fun σ H ⟨A, q, w, x, s, outl, at_, g1, g2, g3, g4, g5⟩ => ⟨cs'.length, Nat.lt_succ_self _, A, p, q, w, x, o, s, outl, at_, cs', rfl, g1, g2, g3, g4, g5⟩, ?_⟩
    obtain ⟨c, nums, e, r, hcs, hwc, hc12, hel, hfr, hif⟩ := fits_inv hfit hat
    obtain ⟨rfl, rfl⟩ := List.cons.inj hcs
    obtain ⟨hinv, hcok, hkr⟩ := hkeep
    generalize hparts : (xs.drop (at_ + 1)).take (plainN c) = parts at *
    have hwi : wayAt xs at_ = (c : Int) := hwc
    -- call = calls[at]
    refine raw_cons sl2 lp2.st.wf (fun A0 H0 => ss_set hx hf 4 (R := pZ c) ((ev_ixF hx (ev_var hx 0) (ev_var hx 3) hat).eq (by rw [hwi]))) fun σ3 A3 H3 s3 sl3 => ?_
    have lp3 := lp2.then s3
    -- end = at + 1 + PLAIN[call]
    refine raw_cons sl3 lp3.st.wf (fun A0 H0 => ss_set hx hf 5 (R := pZ (at_ + 1 + plainN c)) ((ev_add (ev_add (ev_var hx 3) ev_int) (ev_plain E hx (ev_var hx 4) (by omega))).eq (by show pI _ = pI _; push_cast; rfl))) fun σ4 A4 H4 s4 sl4 => ?_
    have lp4 := lp3.then s4
    -- parts = calls[at + 1:end]
    refine raw_cons sl4 lp4.st.wf (fun A0 H0 => ss_set hx hf 6 (R := pIs parts) ((ev_sliceF hx (ev_var hx 0) (.yes (ev_add (ev_var hx 3) ev_int)) (.yes (ev_var hx 5))).eq ((cutP_ints xs (a := at_ + 1) (b := at_ + 1 + plainN c) hel (by omega) rfl).trans (by rw [Nat.add_sub_cancel_left, hparts])))) fun σ5 A5 H5 s5 sl5 => ?_
    have lp5 := lp4.then s5
    -- numbers = []
    refine raw_cons sl5 lp5.st.wf (fun A0 H0 => ss_set hx hf 7 (R := pIs []) (ev_lst evs_nil)) fun σ6 A6 H6 s6 sl6 => ?_
    have lp6 := lp5.then s6
    -- if call <= INDEX: ..
    refine raw_cons (Γ1 := [.im (pF X.K xs), .im (pRef p), .im (pRef o), .im (pZ at_), .im (pZ c), .im (pZ e), .im (pIs parts), .im (pIs nums), .un, .un]) sl6 lp6.st.wf (fun A0 H0 => ?_) fun σ7 A7 H7 s7 sl7 => ?_
    · refine ss_if (x := decide ((c : Int) ≤ 2)) (evt_le (ev_var hx 4) (ev_gint hx E.i_INDEX)) (fun h => ?_) fun h => ?_
      · have hc2 := of_decide_eq_true h
        rcases hif with ⟨_, kk, h1, h2, h3, h4, h5⟩ | ⟨h1, _, _⟩
        · refine st_seq (ss_set hx hf 8 (R := pZ (at_ + 1 + plainN c + 1)) ((ev_add (ev_var hx 5) ev_int).eq (by show pI _ = pI _; push_cast; rfl))) ?_
          refine st_seq (ss_set hx hf 5 (R := pZ e) ((ev_add (ev_var hx 8) (ev_ixF hx (ev_var hx 0) (ev_var hx 5) h1)).eq (by show pI _ = pI _; rw [h2, h4]; push_cast; rfl))) ?_
          refine st_seq (ss_set hx hf 7 (R := pIs nums) ((ev_sliceF hx (ev_var hx 0) (.yes (ev_var hx 8)) (.yes (ev_var hx 5))).eq ((cutP_ints xs (a := at_ + 1 + plainN c + 1) (b := e) (by omega) rfl rfl).trans (by rw [h4, Nat.add_sub_cancel_left, h5])))) (st_end ?_)
          walk_at "fg"
        · omega
      · have hc2 := of_decide_eq_false h
        rcases hif with ⟨h1, _⟩ | ⟨_, h1, h2⟩
        · omega
        · rw [h1, h2]
          refine st_end ?_
          walk_at "fg"
    have lp7 := lp6.then s7
    -- answer = answer_of(state, call, parts, numbers)
    refine ofSs (pss_cons (ps_set (i := 9) (by rw [hx.eN]; exact hx.nd) (by rw [hx.eN]; rfl) (loc_of hx (.inl rfl)) (pe_call hFA (hrm.mono (by decide)) (gl_of hx rfl) hmA hkA hbA .nil pass0 canA (by decide) (by rfl) (by rfl)) (by rfl) (.inl (hf _))) canSs) ?_
    refine (evs_cons (ev_var hx 1) (evs_cons (ev_var hx 4) (evs_cons (ev_var hx 6) (evs_cons (ev_var hx 7) evs_nil)))) σ7 A7 H7 sl7 lp7.st.wf _ fun us A8 H8 s8 p8 => ?_
    have lp8 := lp7.then s8
    have sl8 := sls_any (n' := fun _ => none) (H1 := H8) (by rfl) s8.aa sl7
    rw [List.append_nil]
    cases p8 with
    | @cons u1 _ us _ r1 p8 =>
    have r1 : u1 = .ref p := r1
    subst r1
    refine ⟨A8, p, q, w, x, us, _, s, _, _, rfl, lp8.st.wf, lp8.at_, p8, ⟨(c : Int), parts, nums, hinv, hcok, rfl, rfl, rfl⟩, fun v A9 H9 q9 w9 x9 iv an => ?_⟩
    obtain ⟨a9, rfl, ha9, han⟩ := an
    generalize hstep : stepM s (c : Int) parts nums = stp at *
    have hne : o ≠ a9 := han o (by rw [lp8.ho]; exact fun z => by cases z) lp8.nA lp8.od
    have lp9 : Lp T X.K A0 H0 A9 H9 p q9 w9 x9 o stp.1 outl := by
      refine ⟨IStp.toStp lp8.st iv.st lp8.own, iv.at_, fun c hc => ?_, iv.st.hh _ _ lp8.ho (fun _ z => by cases z) lp8.od, (iv.st.fr o (by rw [lp8.ho]; exact fun z => by cases z)).trans lp8.nA, lp8.n0, fun hc => ?_⟩
      · rcases List.mem_cons.mp hc with rfl | hc
        · exact lp8.own _ List.mem_cons_self
        · rcases iv.own c hc with z | z
          · exact lp8.own c z
          · cases y : H0 c with
            | none => rfl
            | some u => exact absurd z (lp8.st.nn c (by rw [y]; exact fun y => by cases y))
      · rcases List.mem_cons.mp hc with z | hc
        · exact lp8.od (by rw [z]; exact List.mem_cons_self)
        · rcases iv.own o hc with z | z
          · exact lp8.od z
          · rw [lp8.ho] at z; cases z
    have sl9 : Sls (fun _ => none) A9 H9 (σ7.set 9 (some (V.ref a9))) [.im (pF X.K xs), .im (pRef p), .im (pRef o), .im (pZ at_), .im (pZ c), .im (pZ e), .im (pIs parts), .im (pIs nums), .un, .im (pRef a9)] :=
      Sls.set (R := pRef a9) (sls_any (by rfl) iv.st.aa sl8) 9 (rfl : V.ref a9 = V.ref a9)
    have htot' : outl ++ ((stp.2.length : Int) :: (stp.2 ++ toldM stp.1 cs')) = toldM ms0 cs := by
      rw [← htot]
      show _ = outl ++ (((stepM s (c : Int) parts nums).2.length : Int) :: ((stepM s (c : Int) parts nums).2 ++ toldM (stepM s (c : Int) parts nums).1 cs'))
      rw [hstep]
    have hsize : outl.length + 1 + stp.2.length ≤ 10000000 := by
      have h1 := congrArg List.length htot'
      simp only [List.length_append, List.length_cons] at h1
      omega
    have hline : sizeLine = 16777216 := PySem.sizeLine_eq
    obtain ⟨v2, ev2, pv2⟩ := sl9.im (i := 2) rfl
    have pv2 : v2 = .ref o := pv2
    obtain ⟨v9, ev9, pv9⟩ := sl9.im (i := 9) rfl
    have pv9 : v9 = .ref a9 := pv9
    subst pv2 pv9
    have pout : ∀ ps : Pos, PE X (.Name "out" ps) (tVar 2) := fun ps => pe_var (i := 2) (by rw [hx.eN]; rfl) (by rw [hx.es]; exact Or.inl rfl)
    have pans : ∀ ps : Pos, PE X (.Name "answer" ps) (tVar 9) := fun ps => pe_var (i := 9) (by rw [hx.eN]; rfl) (by rw [hx.es]; exact Or.inl rfl)
    -- out.append(len(answer))
    refine ofSs (pss_cons (ps_expr (pe_bm PySem.F.plainAttrs_list PySem.F.slot_list_append PySem.F.type_list_append mt_append (pout _) (pa_cons (pe_callB call_len_seq (gl_of hx rfl) E.b_len boot_len (pa_cons (pans _) pa_nil)) pa_nil) (by rfl) (by rfl) (by rfl) (by rfl) (by rfl)) (by rfl)) canSs) ⟨_, ev2, .inl ⟨rfl, _, SqL.of lp9.ho⟩, ?_⟩
    refine ⟨_, ev9, a9, stp.2.map V.int, rfl, .inl (SqL.of ha9), ?_⟩
    refine ⟨o, outl.map V.int, _, rfl, rfl, lp9.ho, by rw [List.length_map]; omega, ?_⟩
    have elen : outl.map V.int ++ [V.int ((stp.2.map V.int).length : Int)] = (outl ++ [(stp.2.length : Int)]).map V.int := by
      rw [List.map_append, List.length_map]
      rfl
    rw [elen]
    have lp10 := lp9.out (outl' := outl ++ [(stp.2.length : Int)])
    have ha10 : L2.upd H9 o (.lst ((outl ++ [(stp.2.length : Int)]).map V.int)) a9 = some (.lst (stp.2.map V.int)) := by rw [upd_ne hne.symm]; exact ha9
    have sl10 := sls_any (n' := fun _ => none) (H1 := L2.upd H9 o (.lst ((outl ++ [(stp.2.length : Int)]).map V.int))) (by rfl) (Sub.refl _) sl9
    generalize L2.upd H9 o (.lst ((outl ++ [(stp.2.length : Int)]).map V.int)) = H10 at lp10 ha10 sl10 ⊢
    -- out.extend(answer)
    refine ofSs (pss_cons (ps_expr (pe_bm PySem.F.plainAttrs_list PySem.F.slot_list_extend PySem.F.type_list_extend mt_extend (pout _) (pa_cons (pans _) pa_nil) (by rfl) (by rfl) (by rfl) (by rfl) (by rfl)) (by rfl)) canSs) ⟨_, ev2, .inl ⟨rfl, _, SqL.of lp10.ho⟩, ?_⟩
    refine ⟨_, ev9, o, a9, (outl ++ [(stp.2.length : Int)]).map V.int, stp.2.map V.int, rfl, rfl, lp10.ho, ha10, by rw [List.length_map, List.length_map, List.length_append]; show outl.length + 1 + stp.2.length ≤ _; omega, ?_⟩
    rw [← List.map_append]
    have lp11 := lp10.out (outl' := outl ++ [(stp.2.length : Int)] ++ stp.2)
    have sl11 := sls_any (n' := fun _ => none) (H1 := L2.upd H10 o (.lst ((outl ++ [(stp.2.length : Int)] ++ stp.2).map V.int))) (by rfl) (Sub.refl _) sl10
    generalize L2.upd H10 o (.lst ((outl ++ [(stp.2.length : Int)] ++ stp.2).map V.int)) = H11 at lp11 sl11 ⊢
    -- at = end
    refine raw_cons (Γ1 := [.im (pF X.K xs), .im (pRef p), .im (pRef o), .im (pZ e), .un, .un, .un, .un, .un, .un]) sl11 lp11.st.wf (fun A0 H0 => (ss_set hx hf 3 (R := pZ e) (ev_var hx 5)).fgo ?_) fun σ12 A12 H12 s12 sl12 => ofSs pss_nil ?_
    · walk_at "fg"
    · exact ⟨A12, q9, w9, x9, stp.1, outl ++ [(stp.2.length : Int)] ++ stp.2, e, lp11.then s12, hfr, hkr, by rw [← htot']; simp, sl12⟩
end
end IX
end

section
set_option Elab.async false
set_option linter.all false
set_option maxRecDepth 100000
set_option maxHeartbeats 4000000
/-! the end: from the promise of answers to the row -/
namespace IX
open PySem PySem.Spec PyProof.Rows L2
open HandSHeadRun in
theorem left_ok : PySem.W.LeftO Rw.prog qv names (fun s => PySem.W.xlAt qv [] s && PySem.W.recOk [] s) hk.obs hk.val 7000 true :=
  left_one (M := 6000) (by kernel_rfl) (by rfl) (fun s => by kernel_rfl) (by rfl) fun w os => by
    obtain ⟨s, h1, h2⟩ := Option.map_eq_some_iff.mp (run1 w os)
    obtain ⟨s', h3, h4⟩ := Option.map_eq_some_iff.mp (run2 w os)
    have e : s' = s := Option.some.inj (h3.symm.trans h1)
    subst e
    simp only [endQ_eq, seenQ_eq]
    rw [h3]
    obtain ⟨a1, a2⟩ := Prod.mk.inj h2
    show some (_, _, _) = some (true, _, _)
    rw [a1, a2, ← ob_eq, h4]
    rfl
/-- numbers -/
theorem well_ints {Pm : Params} {h : Heap} : ∀ (ns : List Int) (vs : List Value), PySem.W.WellAll Pm h vs (ns.map PySem.W.WData.int) → IntsAre vs ns
  | [], _, x => by
    cases x
    exact .nil
  | n :: r, _, x => by
    obtain ⟨v, vs, rfl, h1, h2⟩ := well_cons x
    cases h1
    exact .cons _ _ (well_ints r _ h2)
theorem call_answers {w : World} {K : PySem.W.Frag} {mg mb : Str → Option Value} {s₁ : Shared} {a : Addr} {vs : List Value} {ns : List Int} {fa : Addr} {cs : List CallD}
    (KX : K.In s₁.heap) (hS : SaysY s₁.heap K) (hns : s₁.heap.Ns mainGlobals mg) (hb : s₁.heap.Ns builtinsNs mb) (hbb : ∀ x : Str, x ≠ "__name__" → mb x = bootBuiltins x) (hlim : s₁.heap.NoLimit) (hg : s₁.gens = #[])
    (hbm : ∃ (bm : Addr) (ob : Obj), mg "__builtins__" = some (.ref bm) ∧ bm ≠ builtinsNs ∧ s₁.heap.get? bm = some ob ∧ ob.cls = .type "module" ∧ ob.dict = some builtinsNs ∧ ob.data = .plain)
    (ha : s₁.heap.get? a = some { cls := .type "list", data := .seq vs.toArray }) (hi : IntsAre vs ns) (hl : ns.length ≤ 100000) (hmg : mg "answers" = some (.ref fa))
    (hfit : Fits ns 0 cs) (hkeep : Keeps ms0 cs) (hlen : (toldM ms0 cs).length ≤ 10000000) {R : PySem.W.WRecords} {cl : Str → Option Addr} :
    codeAny (model Rw.prog w) callerA (.call (.ref fa) ⟨[.ref a], []⟩) (fun r s' => ∃ u as, r = .ok (.ret u) ∧ PySem.W.ReadsW R cl s'.heap u (.list ((toldM ms0 cs).map .int)) as ∧ OldK s₁.heap s'.heap ∧ s'.os = s₁.os ∧ AllBare s'.gens) s₁ := by
  have rv := vals_ints hi
  have lenV := hi.length
  obtain ⟨pc, epc⟩ : ∃ pc, pc = He.cT K ("groups_in_range", none) := ⟨_, rfl⟩
  have hmem : (("groups_in_range", none) : He.Defn) ∈ tf := List.mem_singleton.mpr rfl
  have hT : s₁.heap.get? pc.2 = some { cls := .none, data := .fields #[] } := by rw [epc]; exact hS.empty _ hmem
  have nT : K.lookup pc.2 = none := by rw [epc]; exact hS.none_ _ hmem
  have hd : PySem.W.codeHdIn K pc.1 pc.2 = true := by rw [epc]; exact hS.hd _ hmem
  have hlz : ns.length ≤ sizeLine := small_size (by omega)
  have aT : a ≠ pc.2 := fun z => by
    rw [z, hT] at ha
    have z' : Data.fields #[] = Data.seq vs.toArray _ := congrArg Obj.data (Option.some.inj ha)
    cases z'
  have core : ∀ H : Hp, H pc.2 = some (.tbl #[]) → (∀ b, H b = none ∨ b = pc.2 ∨ ∃ o xs, H b = some (.frz o (.lst xs))) → SqL K H a (ns.map V.int) → HOk Rw.prog w H s₁.heap → (∀ b, H b ≠ none → b = a ∨ b = pc.2) → (H a ≠ none → K.lookup a = none) →
      codeAny (model Rw.prog w) callerA (.call (.ref fa) ⟨[.ref a], []⟩) (fun r s' => ∃ u as, r = .ok (.ret u) ∧ PySem.W.ReadsW R cl s'.heap u (.list ((toldM ms0 cs).map .int)) as ∧ OldK s₁.heap s'.heap ∧ s'.os = s₁.os ∧ AllBare s'.gens) s₁ := by
    intro H hH hO hSq hok hA hK
    have base_of : ∀ {b : Addr} {o : Obj}, s₁.heap.get? b = some o → H b = none → (hidT s₁.heap H).get? b = some o := fun e n => hidT_get e n
    have noD : ∀ {b : Addr} {o : Obj}, s₁.heap.get? b = some o → (∀ vs n, o.data ≠ .seq vs n) → o.data ≠ .fields #[] → H b = none := fun {b o} e h1 h2 => by
      cases q : H b with
      | none => rfl
      | some u =>
        rcases hA b (by rw [q]; simp) with e' | e'
        · rw [e', ha] at e
          cases e
          exact (h1 _ _ rfl).elim
        · rw [e', hT] at e
          cases e
          exact (h2 rfl).elim
    have noA : ∀ {b : Addr} {o : Obj} {es : Array DictEntry} {ep : Nat}, s₁.heap.get? b = some o → o.data = .dict es ep → H b = none := fun {b o es ep} e d => by
      refine noD e (fun vs n z => ?_) fun z => ?_
      · rw [d] at z
        cases z
      · rw [d] at z
        cases z
    have nsK : ∀ {b : Addr} {m : Str → Option Value}, s₁.heap.Ns b m → (hidT s₁.heap H).Ns b m := fun {b m} ⟨o, es, ep, e, d, r⟩ => ⟨o, es, ep, base_of e (noA e d), d, r⟩
    have hKb : K.In (hidT s₁.heap H) := fun b o e => base_of (KX b o e) (by
      cases q : H b with
      | none => rfl
      | some u =>
        rcases hA b (by rw [q]; simp) with e' | e'
        · rw [e'] at e q
          rw [hK (by rw [q]; simp)] at e
          cases e
        · rw [e', nT] at e
          cases e)
    have hM : L2.Mod K mg (hidT s₁.heap H) := ⟨hKb, nsK hns, ⟨mb, nsK hb, hbb⟩, let ⟨mc, h1, h2⟩ := hlim; ⟨mc, nsK h1, h2⟩⟩
    have gP : mainGlobals ≠ pc.2 := fun z => by
      obtain ⟨o, es, ep, e, hd, _⟩ := hns
      rw [z, hT] at e
      cases e
      cases hd
    have bm' : (hidT s₁.heap H).BuiltinsAt mg pc.2 := by
      obtain ⟨bm, ob, b1, b2, b3, b4, b5, b6⟩ := hbm
      have nG : bm ≠ mainGlobals := fun q => by
        obtain ⟨o, es, ep, e, hd, _⟩ := hns
        rw [q, e] at b3
        cases b3
        rw [hd] at b6
        cases b6
      have nP : bm ≠ pc.2 := fun q => by
        rw [q, hT] at b3
        cases b3
        cases b6
      refine ⟨bm, ob, b1, b2, nG, nP, base_of b3 (noD b3 (fun vs n z => ?_) fun z => ?_), b4, b5, b6⟩
      · rw [b6] at z
        cases z
      · rw [b6] at z
        cases z
    have E : Tp [(pc.2, ("groups_in_range.<locals>.<lambda>" : Str))] K mg (hidT s₁.heap H) := ⟨hS.d, ⟨_, KX, hns⟩, hS.more, by rw [← epc]; exact NdefX.tabB_of_K hKb hd bm' gP, by rw [← epc]⟩
    have e0 : Env0 Rw.prog w K mg (hidT s₁.heap H) callerA [] s₁ H := ⟨rfl, hM, fun b o e => of_hidT e, Nat.le_of_eq (hidT_size _ _), trivial, fun b hb => absurd (show b ∈ ([] : List Addr) from hb) (by simp), hok, .of_eq hg⟩
    obtain ⟨fd, hbd, hF⟩ := ok_answers (P := Rw.prog) (w := w) E
    have efa : fa = He.ga K "answers" := by
      have h1 := E.g_answers
      rw [hmg] at h1
      injection h1 with h1
      injection h1
    subst efa
    have hroom : Room 14 callerA := ⟨rfl, by decide, by decide⟩
    refine codeAny_mono (hF.run callerA [] s₁ H ⟨[.ref a], []⟩ [.ref a] [.ref a] (fun v H' => ∃ o, v = .ref o ∧ H' o = some (.lst ((toldM ms0 cs).map V.int))) (fun _ _ _ => False) hroom e0 (hbd s₁ [.ref a] KX rfl) (.cons rfl .nil)
      ⟨a, ns, cs, rfl, fun p hp => ?_, hSq, hl, hfit, hkeep, hlen, fun o H' h => ⟨o, rfl, h⟩⟩) fun r s' h => ?_
    · rw [List.mem_singleton.mp hp]
      exact LamX.TabS.nil hH
    · cases r with
      | error e => exact False.elim h
      | ok fl =>
        cases fl with
        | next => exact False.elim h
        | brk => exact False.elim h
        | cont => exact False.elim h
        | ret u =>
          obtain ⟨v, H', os, bare, un, hok', r', o, ev, q⟩ := h
          have key : ∀ b o, b ≠ pc.2 → s₁.heap.get? b = some o → s'.heap.get? b = some o := fun b o nb e => by
            cases q : H b with
            | none => exact un.keep b o e q (by intro z; exact absurd (show b ∈ ([] : List Addr) from z) (by simp)) (by simp)
            | some u =>
              rcases hO b with z | z | ⟨ob, xs, z⟩
              · rw [q] at z; cases z
              · exact absurd z nb
              · have z2 := un.frzs b ob _ z
                obtain ⟨e1, _⟩ := hok b _ z
                obtain ⟨e2, _⟩ := hok' b _ z2
                rw [e] at e1; cases e1
                exact e2
          obtain ⟨more, hmore⟩ : ∃ more : Array Value, s'.heap.get? pc.2 = some { cls := .none, data := .fields more } := by
            obtain ⟨more, z⟩ := un.tbls pc.2 #[] hH
            exact ⟨_, hok' pc.2 _ z⟩
          have KX' : K.In s'.heap := fun b o e => key b o (fun z => by rw [z, nT] at e; cases e) (KX b o e)
          obtain ⟨as, hrd⟩ := Dw.reads (R := R) (cl := cl) hok' KX' (.list ((toldM ms0 cs).map .int)) v u (by rw [ev]; exact .lst (SqL.of q) (dw_ints _)) r'
          refine ⟨u, as, rfl, hrd, ⟨fun b o e => ?_, fun b o e => ?_⟩, os, bare⟩
          · by_cases hb : b = pc.2
            · rw [hb] at e ⊢
              rw [hT] at e
              cases e
              exact .inr (.inl ⟨((PySem.W.codeHd_of_K KX hd).tab hT).isCodeTable, rfl, #[], more, rfl, by rw [Array.empty_append]; exact hmore⟩)
            · exact .inl (key b o hb e)
          · by_cases hb : b = pc.2
            · rw [hb]
              exact ⟨_, hmore⟩
            · exact ⟨o, key b o hb e⟩
  cases hk : K.lookup a with
  | some o =>
    have e := KX a o hk
    rw [ha] at e
    cases e
    refine core (fun b => if b = pc.2 then some (.tbl #[]) else none) (if_pos rfl) (fun b => ?_) (.inr ⟨_, vs.toArray, _, hk, rfl, rfl, rfl, by rw [List.size_toArray, lenV]; exact hlz, by simpa using rv⟩) (fun b u z => ?_) (fun b z => ?_) fun z => absurd (show (if a = pc.2 then some (HO.tbl #[]) else none) = none from if_neg aT) z
    · by_cases hb : b = pc.2
      · exact .inr (.inl hb)
      · exact .inl (if_neg hb)
    · by_cases hb : b = pc.2
      · have z' := (if_pos hb).symm.trans z
        cases z'
        rw [hb]
        exact hT
      · have z' := (if_neg hb).symm.trans z
        cases z'
    · by_cases hb : b = pc.2
      · exact .inr hb
      · exact absurd (if_neg hb) z
  | none =>
    refine core (fun b => if b = a then some (.frz { cls := .type "list", data := .seq vs.toArray } (.lst (ns.map V.int))) else if b = pc.2 then some (.tbl #[]) else none) ((if_neg aT.symm).trans (if_pos rfl)) (fun b => ?_)
      (.inl (.inr ⟨{ cls := .type "list", data := .seq vs.toArray }, if_pos rfl⟩)) (fun b u z => ?_) (fun b z => ?_) fun _ => hk
    · by_cases hb : b = a
      · exact .inr (.inr ⟨_, _, if_pos hb⟩)
      · by_cases hb2 : b = pc.2
        · exact .inr (.inl hb2)
        · exact .inl ((if_neg hb).trans (if_neg hb2))
    · by_cases hb : b = a
      · have z' := (if_pos hb).symm.trans z
        cases z'
        rw [hb]
        exact ⟨ha, by rw [List.length_map]; exact hlz, vs, _, rv, ha⟩
      · have z1 := (if_neg hb).symm.trans z
        by_cases hb2 : b = pc.2
        · have z' := (if_pos hb2).symm.trans z1
          cases z'
          rw [hb2]
          exact hT
        · have z' := (if_neg hb2).symm.trans z1
          cases z'
    · by_cases hb : b = a
      · exact .inl hb
      · by_cases hb2 : b = pc.2
        · exact .inr hb2
        · exact absurd ((if_neg hb).trans (if_neg hb2)) z
def d102 : DefRec := HandSHeadRun.topDef Rw.prog 102
/-- what the plain law gives -/
def PlainLaw : Prop := ∀ ns : List Int, PyVaidxe.answers_asked ns = true → ns.length ≤ 100000 → ∃ cs, Fits ns 0 cs ∧ Keeps ms0 cs ∧ toldM ms0 cs = PyVaidxe.answers ns ∧ (toldM ms0 cs).length ≤ 10000000
theorem walk_answers (law : PlainLaw) : PySem.W.WalkOS qv names (PySem.W.XL qv []) hk.says Rw d102 [] (fun f vs => PySem.call f vs) := by
  intro w s₀ s₁ mg mb G Y fa o pm cd doc dV kV ho hd hcd hD hmg hg args vals as hpre hlay hrd hwl hlo
  obtain ⟨a, e1, e2⟩ := PySem.W.os_pre_some hpre
  obtain ⟨e3, hwi⟩ := PySem.W.Codec.encAll_of_decAll Rw.args args a e1
  subst e3
  obtain ⟨K, KX, hS⟩ := Y
  obtain ⟨ns, u⟩ := a
  have hwl' : PySem.W.WellAll w.params s₁.heap vals [.list (ns.map PySem.W.WData.int)] := hwl
  obtain ⟨v, vs', rfl, h1, h2⟩ := well_cons hwl'
  cases h2
  obtain ⟨l, its, rfl, hl, hall⟩ := well_list h1
  have hi := well_ints ns its hall
  have hlen : ns.length ≤ 100000 := by
    have h : (decide (0 ≤ ns.length) && decide (ns.length ≤ 4920) && ns.all (fun x => (PySem.W.Codec.int (Int.negSucc 999999999999999999) (Int.ofNat 1000000000000000000)).within x) && true) = true := hwi
    simp only [Bool.and_eq_true, decide_eq_true_eq] at h
    omega
  obtain ⟨cs, g1, g2, g3, g4⟩ := law ns e2 hlen
  refine PySem.W.enter_call (codeAny_mono (call_answers (R := []) (cl := classAt s₀.heap) KX hS G.T.g G.T.b G.T.builtins G.T.nolimit hg G.T.bmain hl hi hlen hmg g1 g2 g4) fun r' s' hq => ?_)
  obtain ⟨u', as', rfl, h1, h2, h3, h4⟩ := hq
  rw [g3] at h1
  exact ⟨.inl ⟨u', _, as', rfl, fun _ => rfl, h1, (PySem.W.OpenSpec.post_iff (by decide +kernel) hwi _ _).mpr rfl, fun z => Bool.noConfusion (show false = true from z)⟩, h2, h3, h4⟩
theorem holds_of (law : PlainLaw) : Rw.Holds :=
  PySem.W.holds_os (q := qv) (loose := names) (Xt := fun s => PySem.W.xlAt qv [] s && PySem.W.recOk [] s) (XP := PySem.W.XL qv []) (Yf := hk.obs) (Ya := hk.val) (YP := hk.says) (N := 7000) (d := d102) (kwd := []) left_ok hk.of hk.keeps (fun s e => PySem.W.xl_of s (Bool.and_eq_true_iff.mp e).1) PySem.W.XL.keeps (by rfl) (by rfl) (by rfl) (fun s e => PySem.W.recFacts_of (Bool.and_eq_true_iff.mp e).2) PySem.W.os_shapes (by decide +kernel) (by decide +kernel) ⟨rfl, rfl, rfl, rfl, rfl, by decide +kernel⟩
    ⟨[.list [.int 5]], by decide +kernel, by decide +kernel⟩ (walk_answers law)
end IX
end

section
/-! The plain law: filters, orders, what's free, what's covered. -/
namespace IX
open VaidxBase (Question Filter Group Table Index)

theorem find_col : ∀ (fs : List Filter), (fs.map fun f => f.col).Nodup → ∀ f ∈ fs, fs.find? (fun g => g.col == f.col) = some f := by
  intro fs
  induction fs with
  | nil => intro _ f h; exact absurd h (List.not_mem_nil)
  | cons g l ih =>
    intro nd f hf
    rw [List.map_cons, List.nodup_cons] at nd
    rcases List.mem_cons.mp hf with e | h
    · subst e; rw [List.find?_cons_of_pos (by simp)]
    · have hne : ¬ (g.col == f.col) = true := by
        intro e
        exact nd.1 (List.mem_map.mpr ⟨f, h, (eq_of_beq e).symm⟩)
      rw [List.find?_cons]
      simp only [hne]
      exact ih nd.2 f h

theorem filterOn_some {q : Question} (nd : (q.filters.map fun f => f.col).Nodup) {c : Nat} {f : Filter} : VaidxBase.filterOn q c = some f ↔ f ∈ q.filters ∧ f.col = c := by
  constructor
  · intro h
    have h2 := List.find?_some (p := fun f : Filter => f.col == c) h
    exact ⟨List.mem_of_find?_eq_some h, eq_of_beq h2⟩
  · rintro ⟨h, rfl⟩
    exact find_col _ nd f h

theorem equalOn_eq {q : Question} (nd : (q.filters.map fun f => f.col).Nodup) (c : Nat) : VaidxBase.equalOn q c = (Vaidxe.equals q).contains c := by
  rw [Bool.eq_iff_iff, List.contains_iff_mem]
  unfold VaidxBase.equalOn Vaidxe.equals
  rw [List.mem_map]
  constructor
  · intro h
    rw [Option.any_eq_true] at h
    obtain ⟨f, h1, h2⟩ := h
    obtain ⟨h3, h4⟩ := (filterOn_some nd).mp h1
    exact ⟨f, List.mem_filter.mpr ⟨h3, h2⟩, h4⟩
  · rintro ⟨f, h1, h2⟩
    rw [List.mem_filter] at h1
    rw [Option.any_eq_true]
    exact ⟨f, (filterOn_some nd).mpr ⟨h1.1, h2⟩, h1.2⟩

theorem orderLeft_eq {q : Question} (nd : (q.filters.map fun f => f.col).Nodup) : VaidxBase.orderLeft q = without q.order (Vaidxe.equals q) := by
  unfold VaidxBase.orderLeft without
  exact List.filter_congr fun c _ => by rw [equalOn_eq nd]

theorem keysLeft_eq {q : Question} (nd : (q.filters.map fun f => f.col).Nodup) (ks : List Nat) : (ks.filter fun c => !VaidxBase.equalOn q c) = without ks (Vaidxe.equals q) :=
  List.filter_congr fun c _ => by rw [equalOn_eq nd]

theorem free_eq {q : Question} (nd : (q.filters.map fun f => f.col).Nodup) (i : Index) : VaidxBase.isFree i q = freeB i.keys q := by
  unfold VaidxBase.isFree freeB VaidxBase.startsWith
  rw [orderLeft_eq nd, keysLeft_eq nd, Bool.eq_iff_iff, beq_iff_eq, decide_eq_true_iff]
  exact ⟨Eq.symm, Eq.symm⟩

theorem free0_eq {q : Question} (nd : (q.filters.map fun f => f.col).Nodup) : (VaidxBase.orderLeft q).isEmpty = freeB [] q := by
  unfold freeB
  rw [orderLeft_eq nd]
  cases without q.order (Vaidxe.equals q) with
  | nil => rfl
  | cons a l =>
    have : without [] (Vaidxe.equals q) = [] := rfl
    rw [this]; rfl

theorem serves_eq {q : Question} (nd : (q.filters.map fun f => f.col).Nodup) (i : Index) : VaidxBase.serves i q = servesB i q := by
  unfold VaidxBase.serves servesB
  cases i.only with
  | none => rfl
  | some f =>
    show _ = ([f].all fun f => withinC f q)
    rw [List.all_cons, List.all_nil, Bool.and_true, Bool.eq_iff_iff]
    unfold withinC
    rw [List.any_eq_true]
    constructor
    · intro h
      rw [Option.any_eq_true] at h
      obtain ⟨g, h1, h2⟩ := h
      obtain ⟨h3, h4⟩ := (filterOn_some nd).mp h1
      exact ⟨g, h3, by rw [h2, h4]; simp⟩
    · rintro ⟨g, h1, h2⟩
      rw [Bool.and_eq_true, decide_eq_true_iff] at h2
      rw [Option.any_eq_true]
      exact ⟨g, (filterOn_some nd).mpr ⟨h1, h2.1⟩, h2.2⟩

theorem mem_onceL (l : List Nat) : ∀ c, c ∈ onceL l ↔ c ∈ l := by
  have aux : ∀ (l k : List Nat) (c : Nat), c ∈ l.foldl onceF k ↔ c ∈ k ∨ c ∈ l := by
    intro l
    induction l with
    | nil => intro k c; simp
    | cons a r ih =>
      intro k c
      rw [List.foldl_cons, ih]
      unfold onceF
      by_cases h : k.contains a = true
      · rw [if_pos h, List.mem_cons]
        rw [List.contains_iff_mem] at h
        constructor
        · rintro (h1 | h1)
          · exact .inl h1
          · exact .inr (.inr h1)
        · rintro (h1 | h1 | h1)
          · exact .inl h1
          · exact .inl (h1 ▸ h)
          · exact .inr h1
      · rw [if_neg h, List.mem_append, List.mem_singleton, List.mem_cons, or_assoc]
  intro c
  rw [onceL, aux]; simp

theorem covers_eq (i : Index) (q : Question) : VaidxBase.covers i q = coversB i q := by
  rw [Bool.eq_iff_iff]
  unfold VaidxBase.covers coversB without
  rw [decide_eq_true_iff, List.length_eq_zero_iff, List.filter_eq_nil_iff, List.all_eq_true]
  constructor
  · intro h c hc
    rw [mem_onceL] at hc
    rw [h c hc]; simp
  · intro h c hc
    have := h c ((mem_onceL _ c).mpr hc)
    simpa using this

theorem rangeCols_eq (q : Question) (nd : (q.filters.map fun f => f.col).Nodup) : ∀ ks : List Nat, rangeCols (Vaidxe.equals q) ks = ks.take (VaidxBase.equalKeys q ks + 1)
  | [] => rfl
  | c :: l => by
    rw [rangeCols, VaidxBase.equalKeys, ← equalOn_eq nd]
    by_cases h : VaidxBase.equalOn q c = true
    · rw [if_pos h, if_pos h, rangeCols_eq q nd l, List.take_succ_cons]
    · rw [if_neg h, if_neg h]; rfl

theorem range_all {q : Question} (nd : (q.filters.map fun f => f.col).Nodup) (i : Index) (r : List Nat) : (VaidxBase.rangeFilters i q).all (VaidxBase.passes r) = (rangeF i q).all (VaidxBase.passes r) := by
  have hm : ∀ f, f ∈ VaidxBase.rangeFilters i q ↔ f ∈ rangeF i q := by
    intro f
    unfold VaidxBase.rangeFilters rangeF
    rw [List.mem_filterMap, List.mem_filter, rangeCols_eq q nd, List.contains_iff_mem]
    constructor
    · rintro ⟨c, h1, h2⟩
      obtain ⟨h3, h4⟩ := (filterOn_some nd).mp h2
      exact ⟨h3, h4 ▸ h1⟩
    · rintro ⟨h1, h2⟩
      exact ⟨f.col, h2, (filterOn_some nd).mpr ⟨h1, rfl⟩⟩
  rw [Bool.eq_iff_iff, List.all_eq_true, List.all_eq_true]
  exact ⟨fun h f hf => h f ((hm f).mpr hf), fun h f hf => h f ((hm f).mp hf)⟩

theorem own_eq (i : Index) (q : Question) : VaidxBase.ownFilters i q = ownF i q := rfl

theorem isIn_eq (i : Index) (r : List Nat) : VaidxBase.isIn i r = i.only.toList.all (VaidxBase.passes r) := by
  unfold VaidxBase.isIn
  cases i.only <;> simp

theorem entry_eq (t : Table) (i : Index) : (t.groups.filter fun g => VaidxBase.isIn i g.row) = entryG t i := by
  unfold entryG
  exact List.filter_congr fun g _ => isIn_eq i g.row

theorem foldl_add : ∀ (l : List Nat) (a : Nat), l.foldl (fun a b => a + b) a = a + l.sum
  | [], a => by simp
  | b :: l, a => by rw [List.foldl_cons, foldl_add l, List.sum_cons]; omega

theorem rowsOf_eq (l : List Group) : VaidxBase.rowsOf l = (l.map fun g => g.count).sum := by
  unfold VaidxBase.rowsOf; rw [foldl_add]; omega
theorem sum_eq (l : List Nat) : Vaidxe.sum l = l.sum := by
  unfold Vaidxe.sum; rw [foldl_add]; omega

theorem allRows_eq (t : Table) : VaidxBase.allRows t = rowSum t := rowsOf_eq _
theorem roomOf_eq (t : Table) (i : Index) : VaidxBase.roomOf t i = roomR t i := by
  unfold VaidxBase.roomOf roomR VaidxBase.entriesIn
  rw [rowsOf_eq, entry_eq, VaidxBase.columnsOf, List.length_append]

end IX
end

section
/-! The plain law: groups in order, the range's entries. -/
namespace IX
open VaidxBase (Question Filter Group Table Index)

theorem less_key : ∀ (ks : List Nat) (r s : List Nat), VaidxBase.less ks r s = true ↔ zs (ks.map (VaidxBase.valueAt r)) < zs (ks.map (VaidxBase.valueAt s))
  | [], r, s => by
    show (false = true) ↔ (([] : List Int) < [])
    simp
  | c :: l, r, s => by
    rw [VaidxBase.less]
    show _ ↔ ((VaidxBase.valueAt r c : Int) :: zs (l.map (VaidxBase.valueAt r))) < ((VaidxBase.valueAt s c : Int) :: zs (l.map (VaidxBase.valueAt s)))
    rw [List.cons_lt_cons_iff, Bool.or_eq_true, Bool.and_eq_true, decide_eq_true_iff, beq_iff_eq, less_key l r s, Int.ofNat_lt, Int.ofNat_inj]

theorem le_key (i : Index) (a b : Group) : decide (keyRow i a ≤ keyRow i b) = !VaidxBase.less i.keys b.row a.row := by
  rw [Bool.eq_iff_iff, decide_eq_true_iff, Bool.not_eq_true', ← Bool.not_eq_true, less_key]
  exact (List.not_lt (l₁ := keyRow i b) (l₂ := keyRow i a)).symm

section
variable (lt : Group → Group → Bool)
def putB (a : Group) : List Group → List Group
  | [] => [a]
  | h :: l => if lt h a then h :: putB a l else a :: h :: l
def putA (g : Group) : List Group → List Group
  | [] => [g]
  | h :: l => if lt g h then g :: h :: l else h :: putA g l
variable (tr : ∀ a b c, lt a b = true → lt b c = true → lt a c = true) (nt : ∀ a b c, lt a b = false → lt b c = false → lt a c = false)
include tr nt
theorem putBA (a g : Group) : ∀ l, putB lt a (putA lt g l) = putA lt g (putB lt a l)
  | [] => by
    show putB lt a [g] = putA lt g [a]
    rw [putB, putA]; rfl
  | h :: l => by
    rw [putA, putB]
    by_cases h1 : lt g h = true
    · rw [if_pos h1, putB]
      by_cases h2 : lt h a = true
      · rw [if_pos (tr _ _ _ h1 h2), if_pos h2, putA, if_pos h1, putB, if_pos h2]
      · rw [if_neg h2, putA, putB, if_neg h2]
        by_cases h3 : lt g a = true
        · rw [if_pos h3, if_pos h3]
        · rw [if_neg h3, if_neg h3, putA, if_pos h1]
    · rw [if_neg h1, putB]
      by_cases h2 : lt h a = true
      · rw [if_pos h2, if_pos h2, putA, if_neg h1, putBA]
      · rw [if_neg h2, if_neg h2, putA, putA, if_neg h1]
        have h3 : lt g a = false := nt _ _ _ (by simpa using h1) (by simpa using h2)
        rw [h3]; rfl
theorem putB_fold (a : Group) : ∀ (l k : List Group), putB lt a (l.foldl (fun k g => putA lt g k) k) = l.foldl (fun k g => putA lt g k) (putB lt a k)
  | [], k => rfl
  | g :: l, k => by rw [List.foldl_cons, List.foldl_cons, putB_fold a l, putBA lt tr nt]
omit tr nt in
theorem putB_mid (a : Group) : ∀ (l1 l2 : List Group), (∀ b ∈ l1, lt b a = true) → (∀ b ∈ l2, lt b a = false) → putB lt a (l1 ++ l2) = l1 ++ a :: l2
  | [], [], _, _ => rfl
  | [], b :: l, _, h => by
    show putB lt a (b :: l) = a :: b :: l
    rw [putB, h b (List.mem_cons_self)]; rfl
  | b :: l, l2, h1, h2 => by
    show putB lt a (b :: (l ++ l2)) = b :: (l ++ a :: l2)
    rw [putB, h1 b (List.mem_cons_self), if_pos rfl, putB_mid a l l2 (fun x hx => h1 x (List.mem_cons_of_mem _ hx)) h2]
theorem sort_put (tot : ∀ a b, lt a b = true → lt b a = false) : ∀ l : List Group, l.mergeSort (fun a b => !lt b a) = l.foldl (fun k g => putA lt g k) []
  | [] => by simp
  | a :: l => by
    have trn : ∀ a b c : Group, (!lt b a) = true → (!lt c b) = true → (!lt c a) = true := by
      intro a b c h1 h2
      rw [Bool.not_eq_true'] at *
      exact nt _ _ _ h2 h1
    have ttl : ∀ a b : Group, ((!lt b a) || (!lt a b)) = true := by
      intro a b
      cases h : lt b a with
      | false => rfl
      | true => rw [tot _ _ h]; rfl
    obtain ⟨l1, l2, e1, e2, h1⟩ := List.mergeSort_cons (le := fun a b => !lt b a) trn ttl a l
    have pw := List.pairwise_mergeSort (le := fun a b => !lt b a) trn ttl (a :: l)
    rw [e1, List.pairwise_append] at pw
    have h2 : ∀ b ∈ l2, lt b a = false := by
      intro b hb
      have := (List.pairwise_cons.mp pw.2.1).1 b hb
      simpa using this
    have h1' : ∀ b ∈ l1, lt b a = true := by
      intro b hb
      have := h1 b hb
      simpa using this
    rw [e1, ← putB_mid lt a l1 l2 h1' h2, ← e2, sort_put tot l, putB_fold lt tr nt]
    rfl
end

theorem putGroup_eq (cs : List Nat) (g : Group) : ∀ l, VaidxBase.putGroup cs g l = putA (fun a b => VaidxBase.less cs a.row b.row) g l
  | [] => rfl
  | h :: l => by rw [VaidxBase.putGroup, putA, putGroup_eq cs g l]

theorem less_tr (cs : List Nat) (a b c : List Nat) (h1 : VaidxBase.less cs a b = true) (h2 : VaidxBase.less cs b c = true) : VaidxBase.less cs a c = true := by
  rw [less_key] at *; exact List.lt_trans h1 h2
theorem less_nt (cs : List Nat) (a b c : List Nat) (h1 : VaidxBase.less cs a b = false) (h2 : VaidxBase.less cs b c = false) : VaidxBase.less cs a c = false := by
  rw [← Bool.not_eq_true, less_key] at *
  rw [List.not_lt] at *
  exact List.le_trans h2 h1
theorem less_as (cs : List Nat) (a b : List Nat) (h1 : VaidxBase.less cs a b = true) : VaidxBase.less cs b a = false := by
  rw [less_key] at h1
  rw [← Bool.not_eq_true, less_key]
  exact List.lt_asymm h1

theorem sortedBy_eq (i : Index) (l : List Group) : VaidxBase.sortedBy i.keys l = l.mergeSort fun a b => decide (keyRow i a ≤ keyRow i b) := by
  have e : (fun a b => decide (keyRow i a ≤ keyRow i b)) = fun a b : Group => !(fun a b : Group => VaidxBase.less i.keys a.row b.row) b a := by
    funext a b; exact le_key i a b
  rw [e, sort_put (fun a b : Group => VaidxBase.less i.keys a.row b.row) (fun a b c => less_tr _ _ _ _) (fun a b c => less_nt _ _ _ _) (fun a b => less_as _ _ _), VaidxBase.sortedBy]
  congr 1
  funext k g
  exact putGroup_eq _ _ _

theorem filter_putA (cs : List Nat) (p : Group → Bool) (g : Group) : ∀ l : List Group, l.Pairwise (fun a b => VaidxBase.less cs b.row a.row = false) →
    (VaidxBase.putGroup cs g l).filter p = if p g then VaidxBase.putGroup cs g (l.filter p) else l.filter p
  | [], _ => by
    rw [VaidxBase.putGroup, List.filter_cons, List.filter_nil, VaidxBase.putGroup]
  | h :: l, pw => by
    have pw' := List.pairwise_cons.mp pw
    have ih := filter_putA cs p g l pw'.2
    rw [VaidxBase.putGroup]
    by_cases h1 : VaidxBase.less cs g.row h.row = true
    · rw [if_pos h1, List.filter_cons]
      by_cases hp : p g = true
      · rw [if_pos hp, if_pos hp]
        -- g comes before all of the filtered rest
        have front : ∀ m : List Group, (∀ b ∈ m, VaidxBase.less cs g.row b.row = true) → VaidxBase.putGroup cs g m = g :: m := by
          intro m hm
          cases m with
          | nil => rfl
          | cons b m => rw [VaidxBase.putGroup, if_pos (hm b (List.mem_cons_self))]
        rw [front]
        intro b hb
        have hb' := (List.mem_filter.mp hb).1
        rcases List.mem_cons.mp hb' with e | hb''
        · rw [e]; exact h1
        · have h2 := pw'.1 b hb''
          cases h3 : VaidxBase.less cs g.row b.row with
          | true => rfl
          | false =>
            have := less_nt cs _ _ _ h3 h2
            rw [h1] at this; exact absurd this (by simp)
      · rw [if_neg hp, if_neg hp]
    · rw [if_neg h1, List.filter_cons, ih]
      by_cases hh : p h = true
      · rw [if_pos hh]
        by_cases hp : p g = true
        · rw [if_pos hp, if_pos hp, List.filter_cons, if_pos hh, VaidxBase.putGroup, if_neg h1]
        · rw [if_neg hp, if_neg hp, List.filter_cons, if_pos hh]
      · rw [if_neg hh, List.filter_cons, if_neg hh]

theorem sortedBy_pw (i : Index) (l : List Group) : (VaidxBase.sortedBy i.keys l).Pairwise (fun a b => VaidxBase.less i.keys b.row a.row = false) := by
  rw [sortedBy_eq]
  have := List.pairwise_mergeSort (le := fun a b : Group => decide (keyRow i a ≤ keyRow i b)) (fun a b c h1 h2 => by
    rw [le_key, Bool.not_eq_true'] at *; exact less_nt _ _ _ _ h2 h1) (fun a b => by
    rw [le_key, le_key]
    cases h : VaidxBase.less i.keys b.row a.row with
    | false => rfl
    | true => rw [less_as _ _ _ h]; rfl) l
  exact this.imp (fun {a b} h => by rw [le_key, Bool.not_eq_true'] at h; exact h)

theorem sortedBy_snoc (cs : List Nat) (l : List Group) (g : Group) : VaidxBase.sortedBy cs (l ++ [g]) = VaidxBase.putGroup cs g (VaidxBase.sortedBy cs l) := by
  rw [VaidxBase.sortedBy, List.foldl_append]; rfl

theorem sortedBy_filter (i : Index) (p : Group → Bool) (l : List Group) : (VaidxBase.sortedBy i.keys l).filter p = VaidxBase.sortedBy i.keys (l.filter p) := by
  have aux : ∀ n (l : List Group), l.length = n → (VaidxBase.sortedBy i.keys l).filter p = VaidxBase.sortedBy i.keys (l.filter p) := by
    intro n
    induction n with
    | zero => intro l h; rw [List.length_eq_zero_iff] at h; subst h; rfl
    | succ n ih =>
      intro l h
      have hne : l ≠ [] := by intro e; rw [e] at h; exact absurd h (by simp)
      obtain ⟨k, g, rfl⟩ : ∃ k g, l = k ++ [g] := ⟨l.dropLast, l.getLast hne, (List.dropLast_concat_getLast hne).symm⟩
      have hk : k.length = n := by simpa using h
      rw [sortedBy_snoc, filter_putA _ _ _ _ (sortedBy_pw i k), ih k hk, List.filter_append]
      by_cases hp : p g = true
      · rw [if_pos hp, List.filter_cons, if_pos hp, List.filter_nil, sortedBy_snoc]
      · rw [if_neg hp, List.filter_cons, if_neg hp, List.filter_nil, List.append_nil]
  exact aux _ l rfl

theorem entries_eq {q : Question} (nd : (q.filters.map fun f => f.col).Nodup) (t : Table) (i : Index) : VaidxBase.entries t i q = inRange t i q := by
  unfold VaidxBase.entries inRange sortedG inside
  have e : (VaidxBase.sortedBy i.keys (t.groups.filter fun g => VaidxBase.isIn i g.row)).filter (fun g => (VaidxBase.rangeFilters i q).all (VaidxBase.passes g.row)) =
      ((entryG t i).filter fun g => (rangeF i q).all (VaidxBase.passes g.row)).mergeSort fun a b => decide (keyRow i a ≤ keyRow i b) := by
    rw [sortedBy_filter, sortedBy_eq, entry_eq]
    congr 1
    exact List.filter_congr fun g _ => range_all nd i g.row
  show (if q.back = true then (_ : List Group).reverse else _) = _
  rw [e]

end IX
end

section
/-! The plain law: what's touched, what it costs. -/
namespace IX
open VaidxBase (Question Filter Group Table Index)

def tl (lim : Bool) (p : List Nat → Bool) : List Group → Nat → List Nat
  | [], _ => []
  | g :: l, left => if (lim && decide (left = 0)) = true then 0 :: tl lim p l left else if (lim && p g.row) = true then min g.count left :: tl lim p l (left - min g.count left) else g.count :: tl lim p l left

theorem touched_tl (lim : Bool) (fs : List Filter) : ∀ (gs : List Group) (left : Nat) (ts : List Nat), (gs.foldl (touchStep lim fs) (left, ts)).2 = ts ++ tl lim (fun r => fs.all (VaidxBase.passes r)) gs left
  | [], left, ts => by simp [tl]
  | g :: l, left, ts => by
    rw [List.foldl_cons, tl]
    unfold touchStep
    by_cases h1 : (lim && decide (left = 0)) = true
    · rw [if_pos h1, if_pos h1]
      show (l.foldl (touchStep lim fs) (left, ts ++ [0])).2 = _
      rw [touched_tl lim fs l, List.append_assoc]; rfl
    · rw [if_neg h1, if_neg h1]
      by_cases h2 : (lim && fs.all (VaidxBase.passes g.row)) = true
      · rw [if_pos h2, if_pos h2]
        show (l.foldl (touchStep lim fs) (left - min g.count left, ts ++ [min g.count left])).2 = _
        rw [touched_tl lim fs l, List.append_assoc]; rfl
      · rw [if_neg h2, if_neg h2]
        show (l.foldl (touchStep lim fs) (left, ts ++ [g.count])).2 = _
        rw [touched_tl lim fs l, List.append_assoc]; rfl

theorem tl_false (p : List Nat → Bool) : ∀ (l : List Group) (a b : Nat), tl false p l a = tl false p l b
  | [], _, _ => rfl
  | g :: l, a, b => by
    rw [tl, tl]
    show g.count :: tl false p l a = g.count :: tl false p l b
    rw [tl_false p l a b]

def rw_ (p : List Nat → Bool) : List Group → List Nat → Nat
  | g :: l, t :: ts => (if p g.row then t else 0) + rw_ p l ts
  | _, _ => 0

theorem rowsP_rw (fs : List Filter) : ∀ (gs : List Group) (ts : List Nat) (a : Nat), (gs.zip ts).foldl (rowsStep fs) a = a + rw_ (fun r => fs.all (VaidxBase.passes r)) gs ts
  | [], ts, a => by simp [rw_]
  | g :: l, [], a => by simp [rw_]
  | g :: l, t :: ts, a => by
    rw [List.zip_cons_cons, List.foldl_cons, rowsP_rw fs l ts, rw_]
    unfold rowsStep
    by_cases h : fs.all (VaidxBase.passes g.row) = true
    · rw [if_pos h, if_pos h]; omega
    · rw [if_neg h, if_neg h]; omega

theorem tl_zero (p : List Nat → Bool) : ∀ l : List Group, (tl true p l 0).sum = 0 ∧ ∀ f, rw_ f l (tl true p l 0) = 0
  | [] => ⟨rfl, fun _ => rfl⟩
  | g :: l => by
    have ih := tl_zero p l
    rw [tl, if_pos (by rfl)]
    refine ⟨?_, fun f => ?_⟩
    · rw [List.sum_cons, ih.1]
    · rw [rw_, ih.2 f]
      by_cases h : f g.row = true
      · rw [if_pos h]
      · rw [if_neg h]

theorem go_eq (first last : List Nat → Bool) (L : Nat) : ∀ (l : List Group) (a b c : Nat), VaidxBase.goThrough first last L l ⟨a, b, c⟩ =
    ⟨a + (tl (decide (L ≠ 0)) last l (L - c)).sum, b + rw_ first l (tl (decide (L ≠ 0)) last l (L - c)), c + rw_ last l (tl (decide (L ≠ 0)) last l (L - c))⟩
  | [], a, b, c => rfl
  | g :: l, a, b, c => by
    rw [VaidxBase.goThrough]
    by_cases h0 : L ≠ 0 ∧ L - c = 0
    · simp only []
      rw [if_pos h0, h0.2, decide_eq_true h0.1, (tl_zero last (g :: l)).1, (tl_zero last (g :: l)).2, (tl_zero last (g :: l)).2]
      rfl
    · simp only []
      rw [if_neg h0, tl]
      have h0' : ¬ (decide (L ≠ 0) && decide (L - c = 0)) = true := by
        intro e; rw [Bool.and_eq_true, decide_eq_true_iff, decide_eq_true_iff] at e; exact h0 e
      rw [if_neg h0']
      have cc : ∀ n m : Nat, (if last g.row = true then c + n else c) = c + (if last g.row = true then n else 0) := by
        intro n _; by_cases h : last g.row = true
        · rw [if_pos h, if_pos h]
        · rw [if_neg h, if_neg h]; rfl
      have bb : ∀ n : Nat, (if first g.row = true then b + n else b) = b + (if first g.row = true then n else 0) := by
        intro n; by_cases h : first g.row = true
        · rw [if_pos h, if_pos h]
        · rw [if_neg h, if_neg h]; rfl
      by_cases h1 : (decide (L ≠ 0) && last g.row) = true
      · rw [if_pos h1]
        rw [Bool.and_eq_true, decide_eq_true_iff] at h1
        have hn : (if L ≠ 0 ∧ last g.row = true ∧ L - c < g.count then L - c else g.count) = min g.count (L - c) := by
          by_cases h2 : L - c < g.count
          · rw [if_pos ⟨h1.1, h1.2, h2⟩]; omega
          · rw [if_neg (fun e => h2 e.2.2)]; omega
        rw [hn, go_eq first last L l, bb, cc _ 0, if_pos h1.2, rw_, rw_, if_pos h1.2, List.sum_cons]
        have : L - (c + min g.count (L - c)) = L - c - min g.count (L - c) := by omega
        rw [this, Nat.add_assoc, Nat.add_assoc, Nat.add_assoc]
      · rw [if_neg h1]
        rw [Bool.and_eq_true, decide_eq_true_iff] at h1
        have hn : (if L ≠ 0 ∧ last g.row = true ∧ L - c < g.count then L - c else g.count) = g.count := by
          rw [if_neg (fun e => h1 ⟨e.1, e.2.1⟩)]
        rw [hn, go_eq first last L l, bb, cc _ 0, rw_, rw_, List.sum_cons]
        by_cases hL : L = 0
        · subst hL
          have hd : decide ((0 : Nat) ≠ 0) = false := by decide
          rw [hd, tl_false last l (0 - (c + if last g.row = true then g.count else 0)) (0 - c), Nat.add_assoc, Nat.add_assoc, Nat.add_assoc]
        · have hf : ¬ last g.row = true := fun e => h1 ⟨hL, e⟩
          rw [if_neg hf, Nat.add_assoc, Nat.add_assoc, Nat.add_assoc]
          rfl

theorem tl_lim (fr : Bool) (q : Question) (p : List Nat → Bool) (gs : List Group) : tl (decide ((if fr = true then q.limit else 0) ≠ 0)) p gs ((if fr = true then q.limit else 0) - 0) = tl (limB fr q) p gs q.limit := by
  cases fr with
  | false => exact tl_false p gs _ _
  | true =>
    have : decide ((if true = true then q.limit else 0) ≠ 0) = limB true q := by
      unfold limB; rw [if_pos rfl, Bool.true_and, Bool.eq_iff_iff, decide_eq_true_iff, decide_eq_true_iff]; omega
    rw [this]; rfl

theorem touched_eq (fr : Bool) (q : Question) (gs : List Group) : touched (limB fr q) q gs = tl (limB fr q) (VaidxBase.found q) gs q.limit := by
  unfold touched
  rw [touched_tl]; rfl

theorem go_touched (first : List Filter) (fr : Bool) (q : Question) (gs : List Group) : VaidxBase.goThrough (fun r => first.all (VaidxBase.passes r)) (VaidxBase.found q) (if fr = true then q.limit else 0) gs ⟨0, 0, 0⟩ =
    ⟨(touched (limB fr q) q gs).sum, rowsP gs (touched (limB fr q) q gs) first, rowsP gs (touched (limB fr q) q gs) q.filters⟩ := by
  rw [go_eq, tl_lim, touched_eq, rowsP, rowsP, rowsP_rw, rowsP_rw, Nat.zero_add]
  rfl

theorem costI_eq {q : Question} (nd : (q.filters.map fun f => f.col).Nodup) (t : Table) (i : Index) : VaidxBase.indexCost t i q = costI t i q := by
  unfold VaidxBase.indexCost VaidxBase.indexWork costI costOn
  simp only []
  rw [entries_eq nd, free_eq nd, covers_eq, own_eq, go_touched]
  simp only [VaidxBase.ENTRY, VaidxBase.LOOKUP, VaidxBase.SORT]
  rw [Nat.one_mul]
  cases coversB i q <;> cases freeB i.keys q <;> rfl

theorem costT_eq {q : Question} (nd : (q.filters.map fun f => f.col).Nodup) (t : Table) : VaidxBase.wholeCost t q = costT t q := by
  unfold VaidxBase.wholeCost VaidxBase.wholeWork costT
  simp only []
  have e : VaidxBase.found q = fun r => q.filters.all (VaidxBase.passes r) := rfl
  rw [free0_eq nd]
  have := go_touched q.filters (freeB [] q) q t.groups
  rw [← e] at this
  rw [this]
  simp only [VaidxBase.ROW, VaidxBase.SORT]
  cases freeB [] q <;> rfl

end IX
end

section
/-! The plain law: sets, plans, the first least one. -/
namespace IX
open VaidxBase (Question Filter Group Table Index)
open Vaidxd (Offer Set_)

theorem sets_eq (n : Nat) (h : n < 9) : setsN n = Vaidxd.allSets n := by
  have : ∀ n, n < 9 → setsN n = Vaidxd.allSets n := by decide +kernel
  exact this n h
theorem sets_lt (n : Nat) (h : n < 9) : ∀ s ∈ Vaidxd.allSets n, ∀ k ∈ s, k < n := by
  have : ∀ n, n < 9 → (Vaidxd.allSets n).all (fun s => s.all fun k => decide (k < n)) = true := by decide +kernel
  intro s hs k hk
  have h1 := this n h
  rw [List.all_eq_true] at h1
  have h2 := h1 s hs
  rw [List.all_eq_true] at h2
  exact of_decide_eq_true (h2 k hk)

def one (q : Question) : Question := { q with times := 1 }
theorem costs_eq {t : Table} {q : Question} (nd : (q.filters.map fun f => f.col).Nodup) (os : List Offer) : Vaidxd.costsOf t os { q with times := 1 } = ⟨costT t q, os.map fun o => if servesB o.index q then some (costI t o.index q) else none⟩ := by
  unfold Vaidxd.costsOf
  simp only [Nat.one_mul]
  have e1 : VaidxBase.wholeCost t { q with times := 1 } = costT t q := costT_eq (q := { q with times := 1 }) nd t
  have e2 : ∀ o : Offer, (if VaidxBase.serves o.index { q with times := 1 } = true then some (VaidxBase.indexCost t o.index { q with times := 1 }) else none) = if servesB o.index q = true then some (costI t o.index q) else none := by
    intro o
    have h1 : VaidxBase.serves o.index { q with times := 1 } = servesB o.index q := serves_eq (q := { q with times := 1 }) nd o.index
    have h2 : VaidxBase.indexCost t o.index { q with times := 1 } = costI t o.index q := costI_eq (q := { q with times := 1 }) nd t o.index
    rw [h1, h2]
  rw [e1]
  congr 1
  exact List.map_congr_left fun o _ => e2 o

theorem costBy_eq (w : Nat) (t : Table) (q : Question) (os : List Offer) (i : Nat) (hi : i < os.length) : Vaidxd.costBy ⟨w, os.map fun o => if servesB o.index q then some (costI t o.index q) else none⟩ i =
    if servesB os[i].index q then some (costI t os[i].index q) else none := by
  unfold Vaidxd.costBy
  simp only []
  rw [List.getElem?_map, List.getElem?_eq_getElem hi]
  rfl

theorem ways_at (t : Table) (q : Question) (os : List Offer) (i : Nat) (hi : i < os.length) : wayAt (waysL t q os) (i + 1) = if servesB os[i].index q then (costI t os[i].index q : Int) else -1 := by
  unfold wayAt waysL
  rw [List.getElem?_cons_succ, List.getElem?_map, List.getElem?_eq_getElem hi]
  rfl

theorem ask_eq {t : Table} {q : Question} (nd : (q.filters.map fun f => f.col).Nodup) (os : List Offer) (s : List Nat) (hs : ∀ k ∈ s, k < os.length) : askC (waysL t q os) s = Vaidxd.leastCost (Vaidxd.costsOf t os { q with times := 1 }) s := by
  rw [costs_eq nd]
  have aux : ∀ (s : List Nat) (a : Nat), (∀ k ∈ s, k < os.length) → s.foldl (askStep (waysL t q os)) (a : Int) = ((s.foldl (fun n i => match Vaidxd.costBy ⟨costT t q, os.map fun o => if servesB o.index q then some (costI t o.index q) else none⟩ i with
      | some m => Nat.min n m
      | none => n) a : Nat) : Int) := by
    intro s
    induction s with
    | nil => intro a _; rfl
    | cons i s ih =>
      intro a h
      have hi := h i (List.mem_cons_self)
      rw [List.foldl_cons, List.foldl_cons, costBy_eq _ _ _ _ _ hi]
      unfold askStep
      rw [ways_at _ _ _ _ hi]
      by_cases hv : servesB os[i].index q = true
      · rw [if_pos hv, if_pos (Int.natCast_nonneg _), if_pos hv]
        have : min (a : Int) (costI t os[i].index q : Int) = ((Nat.min a (costI t os[i].index q) : Nat) : Int) := by
          show _ = ((min a (costI t os[i].index q) : Nat) : Int)
          omega
        rw [this]
        exact ih _ fun k hk => h k (List.mem_cons_of_mem _ hk)
      · rw [if_neg hv, if_neg (by omega), if_neg hv]
        exact ih _ fun k hk => h k (List.mem_cons_of_mem _ hk)
  unfold askC askI Vaidxd.leastCost
  have h0 : wayAt (waysL t q os) 0 = (costT t q : Int) := rfl
  rw [h0, aux s _ hs]
  rfl

/-- A plan tells what the document's case tells of a set. -/
structure Sm (c : Vaidxe.Case) (ts : List Nat) (p : Pl) (s : Set_) : Prop where
  ch : p.chosen = s
  up : p.upkeep = Vaidxe.keeping c s
  ask : ∀ k, natAt p.rises k = Vaidxe.askCost c s k
  rl : p.rises.length = c.costs.length
  tl : ts.length = c.costs.length
  ti : ∀ k, natAt ts k = Vaidxe.timesOf c k

theorem fold_cost : ∀ (rs ts : List Nat) (a : Nat), rs.length = ts.length → (rs.zip ts).foldl costStep a = a + ((List.range rs.length).map fun j => natAt ts j * natAt rs j).sum
  | [], [], a, _ => rfl
  | r :: rs, t :: ts, a, h => by
    rw [List.zip_cons_cons, List.foldl_cons, fold_cost rs ts _ (by simpa using h), List.length_cons, List.range_succ_eq_map, List.map_cons, List.sum_cons, List.map_map]
    have : (fun j => natAt (t :: ts) j * natAt (r :: rs) j) ∘ Nat.succ = fun j => natAt ts j * natAt rs j := by
      funext j; unfold natAt; simp
    rw [this]
    unfold costStep
    have h1 : natAt (t :: ts) 0 * natAt (r :: rs) 0 = r * t := by unfold natAt; simp [Nat.mul_comm]
    rw [h1]; simp only []; omega
  | [], _ :: _, _, h => by simp at h
  | _ :: _, [], _, h => by simp at h

theorem sm_cost {c : Vaidxe.Case} {ts : List Nat} {p : Pl} {s : Set_} (h : Sm c ts p s) : costOf p ts = Vaidxe.cost c s := by
  unfold costOf Vaidxe.cost
  rw [fold_cost _ _ _ (h.rl.trans h.tl.symm), sum_eq, h.up, h.rl]
  congr 1
  congr 1
  exact List.map_congr_left fun j _ => by rw [h.ask, h.ti]

theorem sum_but : ∀ (l : List Nat) (f : Nat → Nat) (k : Nat), l.Nodup → k ∈ l → (l.map f).sum = (l.map fun j => if j = k then 0 else f j).sum + f k
  | [], _, _, _, h => absurd h (List.not_mem_nil)
  | a :: l, f, k, nd, h => by
    rw [List.nodup_cons] at nd
    rw [List.map_cons, List.map_cons, List.sum_cons, List.sum_cons]
    by_cases e : a = k
    · subst e
      rw [if_pos rfl]
      have : (l.map fun j => if j = a then 0 else f j) = l.map f := List.map_congr_left fun j hj => by
        rw [if_neg (fun e : j = a => nd.1 (e ▸ hj))]
      rw [this]; omega
    · rw [if_neg e]
      have hk : k ∈ l := by
        rcases List.mem_cons.mp h with h | h
        · exact absurd h.symm e
        · exact h
      have := sum_but l f k nd.2 hk
      omega

theorem sm_but {c : Vaidxe.Case} {ts : List Nat} {p : Pl} {s : Set_} (h : Sm c ts p s) (k : Nat) (hk : k < c.costs.length) : costW p ts k = Vaidxe.costBut c s k := by
  unfold costW
  rw [sm_cost h, h.ask, h.ti]
  unfold Vaidxe.cost Vaidxe.costBut
  rw [sum_eq, sum_eq, sum_but (List.range c.costs.length) (fun j => Vaidxe.timesOf c j * Vaidxe.askCost c s j) k List.nodup_range (List.mem_range.mpr hk), Nat.mul_comm (Vaidxe.askCost c s k)]
  omega

/-- Plans are the sets' plans. -/
def Sms (c : Vaidxe.Case) (ts : List Nat) (P : Set_ → Pl) (l : List Set_) : Prop := ∀ s ∈ l, Sm c ts (P s) s

theorem first_eq {c : Vaidxe.Case} {ts : List Nat} {P : Set_ → Pl} : ∀ (l : List Set_) (b : Option Set_), Sms c ts P l → (∀ x, b = some x → Sm c ts (P x) x) →
    (l.map P).foldl (leastStep ts) (b.map P) = (l.foldl (fun (b : Option Set_) s => match b with
      | none => some s
      | some x => if Vaidxe.cost c s < Vaidxe.cost c x then some s else b) b).map P
  | [], _, _, _ => rfl
  | s :: l, none, h, hb => by
    rw [List.map_cons, List.foldl_cons, List.foldl_cons]
    exact first_eq l (some s) (fun x hx => h x (List.mem_cons_of_mem _ hx)) (fun x hx => by cases hx; exact h s (List.mem_cons_self))
  | s :: l, some x, h, hb => by
    rw [List.map_cons, List.foldl_cons, List.foldl_cons]
    have hs := h s (List.mem_cons_self)
    have hx := hb x rfl
    show (l.map P).foldl (leastStep ts) (if costOf (P s) ts < costOf (P x) ts then some (P s) else some (P x)) = _
    rw [sm_cost hs, sm_cost hx]
    simp only []
    by_cases hc : Vaidxe.cost c s < Vaidxe.cost c x
    · rw [if_pos hc, if_pos hc]
      exact first_eq l (some s) (fun x hx => h x (List.mem_cons_of_mem _ hx)) (fun x hx => by cases hx; exact hs)
    · rw [if_neg hc, if_neg hc]
      exact first_eq l (some x) (fun x hx => h x (List.mem_cons_of_mem _ hx)) hb

theorem firstP_eq {c : Vaidxe.Case} {ts : List Nat} {P : Set_ → Pl} {l : List Set_} (h : Sms c ts P l) : firstP (l.map P) ts = (Vaidxe.firstLeast c l).map P :=
  first_eq l none h (fun x hx => by cases hx)

theorem least_mem {c : Vaidxe.Case} : ∀ (l : List Set_) (b : Option Set_) (x : Set_), (l.foldl (fun (b : Option Set_) s => match b with
      | none => some s
      | some x => if Vaidxe.cost c s < Vaidxe.cost c x then some s else b) b) = some x → x ∈ l ∨ b = some x
  | [], b, x, h => .inr h
  | s :: l, none, x, h => by
    rw [List.foldl_cons] at h
    rcases least_mem l _ x h with h | h
    · exact .inl (List.mem_cons_of_mem _ h)
    · cases h; exact .inl (List.mem_cons_self)
  | s :: l, some y, x, h => by
    rw [List.foldl_cons] at h
    rcases least_mem l _ x h with h | h
    · exact .inl (List.mem_cons_of_mem _ h)
    · simp only [] at h
      by_cases hc : Vaidxe.cost c s < Vaidxe.cost c y
      · rw [if_pos hc] at h; cases h; exact .inl (List.mem_cons_self)
      · rw [if_neg hc] at h; exact .inr h
theorem firstLeast_mem {c : Vaidxe.Case} {l : List Set_} {x : Set_} (h : Vaidxe.firstLeast c l = some x) : x ∈ l := by
  rcases least_mem l none x h with h | h
  · exact h
  · cases h

theorem plan_sm {t : Table} {qs : List Question} {os : List Offer} (hi : OkIn t qs os) (s : Set_) (hs : ∀ k ∈ s, k < os.length) : Sm (Vaidxe.caseOf t qs os) (qs.map fun q => q.times) (planOf os (qs.map fun q => waysL t q os) s) s where
  ch := rfl
  up := by
    show (s.map (upkAt os)).sum = _
    unfold Vaidxe.keeping Vaidxe.caseOf
    rw [sum_eq]
    congr 1
    exact List.map_congr_left fun k _ => by unfold upkAt; rw [List.getElem?_map]
  ask := fun k => by
    show natAt ((qs.map fun q => waysL t q os).map fun ws => askC ws s) k = _
    unfold natAt Vaidxe.askCost Vaidxe.caseOf
    simp only [List.getElem?_map]
    cases h : qs[k]? with
    | none => rfl
    | some q =>
      have hq := List.mem_of_getElem? h
      exact ask_eq (hi.hq q hq).nd os s hs
  rl := by simp [planOf, Vaidxe.caseOf]
  tl := by simp [Vaidxe.caseOf]
  ti := fun k => rfl

theorem plans_eq {t : Table} {qs : List Question} {os : List Offer} (hi : OkIn t qs os) (room : Nat) : plansIn t qs os room = (Vaidxe.within_ (Vaidxe.caseOf t qs os) room).map (planOf os (qs.map fun q => waysL t q os)) := by
  unfold plansIn Vaidxe.within_
  have e1 : Vaidxe.size (Vaidxe.caseOf t qs os) = os.length := by simp [Vaidxe.size, Vaidxe.caseOf]
  rw [e1, ← sets_eq _ (by have := hi.ol; omega)]
  congr 1
  apply List.filter_congr
  intro s _
  have : (s.map (natAt (os.map fun o => roomR t o.index))).sum = Vaidxe.roomOf_ (Vaidxe.caseOf t qs os) s := by
    unfold Vaidxe.roomOf_ Vaidxe.caseOf
    rw [sum_eq]
    congr 1
    exact List.map_congr_left fun k _ => by
      unfold natAt
      simp only [roomOf_eq]
  rw [this]

theorem plans_sms {t : Table} {qs : List Question} {os : List Offer} (hi : OkIn t qs os) (room : Nat) : Sms (Vaidxe.caseOf t qs os) (qs.map fun q => q.times) (planOf os (qs.map fun q => waysL t q os)) (Vaidxe.within_ (Vaidxe.caseOf t qs os) room) := by
  intro s hs
  unfold Vaidxe.within_ at hs
  have e1 : Vaidxe.size (Vaidxe.caseOf t qs os) = os.length := by simp [Vaidxe.size, Vaidxe.caseOf]
  rw [e1] at hs
  exact plan_sm hi s (sets_lt _ (by have := hi.ol; omega) s (List.mem_filter.mp hs).1)

end IX
end

section
/-! The plain law: fractions, lines, how far the askings may move. -/
namespace IX
open Vaidxd (Set_)
open Vaidxe (Frac Line)

def Gd (f : Fr) : Prop := 0 ≤ f.1 ∧ 0 < f.2
def fr (f : Fr) : Frac := Vaidxe.frac f.1.toNat f.2.toNat
def toFr (l : Line) : Fr := ((l.at0 : Int), (l.slope : Int))

theorem low_eq {f : Fr} (h : Gd f) : lowI f = Vaidxe.fracTold (fr f) := by
  obtain ⟨a, b⟩ := f
  obtain ⟨h1, h2⟩ := h
  obtain ⟨n, rfl⟩ := Int.eq_ofNat_of_zero_le h1
  obtain ⟨m, rfl⟩ := Int.eq_ofNat_of_zero_le (Int.le_of_lt h2)
  have hm : 0 < m := by have : (0 : Int) < (m : Int) := h2; omega
  have hg : Nat.gcd n m ≠ 0 := by
    intro e; have := Nat.gcd_eq_zero_iff.mp e; omega
  unfold lowI fr Vaidxe.fracTold Vaidxe.frac
  simp only [Int.toNat_natCast]
  rw [if_neg hg]
  have hd : divI (n : Int) (m : Int) = (Nat.gcd n m : Int) := by
    unfold divI
    by_cases hn : 0 < (n : Int)
    · rw [if_pos hn]; rfl
    · have : n = 0 := by omega
      subst this
      rw [if_neg hn, Nat.gcd_zero_left]
  rw [hd]
  simp only [VaidxBase.int, Int.natCast_ediv]

theorem fracLess_eq (a b c d : Nat) (hb : 0 < b) (hd : 0 < d) : Vaidxe.fracLess (Vaidxe.frac a b) (Vaidxe.frac c d) = decide (a * d < c * b) := by
  have hg : 0 < Nat.gcd a b := Nat.gcd_pos_of_pos_right _ hb
  have hh : 0 < Nat.gcd c d := Nat.gcd_pos_of_pos_right _ hd
  unfold Vaidxe.fracLess Vaidxe.frac
  simp only []
  rw [if_neg (by omega), if_neg (by omega)]
  obtain ⟨a', ha⟩ := Nat.gcd_dvd_left a b
  obtain ⟨b', hb'⟩ := Nat.gcd_dvd_right a b
  obtain ⟨c', hc⟩ := Nat.gcd_dvd_left c d
  obtain ⟨d', hd'⟩ := Nat.gcd_dvd_right c d
  have e1 : a / Nat.gcd a b = a' := Nat.div_eq_of_eq_mul_right hg ha
  have e2 : b / Nat.gcd a b = b' := Nat.div_eq_of_eq_mul_right hg hb'
  have e3 : c / Nat.gcd c d = c' := Nat.div_eq_of_eq_mul_right hh hc
  have e4 : d / Nat.gcd c d = d' := Nat.div_eq_of_eq_mul_right hh hd'
  simp only [e1, e2, e3, e4]
  rw [Bool.eq_iff_iff, decide_eq_true_iff, decide_eq_true_iff]
  generalize Nat.gcd a b = g at *
  generalize Nat.gcd c d = k at *
  have m1 : a * d = (g * k) * (a' * d') := by rw [ha, hd']; ac_rfl
  have m2 : c * b = (g * k) * (c' * b') := by rw [hc, hb']; ac_rfl
  rw [m1, m2]
  exact (Nat.mul_lt_mul_left (Nat.mul_pos hg hh)).symm

theorem frac_eq (a b c d : Nat) (hb : 0 < b) (hd : 0 < d) : Vaidxe.frac a b = Vaidxe.frac c d ↔ a * d = c * b := by
  have hg : 0 < Nat.gcd a b := Nat.gcd_pos_of_pos_right _ hb
  have hh : 0 < Nat.gcd c d := Nat.gcd_pos_of_pos_right _ hd
  unfold Vaidxe.frac
  simp only []
  rw [if_neg (by omega), if_neg (by omega)]
  have cp1 : Nat.Coprime (a / Nat.gcd a b) (b / Nat.gcd a b) := Nat.coprime_div_gcd_div_gcd hg
  have cp2 : Nat.Coprime (c / Nat.gcd c d) (d / Nat.gcd c d) := Nat.coprime_div_gcd_div_gcd hh
  obtain ⟨a', ha⟩ := Nat.gcd_dvd_left a b
  obtain ⟨b', hb'⟩ := Nat.gcd_dvd_right a b
  obtain ⟨c', hc⟩ := Nat.gcd_dvd_left c d
  obtain ⟨d', hd'⟩ := Nat.gcd_dvd_right c d
  have e1 : a / Nat.gcd a b = a' := Nat.div_eq_of_eq_mul_right hg ha
  have e2 : b / Nat.gcd a b = b' := Nat.div_eq_of_eq_mul_right hg hb'
  have e3 : c / Nat.gcd c d = c' := Nat.div_eq_of_eq_mul_right hh hc
  have e4 : d / Nat.gcd c d = d' := Nat.div_eq_of_eq_mul_right hh hd'
  rw [e1, e2] at cp1
  rw [e3, e4] at cp2
  simp only [e1, e2, e3, e4]
  generalize Nat.gcd a b = g at *
  generalize Nat.gcd c d = k at *
  have m1 : a * d = (g * k) * (a' * d') := by rw [ha, hd']; ac_rfl
  have m2 : c * b = (g * k) * (c' * b') := by rw [hc, hb']; ac_rfl
  rw [m1, m2, Vaidxe.Frac.mk.injEq]
  constructor
  · rintro ⟨rfl, rfl⟩; rfl
  · intro h
    have h' : a' * d' = c' * b' := Nat.eq_of_mul_eq_mul_left (Nat.mul_pos hg hh) h
    have hb0 : 0 < b' := by
      rcases Nat.eq_zero_or_pos b' with e | e
      · rw [e] at hb'; omega
      · exact e
    have hd0 : 0 < d' := by
      rcases Nat.eq_zero_or_pos d' with e | e
      · rw [e] at hd'; omega
      · exact e
    have d1 : b' ∣ d' := by
      have : b' ∣ a' * d' := ⟨c', by rw [h']; ac_rfl⟩
      exact Nat.Coprime.dvd_of_dvd_mul_left cp1.symm this
    have d2 : d' ∣ b' := by
      have : d' ∣ c' * b' := ⟨a', by rw [← h']; ac_rfl⟩
      exact Nat.Coprime.dvd_of_dvd_mul_left cp2.symm this
    have e : b' = d' := Nat.dvd_antisymm d1 d2
    subst e
    exact ⟨Nat.eq_of_mul_eq_mul_right hb0 h', rfl⟩

theorem gd_nat {f : Fr} (h : Gd f) : ∃ n m : Nat, f = ((n : Int), (m : Int)) ∧ 0 < m := by
  obtain ⟨a, b⟩ := f
  obtain ⟨h1, h2⟩ := h
  obtain ⟨n, rfl⟩ := Int.eq_ofNat_of_zero_le h1
  obtain ⟨m, rfl⟩ := Int.eq_ofNat_of_zero_le (Int.le_of_lt h2)
  exact ⟨n, m, rfl, by have : (0 : Int) < (m : Int) := h2; omega⟩

theorem less_fr {f g : Fr} (hf : Gd f) (hg : Gd g) : fLess f g = Vaidxe.fracLess (fr f) (fr g) := by
  obtain ⟨n, m, rfl, hm⟩ := gd_nat hf
  obtain ⟨k, l, rfl, hl⟩ := gd_nat hg
  unfold fr fLess
  simp only [Int.toNat_natCast]
  rw [fracLess_eq _ _ _ _ hm hl, Bool.eq_iff_iff, decide_eq_true_iff, decide_eq_true_iff, ← Int.natCast_mul, ← Int.natCast_mul, Int.ofNat_lt]

theorem eq_fr {f g : Fr} (hf : Gd f) (hg : Gd g) : fr f = fr g ↔ f.1 * g.2 = g.1 * f.2 := by
  obtain ⟨n, m, rfl, hm⟩ := gd_nat hf
  obtain ⟨k, l, rfl, hl⟩ := gd_nat hg
  unfold fr
  simp only [Int.toNat_natCast]
  rw [frac_eq _ _ _ _ hm hl, ← Int.natCast_mul, ← Int.natCast_mul, Int.ofNat_inj]

theorem fLess_irr (f : Fr) : fLess f f = false := by
  unfold fLess; simp

theorem cross_gd {l m : Line} (h1 : m.at0 ≤ l.at0) (h2 : l.slope < m.slope) : Gd (cross (toFr l) (toFr m)) := by
  unfold Gd cross toFr; simp only []; omega
theorem cross_fr (l m : Line) : fr (cross (toFr l) (toFr m)) = Vaidxe.frac (l.at0 - m.at0) (m.slope - l.slope) := by
  unfold fr cross toFr
  simp only [Int.toNat_sub]

theorem lowest_fold (x : Line) : ∀ (ls : List Line) (b : Fr), Gd b →
    Gd ((((ls.map toFr).filter fun l => decide ((toFr x).2 < l.2)).map fun l => cross (toFr x) l).foldl gtStep b) ∧
    fr ((((ls.map toFr).filter fun l => decide ((toFr x).2 < l.2)).map fun l => cross (toFr x) l).foldl gtStep b) = ls.foldl (fun f l => if x.slope < l.slope ∧ l.at0 < x.at0 then (let g := Vaidxe.frac (x.at0 - l.at0) (l.slope - x.slope)
      if Vaidxe.fracLess f g then g else f) else f) (fr b)
  | [], b, hb => ⟨hb, rfl⟩
  | l :: ls, b, hb => by
    rw [List.map_cons, List.filter_cons, List.foldl_cons]
    by_cases h1 : x.slope < l.slope
    · have h1' : decide ((toFr x).2 < (toFr l).2) = true := decide_eq_true (Int.ofNat_lt.mpr h1)
      rw [if_pos h1', List.map_cons, List.foldl_cons]
      by_cases h2 : l.at0 < x.at0
      · rw [if_pos ⟨h1, h2⟩]
        have gd : Gd (cross (toFr x) (toFr l)) := cross_gd (Nat.le_of_lt h2) h1
        unfold gtStep
        simp only []
        rw [less_fr hb gd, cross_fr]
        by_cases h3 : Vaidxe.fracLess (fr b) (Vaidxe.frac (x.at0 - l.at0) (l.slope - x.slope)) = true
        · rw [if_pos h3, if_pos h3, ← cross_fr]
          exact lowest_fold x ls _ gd
        · rw [if_neg h3, if_neg h3]
          exact lowest_fold x ls _ hb
      · rw [if_neg (fun e => h2 e.2)]
        have h3 : fLess b (cross (toFr x) (toFr l)) = false := by
          unfold fLess
          rw [decide_eq_false_iff_not]
          have k1 : 0 ≤ b.1 * (cross (toFr x) (toFr l)).2 := Int.mul_nonneg hb.1 (by unfold cross toFr; simp only []; omega)
          have k2 : (cross (toFr x) (toFr l)).1 * b.2 ≤ 0 := Int.mul_nonpos_of_nonpos_of_nonneg (by unfold cross toFr; simp only []; omega) (Int.le_of_lt hb.2)
          omega
        have h4 : gtStep b (cross (toFr x) (toFr l)) = b := by unfold gtStep; rw [h3]; rfl
        rw [h4]
        exact lowest_fold x ls _ hb
    · have h1' : ¬ decide ((toFr x).2 < (toFr l).2) = true := by
        rw [decide_eq_true_iff]; exact fun e => h1 (Int.ofNat_lt.mp e)
      rw [if_neg h1', if_neg (fun e => h1 e.1)]
      exact lowest_fold x ls b hb

theorem gd01 : Gd (0, 1) := by unfold Gd; decide
theorem fr01 : fr (0, 1) = ⟨0, 1⟩ := by decide

theorem lowest_eq (x : Line) (ls : List Line) : lowI (gtOf (begs (ls.map toFr) (toFr x))) = Vaidxe.fracTold (Vaidxe.lowest ls x) := by
  have h := lowest_fold x ls (0, 1) gd01
  have e : gtOf (begs (ls.map toFr) (toFr x)) = (((ls.map toFr).filter fun l => decide ((toFr x).2 < l.2)).map fun l => cross (toFr x) l).foldl gtStep (0, 1) := by
    unfold gtOf begs
    rw [List.headD_cons, List.foldl_cons]
    have : gtStep (0, 1) (0, 1) = (0, 1) := by unfold gtStep; rw [fLess_irr]; rfl
    rw [this]
  rw [e, low_eq h.1, h.2, fr01]
  rfl

/-- No line that rises less is below at 0. -/
def Low (ls : List Line) (x : Line) : Prop := ∀ l ∈ ls, l.slope < x.slope → x.at0 ≤ l.at0

def hiStep (x : Line) (f : Option Frac) (l : Line) : Option Frac := if l.slope < x.slope then (let g := Vaidxe.frac (l.at0 - x.at0) (x.slope - l.slope)
  match f with
    | none => some g
    | some h => if Vaidxe.fracLess g h then some g else f) else f

theorem highest_fold (x : Line) : ∀ (ls : List Line) (b : Fr), Low ls x → Gd b →
    Gd ((((ls.map toFr).filter fun l => decide (l.2 < (toFr x).2)).map fun l => cross l (toFr x)).foldl leStep b) ∧
    some (fr ((((ls.map toFr).filter fun l => decide (l.2 < (toFr x).2)).map fun l => cross l (toFr x)).foldl leStep b)) = ls.foldl (hiStep x) (some (fr b))
  | [], b, _, hb => ⟨hb, rfl⟩
  | l :: ls, b, lo, hb => by
    have lo' : Low ls x := fun m hm => lo m (List.mem_cons_of_mem _ hm)
    rw [List.map_cons, List.filter_cons, List.foldl_cons]
    unfold hiStep
    by_cases h1 : l.slope < x.slope
    · have h1' : decide ((toFr l).2 < (toFr x).2) = true := decide_eq_true (Int.ofNat_lt.mpr h1)
      rw [if_pos h1', List.map_cons, List.foldl_cons, if_pos h1]
      have gd : Gd (cross (toFr l) (toFr x)) := cross_gd (lo l List.mem_cons_self h1) h1
      unfold leStep
      simp only []
      rw [less_fr gd hb, cross_fr]
      by_cases h3 : Vaidxe.fracLess (Vaidxe.frac (l.at0 - x.at0) (x.slope - l.slope)) (fr b) = true
      · rw [if_pos h3, if_pos h3, ← cross_fr]
        exact highest_fold x ls _ lo' gd
      · rw [if_neg h3, if_neg h3]
        exact highest_fold x ls _ lo' hb
    · have h1' : ¬ decide ((toFr l).2 < (toFr x).2) = true := by
        rw [decide_eq_true_iff]; exact fun e => h1 (Int.ofNat_lt.mp e)
      rw [if_neg h1', if_neg h1]
      exact highest_fold x ls b lo' hb

theorem highest_eq (x : Line) : ∀ (ls : List Line), Low ls x → (if (ends (ls.map toFr) (toFr x)).length = 0 then [-1, 0] else lowI (leOf (ends (ls.map toFr) (toFr x)))) = match ls.foldl (hiStep x) none with
    | none => [-1, 0]
    | some f => Vaidxe.fracTold f
  | [], _ => rfl
  | l :: ls, lo => by
    have lo' : Low ls x := fun m hm => lo m (List.mem_cons_of_mem _ hm)
    by_cases h1 : l.slope < x.slope
    · have h1' : decide ((toFr l).2 < (toFr x).2) = true := decide_eq_true (Int.ofNat_lt.mpr h1)
      have gd : Gd (cross (toFr l) (toFr x)) := cross_gd (lo l List.mem_cons_self h1) h1
      have e : ends ((l :: ls).map toFr) (toFr x) = cross (toFr l) (toFr x) :: ends (ls.map toFr) (toFr x) := by
        unfold ends
        rw [List.map_cons, List.filter_cons, if_pos h1', List.map_cons]
      have h := highest_fold x ls _ lo' gd
      have e2 : leOf (cross (toFr l) (toFr x) :: ends (ls.map toFr) (toFr x)) = (ends (ls.map toFr) (toFr x)).foldl leStep (cross (toFr l) (toFr x)) := by
        unfold leOf
        rw [List.headD_cons, List.foldl_cons]
        have : leStep (cross (toFr l) (toFr x)) (cross (toFr l) (toFr x)) = cross (toFr l) (toFr x) := by unfold leStep; rw [fLess_irr]; rfl
        rw [this]
      rw [e, if_neg (by simp), e2, List.foldl_cons]
      have e3 : hiStep x none l = some (fr (cross (toFr l) (toFr x))) := by
        unfold hiStep; rw [if_pos h1, cross_fr]
      rw [e3, ← h.2]
      exact low_eq h.1
    · have h1' : ¬ decide ((toFr l).2 < (toFr x).2) = true := by
        rw [decide_eq_true_iff]; exact fun e => h1 (Int.ofNat_lt.mp e)
      have e : ends ((l :: ls).map toFr) (toFr x) = ends (ls.map toFr) (toFr x) := by
        unfold ends
        rw [List.map_cons, List.filter_cons, if_neg h1']
      have e3 : hiStep x none l = none := by unfold hiStep; rw [if_neg h1]
      rw [e, List.foldl_cons, e3]
      exact highest_eq x ls lo'

theorem margin_eq (x : Line) (ls : List Line) (lo : Low ls x) : marginI (ls.map toFr) (toFr x) = Vaidxe.fracTold (Vaidxe.lowest ls x) ++ match Vaidxe.highest ls x with
    | none => [-1, 0]
    | some f => Vaidxe.fracTold f := by
  unfold marginI
  rw [lowest_eq, highest_eq x ls lo]
  rfl

end IX
end

section
/-! The plain law: pieces. -/
namespace IX
open Vaidxd (Set_)
open Vaidxe (Frac Line Piece)

def nl (L : List Line) (k : Nat) : Line := (L[k]?).getD ⟨[], 0, 0⟩

theorem lineAt_map (L : List Line) (k : Nat) (h : k < L.length) : lineAt (L.map toFr) k = toFr (nl L k) := by
  unfold lineAt nl
  rw [List.getElem?_map, List.getElem?_eq_getElem h]; rfl

theorem nl_mem (L : List Line) (k : Nat) (h : k < L.length) : nl L k ∈ L := by
  unfold nl
  rw [List.getElem?_eq_getElem h]; exact List.getElem_mem h

theorem lexF_eq (a b : Line) : lexF (toFr a) (toFr b) = decide (a.at0 < b.at0 ∨ (a.at0 = b.at0 ∧ a.slope < b.slope)) := by
  unfold lexF toFr
  rw [Bool.eq_iff_iff, decide_eq_true_iff, HT.lexLt_cons, HT.lexLt_cons, HT.lexLt_nil_nil]
  by_cases h1 : (a.at0 : Int) = (b.at0 : Int)
  · rw [if_pos h1]
    by_cases h2 : (a.slope : Int) = (b.slope : Int)
    · rw [if_pos h2]; constructor
      · intro h; cases h
      · intro h; omega
    · rw [if_neg h2, decide_eq_true_iff]; omega
  · rw [if_neg h1, decide_eq_true_iff]; omega

def fStep (b : Option Line) (l : Line) : Option Line := match b with
  | none => some l
  | some x => if l.at0 < x.at0 ∨ (l.at0 = x.at0 ∧ l.slope < x.slope) then some l else b

theorem take_succ_nl (L : List Line) (k : Nat) (h : k < L.length) : L.take (k + 1) = L.take k ++ [nl L k] := by
  rw [List.take_add_one, List.getElem?_eq_getElem h]
  unfold nl
  rw [List.getElem?_eq_getElem h]; rfl

theorem firstPl_fold (L : List Line) : ∀ k, k + 1 ≤ L.length → (List.range (k + 1)).foldl (plStep (L.map toFr)) 0 < L.length ∧ (L.take (k + 1)).foldl fStep none = some (nl L ((List.range (k + 1)).foldl (plStep (L.map toFr)) 0))
  | 0, h => by
    have e : plStep (L.map toFr) 0 0 = 0 := by unfold plStep; split <;> rfl
    rw [take_succ_nl L 0 h]
    show plStep (L.map toFr) 0 0 < L.length ∧ _ = some (nl L (plStep (L.map toFr) 0 0))
    rw [e]
    exact ⟨h, rfl⟩
  | k + 1, h => by
    obtain ⟨h1, h2⟩ := firstPl_fold L k (by omega)
    rw [List.range_succ, List.foldl_append, take_succ_nl L (k + 1) (by omega), List.foldl_append, h2]
    generalize (List.range (k + 1)).foldl (plStep (L.map toFr)) 0 = b at *
    show plStep (L.map toFr) b (k + 1) < L.length ∧ fStep (some (nl L b)) (nl L (k + 1)) = some (nl L (plStep (L.map toFr) b (k + 1)))
    unfold plStep fStep
    rw [lineAt_map L _ (by omega), lineAt_map L b h1, lexF_eq]
    simp only []
    by_cases hc : (nl L (k + 1)).at0 < (nl L b).at0 ∨ ((nl L (k + 1)).at0 = (nl L b).at0 ∧ (nl L (k + 1)).slope < (nl L b).slope)
    · rw [if_pos (decide_eq_true hc), if_pos hc]; exact ⟨by omega, rfl⟩
    · rw [if_neg (by rw [decide_eq_true_iff]; exact hc), if_neg hc]; exact ⟨h1, rfl⟩

theorem firstPl_eq (L : List Line) (h : 0 < L.length) : firstPl (L.map toFr) < L.length ∧ Vaidxe.firstLine L = some (nl L (firstPl (L.map toFr))) := by
  obtain ⟨k, hk⟩ : ∃ k, L.length = k + 1 := ⟨L.length - 1, by omega⟩
  have := firstPl_fold L k (by omega)
  unfold firstPl
  rw [List.length_map, hk]
  refine ⟨hk ▸ this.1, ?_⟩
  rw [← this.2, ← hk, List.take_length]
  rfl

theorem fStep_low : ∀ (L : List Line) (b : Option Line) (x : Line), L.foldl fStep b = some x → (∀ y, b = some y → x.at0 ≤ y.at0) ∧ ∀ l ∈ L, x.at0 ≤ l.at0
  | [], b, x, h => ⟨fun y e => by rw [List.foldl_nil] at h; rw [h] at e; cases e; exact Nat.le_refl _, fun l hl => absurd hl List.not_mem_nil⟩
  | l :: L, b, x, h => by
    rw [List.foldl_cons] at h
    have ih := fStep_low L (fStep b l) x h
    cases b with
    | none =>
      have h1 := ih.1 l rfl
      refine ⟨fun y e => (by cases e), fun m hm => ?_⟩
      rcases List.mem_cons.mp hm with e | e
      · rw [e]; exact h1
      · exact ih.2 m e
    | some z =>
      by_cases hc : l.at0 < z.at0 ∨ (l.at0 = z.at0 ∧ l.slope < z.slope)
      · have e : fStep (some z) l = some l := by unfold fStep; simp only []; rw [if_pos hc]
        have h1 := ih.1 l e
        refine ⟨fun y e => (by cases e; omega), fun m hm => ?_⟩
        rcases List.mem_cons.mp hm with e | e
        · rw [e]; exact h1
        · exact ih.2 m e
      · have e : fStep (some z) l = some z := by unfold fStep; simp only []; rw [if_neg hc]
        have h1 := ih.1 z e
        refine ⟨fun y e => (by cases e; omega), fun m hm => ?_⟩
        rcases List.mem_cons.mp hm with e | e
        · rw [e]; omega
        · exact ih.2 m e

def nStep (x : Line) (b : Option Line) (l : Line) : Option Line := match b with
  | none => some l
  | some y => if Vaidxe.fracLess (Vaidxe.meet x l) (Vaidxe.meet x y) || (Vaidxe.meet x l == Vaidxe.meet x y && decide (l.slope < y.slope)) then some l else b

theorem meet_fr (x l : Line) : Vaidxe.meet x l = fr (cross (toFr l) (toFr x)) := (cross_fr l x).symm

theorem ahead_eq (x l y : Line) (hl : x.at0 ≤ l.at0) (hl2 : l.slope < x.slope) (hy : x.at0 ≤ y.at0) (hy2 : y.slope < x.slope) :
    ahead (toFr l) (toFr y) (toFr x) = (Vaidxe.fracLess (Vaidxe.meet x l) (Vaidxe.meet x y) || (Vaidxe.meet x l == Vaidxe.meet x y && decide (l.slope < y.slope))) := by
  have g1 : Gd (cross (toFr l) (toFr x)) := cross_gd hl hl2
  have g2 : Gd (cross (toFr y) (toFr x)) := cross_gd hy hy2
  rw [meet_fr, meet_fr, ← less_fr g1 g2]
  unfold ahead
  have e : decide ((toFr l).2 < (toFr y).2) = decide (l.slope < y.slope) := by
    rw [Bool.eq_iff_iff, decide_eq_true_iff, decide_eq_true_iff]; exact Int.ofNat_lt
  rw [e]
  cases h : fLess (cross (toFr l) (toFr x)) (cross (toFr y) (toFr x)) with
  | true => rfl
  | false =>
    rw [Bool.false_or, Bool.false_or]
    congr 1
    rw [Bool.eq_iff_iff, beq_iff_eq, eq_fr g1 g2]
    unfold fLess at h ⊢
    rw [decide_eq_false_iff_not] at h
    rw [Bool.not_eq_true', decide_eq_false_iff_not]
    omega

theorem next_fold (L : List Line) (h : Nat) (hh : h < L.length) (lo : Low L (nl L h)) : ∀ k, k ≤ L.length →
    (∀ p, (List.range k).foldl (xStep (L.map toFr) h) none = some p → p < L.length ∧ (nl L p).slope < (nl L h).slope) ∧
    ((L.take k).filter fun l => decide (l.slope < (nl L h).slope)).foldl (nStep (nl L h)) none = ((List.range k).foldl (xStep (L.map toFr) h) none).map (nl L)
  | 0, _ => ⟨fun p e => by simp at e, by simp⟩
  | k + 1, hk => by
    obtain ⟨h1, h2⟩ := next_fold L h hh lo k (by omega)
    rw [List.range_succ, List.foldl_append, take_succ_nl L k (by omega), List.filter_append, List.foldl_append, h2]
    generalize (List.range k).foldl (xStep (L.map toFr) h) none = b at *
    show (∀ p, xStep (L.map toFr) h b k = some p → _) ∧ _ = (xStep (L.map toFr) h b k).map (nl L)
    unfold xStep
    rw [lineAt_map L k (by omega), lineAt_map L h hh]
    by_cases hc : (nl L k).slope < (nl L h).slope
    · have hc' : (toFr (nl L k)).2 < (toFr (nl L h)).2 := Int.ofNat_lt.mpr hc
      rw [if_pos hc', List.filter_cons, if_pos (decide_eq_true hc), List.filter_nil, List.foldl_cons, List.foldl_nil]
      cases b with
      | none => exact ⟨fun p e => by cases e; exact ⟨by omega, hc⟩, rfl⟩
      | some y =>
        obtain ⟨y1, y2⟩ := h1 y rfl
        simp only [Option.map_some]
        rw [lineAt_map L y y1, ahead_eq _ _ _ (lo _ (nl_mem L k (by omega)) hc) hc (lo _ (nl_mem L y y1) y2) y2]
        unfold nStep
        simp only []
        by_cases ha : (Vaidxe.fracLess (Vaidxe.meet (nl L h) (nl L k)) (Vaidxe.meet (nl L h) (nl L y)) || (Vaidxe.meet (nl L h) (nl L k) == Vaidxe.meet (nl L h) (nl L y) && decide ((nl L k).slope < (nl L y).slope))) = true
        · rw [if_pos ha, if_pos ha]; exact ⟨fun p e => by cases e; exact ⟨by omega, hc⟩, rfl⟩
        · rw [if_neg ha, if_neg ha]; exact ⟨fun p e => by cases e; exact ⟨y1, y2⟩, rfl⟩
    · have hc' : ¬ (toFr (nl L k)).2 < (toFr (nl L h)).2 := fun e => hc (Int.ofNat_lt.mp e)
      rw [if_neg hc', List.filter_cons, if_neg (by rw [decide_eq_true_iff]; exact hc)]
      exact ⟨h1, rfl⟩

theorem next_eq (L : List Line) (h : Nat) (hh : h < L.length) (lo : Low L (nl L h)) :
    (∀ p, nextPl (L.map toFr) h = some p → p < L.length ∧ (nl L p).slope < (nl L h).slope) ∧ Vaidxe.nextLine L (nl L h) = (nextPl (L.map toFr) h).map (nl L) := by
  have := next_fold L h hh lo L.length (Nat.le_refl _)
  rw [List.take_length] at this
  unfold nextPl
  rw [List.length_map]
  exact this

/-- The one that's met first is met no later than each. -/
theorem nStep_first (x : Line) (hx : ∀ l : Line, True) : ∀ (M : List Line) (b : Option Line) (y : Line), (∀ l ∈ M, x.at0 ≤ l.at0 ∧ l.slope < x.slope) → (∀ z, b = some z → x.at0 ≤ z.at0 ∧ z.slope < x.slope) → M.foldl (nStep x) b = some y →
    (x.at0 ≤ y.at0 ∧ y.slope < x.slope) ∧ (∀ z, b = some z → (y.at0 - x.at0) * (x.slope - z.slope) ≤ (z.at0 - x.at0) * (x.slope - y.slope)) ∧ ∀ l ∈ M, (y.at0 - x.at0) * (x.slope - l.slope) ≤ (l.at0 - x.at0) * (x.slope - y.slope)
  | [], b, y, _, hb, h => by
    rw [List.foldl_nil] at h
    refine ⟨hb y h, fun z e => ?_, fun l hl => absurd hl List.not_mem_nil⟩
    rw [h] at e; cases e; exact Nat.le_refl _
  | l :: M, b, y, hM, hb, h => by
    rw [List.foldl_cons] at h
    have hl := hM l List.mem_cons_self
    have hM' : ∀ m ∈ M, x.at0 ≤ m.at0 ∧ m.slope < x.slope := fun m hm => hM m (List.mem_cons_of_mem _ hm)
    cases b with
    | none =>
      have ih := nStep_first x hx M (some l) y hM' (fun z e => by cases e; exact hl) h
      exact ⟨ih.1, fun z e => (by cases e), fun m hm => by
        rcases List.mem_cons.mp hm with e | e
        · rw [e]; exact ih.2.1 l rfl
        · exact ih.2.2 m e⟩
    | some z =>
      have hz := hb z rfl
      unfold nStep at h
      simp only [] at h
      have key : Vaidxe.fracLess (Vaidxe.meet x l) (Vaidxe.meet x z) = decide ((l.at0 - x.at0) * (x.slope - z.slope) < (z.at0 - x.at0) * (x.slope - l.slope)) := by
        unfold Vaidxe.meet
        exact fracLess_eq _ _ _ _ (by omega) (by omega)
      have keq : (Vaidxe.meet x l == Vaidxe.meet x z) = decide ((l.at0 - x.at0) * (x.slope - z.slope) = (z.at0 - x.at0) * (x.slope - l.slope)) := by
        unfold Vaidxe.meet
        rw [Bool.eq_iff_iff, beq_iff_eq, decide_eq_true_iff]
        exact frac_eq _ _ _ _ (by omega) (by omega)
      -- what one has against another one goes on to a third
      have go : ∀ a b : Line, x.at0 ≤ a.at0 ∧ a.slope < x.slope → x.at0 ≤ b.at0 ∧ b.slope < x.slope → x.at0 ≤ y.at0 ∧ y.slope < x.slope →
          (y.at0 - x.at0) * (x.slope - a.slope) ≤ (a.at0 - x.at0) * (x.slope - y.slope) → (a.at0 - x.at0) * (x.slope - b.slope) ≤ (b.at0 - x.at0) * (x.slope - a.slope) → (y.at0 - x.at0) * (x.slope - b.slope) ≤ (b.at0 - x.at0) * (x.slope - y.slope) := by
        intro a b ha hb' hy h1 h2
        have pa : 0 < x.slope - a.slope := by omega
        generalize x.slope - a.slope = sa at *
        generalize x.slope - b.slope = sb at *
        generalize x.slope - y.slope = sy at *
        generalize a.at0 - x.at0 = na at *
        generalize b.at0 - x.at0 = nb at *
        generalize y.at0 - x.at0 = ny at *
        have e1 : ny * sa * sb ≤ na * sy * sb := Nat.mul_le_mul_right _ h1
        have e2 : na * sb * sy ≤ nb * sa * sy := Nat.mul_le_mul_right _ h2
        have e3 : sa * (ny * sb) ≤ sa * (nb * sy) := by
          calc sa * (ny * sb) = ny * sa * sb := by ac_rfl
            _ ≤ na * sy * sb := e1
            _ = na * sb * sy := by ac_rfl
            _ ≤ nb * sa * sy := e2
            _ = sa * (nb * sy) := by ac_rfl
        exact Nat.le_of_mul_le_mul_left e3 pa
      by_cases hc : (Vaidxe.fracLess (Vaidxe.meet x l) (Vaidxe.meet x z) || (Vaidxe.meet x l == Vaidxe.meet x z && decide (l.slope < z.slope))) = true
      · rw [if_pos hc] at h
        have ih := nStep_first x hx M (some l) y hM' (fun z e => by cases e; exact hl) h
        have hlz : (l.at0 - x.at0) * (x.slope - z.slope) ≤ (z.at0 - x.at0) * (x.slope - l.slope) := by
          rw [key, keq, Bool.or_eq_true, Bool.and_eq_true, decide_eq_true_iff, decide_eq_true_iff] at hc
          omega
        refine ⟨ih.1, fun w e => ?_, fun m hm => ?_⟩
        · cases e; exact go l z hl hz ih.1 (ih.2.1 l rfl) hlz
        · rcases List.mem_cons.mp hm with e | e
          · rw [e]; exact ih.2.1 l rfl
          · exact ih.2.2 m e
      · rw [if_neg hc] at h
        have ih := nStep_first x hx M (some z) y hM' (fun w e => by cases e; exact hz) h
        have hzl : (z.at0 - x.at0) * (x.slope - l.slope) ≤ (l.at0 - x.at0) * (x.slope - z.slope) := by
          rw [key, Bool.or_eq_true, decide_eq_true_iff] at hc
          omega
        refine ⟨ih.1, fun w e => ih.2.1 w e, fun m hm => ?_⟩
        rcases List.mem_cons.mp hm with e | e
        · rw [e]; exact go z l hz hl ih.1 (ih.2.1 z rfl) hzl
        · exact ih.2.2 m e

theorem next_low (L : List Line) (x y : Line) (lo : Low L x) (h : Vaidxe.nextLine L x = some y) : Low L y ∧ x.at0 ≤ y.at0 ∧ y.slope < x.slope := by
  have hf : ∀ l ∈ L.filter (fun l => decide (l.slope < x.slope)), x.at0 ≤ l.at0 ∧ l.slope < x.slope := by
    intro l hl
    rw [List.mem_filter] at hl
    have := of_decide_eq_true hl.2
    exact ⟨lo l hl.1 this, this⟩
  have ih := nStep_first x (fun _ => trivial) _ none y hf (fun z e => by cases e) h
  refine ⟨fun l hl hs => ?_, ih.1⟩
  have hls : l.slope < x.slope := Nat.lt_trans hs ih.1.2
  have h2 := ih.2.2 l (List.mem_filter.mpr ⟨hl, decide_eq_true hls⟩)
  have hl0 := lo l hl hls
  -- (y - x) (sx - sl) ≤ (l - x) (sx - sy), and sx - sl > sx - sy > 0
  have p : 0 < x.slope - y.slope := by omega
  have q : x.slope - y.slope ≤ x.slope - l.slope := by omega
  have h3 : (y.at0 - x.at0) * (x.slope - y.slope) ≤ (l.at0 - x.at0) * (x.slope - y.slope) := Nat.le_trans (Nat.mul_le_mul_left _ q) h2
  have h4 := Nat.le_of_mul_le_mul_right h3 p
  omega

def toPc (L : List Line) (pc : Pc) : Piece := ⟨fr pc.1, nl L pc.2⟩

theorem rep_in {α : Type} (f : α → α) : ∀ (n : Nat) (a : α), Nat.repeat f (n + 1) a = Nat.repeat f n (f a)
  | 0, _ => rfl
  | n + 1, a => by
    show f (Nat.repeat f (n + 1) a) = f (Nat.repeat f n (f a))
    rw [rep_in f n a]
theorem rep_fx {α : Type} (f : α → α) (a : α) (h : f a = a) : ∀ n, Nat.repeat f n a = a
  | 0 => rfl
  | n + 1 => by show f (Nat.repeat f n a) = a; rw [rep_fx f a h n, h]

theorem pieces_fold (L : List Line) : ∀ (n h : Nat) (g : Frac) (out : List Pc), h < L.length → Low L (nl L h) →
    ∃ tail : List Pc, (Nat.repeat (pcStep (L.map toFr)) n (h, nextPl (L.map toFr) h, out)).2.2 = out ++ tail ∧ Vaidxe.piecesFrom L n ⟨g, nl L h⟩ = ⟨g, nl L h⟩ :: tail.map (toPc L) ∧ ∀ pc ∈ tail, Gd pc.1 ∧ pc.2 < L.length
  | 0, h, g, out, _, _ => ⟨[], by simp [Nat.repeat], rfl, fun pc hp => absurd hp List.not_mem_nil⟩
  | n + 1, h, g, out, hh, lo => by
    obtain ⟨n1, n2⟩ := next_eq L h hh lo
    rw [rep_in, Vaidxe.piecesFrom]
    simp only []
    cases hn : nextPl (L.map toFr) h with
    | none =>
      rw [hn] at n2
      rw [n2]
      have e : pcStep (L.map toFr) (h, none, out) = (h, none, out) := rfl
      rw [e, rep_fx _ _ e]
      exact ⟨[], by simp, rfl, fun pc hp => absurd hp List.not_mem_nil⟩
    | some p =>
      rw [hn] at n2
      obtain ⟨p1, p2⟩ := n1 p hn
      rw [n2]
      obtain ⟨lo2, a1, a2⟩ := next_low L (nl L h) (nl L p) lo n2
      have e : pcStep (L.map toFr) (h, some p, out) = (p, nextPl (L.map toFr) p, out ++ [(cross (toFr (nl L p)) (toFr (nl L h)), p)]) := by
        unfold pcStep
        simp only []
        rw [lineAt_map L p p1, lineAt_map L h hh]
      rw [e]
      obtain ⟨tail, t1, t2, t3⟩ := pieces_fold L n p (Vaidxe.meet (nl L h) (nl L p)) (out ++ [(cross (toFr (nl L p)) (toFr (nl L h)), p)]) p1 lo2
      refine ⟨(cross (toFr (nl L p)) (toFr (nl L h)), p) :: tail, ?_, ?_, ?_⟩
      · rw [t1, List.append_assoc]; rfl
      · simp only [Option.map_some]
        rw [t2, List.map_cons]
        unfold toPc
        simp only []
        rw [meet_fr]
      · intro pc hp
        rcases List.mem_cons.mp hp with e | e
        · subst e; exact ⟨cross_gd a1 a2, p1⟩
        · exact t3 pc e

theorem pieces_eq (L : List Line) (h : 0 < L.length) : Vaidxe.pieces L = (piecesI (L.map toFr)).map (toPc L) ∧ ∀ pc ∈ piecesI (L.map toFr), Gd pc.1 ∧ pc.2 < L.length := by
  obtain ⟨f1, f2⟩ := firstPl_eq L h
  have lo : Low L (nl L (firstPl (L.map toFr))) := fun l hl _ => (fStep_low L none _ f2).2 l hl
  obtain ⟨tail, t1, t2, t3⟩ := pieces_fold L L.length (firstPl (L.map toFr)) ⟨0, 1⟩ [((0, 1), firstPl (L.map toFr))] f1 lo
  have e : piecesI (L.map toFr) = ((0, 1), firstPl (L.map toFr)) :: tail := by
    unfold piecesI pc0
    rw [List.length_map, t1]; rfl
  rw [e]
  constructor
  · unfold Vaidxe.pieces
    rw [f2]
    simp only []
    rw [t2, List.map_cons]
    unfold toPc
    simp only []
    rw [fr01]
  · intro pc hp
    rcases List.mem_cons.mp hp with e | e
    · subst e; exact ⟨gd01, f1⟩
    · exact t3 pc e

end IX
end

section
/-! The plain law: wishes, what's told. -/
namespace IX
open VaidxBase (Question Filter Group Table Index)
open Vaidxd (Offer Set_)
open Vaidxe (Frac Line Piece)

theorem least_le {c : Vaidxe.Case} : ∀ (l : List Set_) (b : Option Set_) (x : Set_), (l.foldl (fun (b : Option Set_) s => match b with
      | none => some s
      | some x => if Vaidxe.cost c s < Vaidxe.cost c x then some s else b) b) = some x → (∀ y, b = some y → Vaidxe.cost c x ≤ Vaidxe.cost c y) ∧ ∀ s ∈ l, Vaidxe.cost c x ≤ Vaidxe.cost c s
  | [], b, x, h => ⟨fun y e => by rw [List.foldl_nil] at h; rw [h] at e; cases e; exact Nat.le_refl _, fun s hs => absurd hs List.not_mem_nil⟩
  | s :: l, none, x, h => by
    rw [List.foldl_cons] at h
    have ih := least_le l _ x h
    refine ⟨fun y e => (by cases e), fun m hm => ?_⟩
    rcases List.mem_cons.mp hm with e | e
    · rw [e]; exact ih.1 s rfl
    · exact ih.2 m e
  | s :: l, some z, x, h => by
    rw [List.foldl_cons] at h
    have ih := least_le l _ x h
    simp only [] at ih
    by_cases hc : Vaidxe.cost c s < Vaidxe.cost c z
    · rw [if_pos hc] at ih
      have h1 := ih.1 s rfl
      refine ⟨fun y e => (by cases e; omega), fun m hm => ?_⟩
      rcases List.mem_cons.mp hm with e | e
      · rw [e]; exact h1
      · exact ih.2 m e
    · rw [if_neg hc] at ih
      have h1 := ih.1 z rfl
      refine ⟨fun y e => (by cases e; omega), fun m hm => ?_⟩
      rcases List.mem_cons.mp hm with e | e
      · rw [e]; omega
      · exact ih.2 m e
theorem firstLeast_le {c : Vaidxe.Case} {l : List Set_} {x : Set_} (h : Vaidxe.firstLeast c l = some x) : ∀ s ∈ l, Vaidxe.cost c x ≤ Vaidxe.cost c s := (least_le l none x h).2
theorem least_some {c : Vaidxe.Case} : ∀ (l : List Set_) (b : Set_), ∃ x, (l.foldl (fun (b : Option Set_) s => match b with
      | none => some s
      | some x => if Vaidxe.cost c s < Vaidxe.cost c x then some s else b) (some b)) = some x
  | [], b => ⟨b, rfl⟩
  | s :: l, b => by
    rw [List.foldl_cons]
    simp only []
    by_cases hc : Vaidxe.cost c s < Vaidxe.cost c b
    · rw [if_pos hc]; exact least_some l s
    · rw [if_neg hc]; exact least_some l b
theorem firstLeast_some {c : Vaidxe.Case} {l : List Set_} (h : l ≠ []) : ∃ x, Vaidxe.firstLeast c l = some x := by
  cases l with
  | nil => exact absurd rfl h
  | cons s l => exact least_some l s

theorem nil_within (c : Vaidxe.Case) (room : Nat) : [] ∈ Vaidxe.within_ c room := by
  unfold Vaidxe.within_
  rw [List.mem_filter]
  refine ⟨?_, by simp [Vaidxe.roomOf_, Vaidxe.sum]⟩
  unfold Vaidxd.allSets
  rw [List.mem_flatMap]
  exact ⟨0, List.mem_range.mpr (by omega), by simp [Vaidxd.choose]⟩

/-! ### wishes -/
def wN (z : Int) : Option Nat := if z < 0 then none else some z.toNat

theorem zip_any {rs : List Nat} : ∀ {ws : List Int}, rs.length = ws.length → ((rs.zip ws).any badW = false ↔ ∀ k, k < ws.length → badW (natAt rs k, wayAt ws k) = false) := by
  induction rs with
  | nil =>
    intro ws h
    cases ws with
    | nil => simp
    | cons w ws => simp at h
  | cons r rs ih =>
    intro ws h
    cases ws with
    | nil => simp at h
    | cons w ws =>
      rw [List.zip_cons_cons, List.any_cons, Bool.or_eq_false_iff, ih (by simpa using h)]
      constructor
      · rintro ⟨h1, h2⟩ k hk
        cases k with
        | zero => exact h1
        | succ k => exact h2 k (by simpa using hk)
      · intro h
        exact ⟨h 0 (by simp), fun k hk => h (k + 1) (by simpa using hk)⟩

theorem keeps_iff (c : Vaidxe.Case) (w : Vaidxe.Wishes) (s : Set_) : Vaidxe.keeps c w s = true ↔ ∀ k, k < w.length → (match (w[k]?).bind (fun x => x) with
    | none => true
    | some n => decide (Vaidxe.askCost c s k ≤ n)) = true := by
  unfold Vaidxe.keeps
  rw [List.all_eq_true]
  constructor
  · intro h k hk
    have := h (w[k], k) (by rw [List.mem_zipIdx_iff_getElem?]; exact List.getElem?_eq_getElem hk)
    rw [List.getElem?_eq_getElem hk]
    exact this
  · rintro h ⟨x, k⟩ hx
    rw [List.mem_zipIdx_iff_getElem?] at hx
    simp only [] at hx
    have hk : k < w.length := by
      rcases Nat.lt_or_ge k w.length with h | h
      · exact h
      · rw [List.getElem?_eq_none h] at hx; cases hx
    have := h k hk
    rw [hx] at this
    exact this

theorem keep_eq {c : Vaidxe.Case} {ts : List Nat} {p : Pl} {s : Set_} (h : Sm c ts p s) (ws : List Int) (hw : ws.length = c.costs.length) : keepB ws p = Vaidxe.keeps c (ws.map wN) s := by
  rw [Bool.eq_iff_iff, keeps_iff]
  unfold keepB
  rw [Bool.not_eq_true', zip_any (h.rl.trans hw.symm), List.length_map]
  refine forall_congr' fun k => forall_congr' fun hk => ?_
  have e : wayAt ws k = ws[k] := by unfold wayAt; rw [List.getElem?_eq_getElem hk]; rfl
  rw [List.getElem?_map, List.getElem?_eq_getElem hk, ← e, h.ask]
  unfold badW wN
  simp only [Option.map_some, Option.bind_some]
  by_cases hz : wayAt ws k < 0
  · rw [if_pos hz]
    have : decide (0 ≤ wayAt ws k) = false := by rw [decide_eq_false_iff_not]; omega
    rw [this]; simp
  · rw [if_neg hz]
    have : decide (0 ≤ wayAt ws k) = true := by rw [decide_eq_true_iff]; omega
    rw [this, Bool.true_and, decide_eq_false_iff_not]
    simp only [decide_eq_true_iff]
    omega

theorem firstK_eq {c : Vaidxe.Case} {ts : List Nat} {P : Set_ → Pl} {room : Nat} (h : Sms c ts P (Vaidxe.within_ c room)) (ws : List Int) (hw : ws.length = c.costs.length) :
    firstK ((Vaidxe.within_ c room).map P) ts ws = (Vaidxe.leastKeeping c room (ws.map wN)).map P := by
  unfold firstK Vaidxe.leastKeeping Vaidxe.keeping_
  rw [List.filter_map]
  have e : (Vaidxe.within_ c room).filter (keepB ws ∘ P) = (Vaidxe.within_ c room).filter (Vaidxe.keeps c (ws.map wN)) :=
    List.filter_congr fun s hs => keep_eq (h s hs) ws hw
  rw [e]
  exact firstP_eq fun s hs => h s (List.mem_filter.mp hs).1

theorem without_eq (ws : List Int) (k : Nat) : Vaidxe.without (ws.map wN) k = (ws.set k (-1)).map wN := by
  apply List.ext_getElem?
  intro i
  unfold Vaidxe.without
  rw [List.getElem?_map, List.getElem?_zipIdx, List.getElem?_map, List.getElem?_map, List.getElem?_set]
  by_cases h : k = i
  · subst h
    rw [if_pos rfl]
    by_cases hk : k < ws.length
    · rw [if_pos hk, List.getElem?_eq_getElem hk]
      simp [wN]
    · rw [if_neg hk, List.getElem?_eq_none (by omega)]; rfl
  · rw [if_neg h]
    cases hi : ws[i]? with
    | none => rfl
    | some z =>
      simp only [Option.map_some, Nat.zero_add]
      rw [if_neg (fun e => h e.symm)]

theorem without_keeps {c : Vaidxe.Case} {w : Vaidxe.Wishes} {s : Set_} (k : Nat) (h : Vaidxe.keeps c w s = true) : Vaidxe.keeps c (Vaidxe.without w k) s = true := by
  rw [keeps_iff] at *
  intro i hi
  have hl : (Vaidxe.without w k).length = w.length := by unfold Vaidxe.without; simp
  have := h i (hl ▸ hi)
  have hi' : i < w.length := hl ▸ hi
  rw [List.getElem?_eq_getElem hi'] at this
  unfold Vaidxe.without
  rw [List.getElem?_map, List.getElem?_zipIdx, List.getElem?_eq_getElem hi']
  simp only [Option.map_some, Option.bind_some, Nat.zero_add] at this ⊢
  by_cases e : i = k
  · rw [if_pos e]
  · rw [if_neg e]; exact this

end IX
end

section
/-! The plain law: what each telling call tells. -/
namespace IX
open VaidxBase (Question Filter Group Table Index)
open Vaidxd (Offer Set_)
open Vaidxe (Frac Line Piece)

structure Sim (m : MS) (s : Vaidxe.State) : Prop where
  t : s.table = m.table
  q : s.questions = m.qs
  o : s.offers = m.os
  w : s.wishes = m.ws.map wN
  r : s.room = m.room

section
variable {t : Table} {m : MS} (ok : OkM t m)
abbrev cM (t : Table) (m : MS) : Vaidxe.Case := Vaidxe.caseOf t m.qs m.os
abbrev wM (t : Table) (m : MS) : List Set_ := Vaidxe.within_ (cM t m) m.room
abbrev pM (t : Table) (m : MS) : Set_ → Pl := planOf m.os (m.qs.map fun q => waysL t q m.os)
include ok
theorem pl_eq : plansS t m = (wM t m).map (pM t m) := plans_eq ok.inn m.room
theorem pl_sms : Sms (cM t m) (askedS m) (pM t m) (wM t m) := plans_sms ok.inn m.room
omit ok in
theorem cl_eq : (cM t m).costs.length = m.qs.length := by simp [cM, Vaidxe.caseOf]
theorem fp_eq : firstP (plansS t m) (askedS m) = (Vaidxe.firstLeast (cM t m) (wM t m)).map (pM t m) := by
  rw [pl_eq ok]; exact firstP_eq (pl_sms ok)
omit ok in
theorem count_eq (x : Set_) : countS (pM t m x) = VaidxBase.listed x := by
  unfold countS VaidxBase.listed zs
  rfl

theorem least_tell {s : Vaidxe.State} (sm : Sim m s) : (Vaidxe.step s .least) = (s, leastA t m) := by
  unfold Vaidxe.step Vaidxe.look Vaidxe.onTable leastA
  rw [sm.t, ok.ht, fp_eq ok, sm.q, sm.o, sm.r]
  obtain ⟨x, hx⟩ := firstLeast_some (c := cM t m) (l := wM t m) (List.ne_nil_of_mem (nil_within _ _))
  simp only [hx, Option.map_some]
  rw [count_eq, sm_cost (pl_sms ok x (firstLeast_mem hx))]
  rfl

theorem line_eq (n : Nat) (hn : n < m.qs.length) (x : Set_) (hx : x ∈ wM t m) : lineOf (askedS m) n (pM t m x) = toFr ⟨x, Vaidxe.costBut (cM t m) x n, Vaidxe.askCost (cM t m) x n⟩ := by
  have h := pl_sms ok x hx
  unfold lineOf toFr
  rw [sm_but h n (by rw [cl_eq]; exact hn), h.ask]

theorem lines_eq (n : Nat) (hn : n < m.qs.length) : (plansS t m).map (lineOf (askedS m) n) = (Vaidxe.linesOf (cM t m) m.room n).map toFr := by
  rw [pl_eq ok, List.map_map]
  unfold Vaidxe.linesOf
  rw [List.map_map]
  exact List.map_congr_left fun x hx => line_eq ok n hn x hx

omit ok in
theorem cost_split (c : Vaidxe.Case) (x : Set_) (n : Nat) (hn : n < c.costs.length) : Vaidxe.cost c x = Vaidxe.costBut c x n + Vaidxe.timesOf c n * Vaidxe.askCost c x n := by
  unfold Vaidxe.cost Vaidxe.costBut
  rw [sum_eq, sum_eq, sum_but (List.range c.costs.length) (fun j => Vaidxe.timesOf c j * Vaidxe.askCost c x j) n List.nodup_range (List.mem_range.mpr hn)]
  omega

theorem margin_low (n : Nat) (hn : n < m.qs.length) (x : Set_) (hx : Vaidxe.firstLeast (cM t m) (wM t m) = some x) : Low (Vaidxe.linesOf (cM t m) m.room n) ⟨x, Vaidxe.costBut (cM t m) x n, Vaidxe.askCost (cM t m) x n⟩ := by
  intro l hl hs
  unfold Vaidxe.linesOf at hl
  obtain ⟨y, hy, rfl⟩ := List.mem_map.mp hl
  simp only [] at hs ⊢
  have h1 := firstLeast_le hx y hy
  rw [cost_split _ x n (by rw [cl_eq]; exact hn), cost_split _ y n (by rw [cl_eq]; exact hn)] at h1
  have h2 : Vaidxe.timesOf (cM t m) n * Vaidxe.askCost (cM t m) y n ≤ Vaidxe.timesOf (cM t m) n * Vaidxe.askCost (cM t m) x n := Nat.mul_le_mul_left _ (Nat.le_of_lt hs)
  omega

theorem margin_tell (n : Nat) (hn : n < m.qs.length) : (match Vaidxe.firstLeast (cM t m) (wM t m) with
    | none => [0]
    | some x =>
      let ls := Vaidxe.linesOf (cM t m) m.room n
      let l : Line := ⟨x, Vaidxe.costBut (cM t m) x n, Vaidxe.askCost (cM t m) x n⟩
      Vaidxe.fracTold (Vaidxe.lowest ls l) ++ (match Vaidxe.highest ls l with
        | none => [-1, 0]
        | some f => Vaidxe.fracTold f)) = marginA t m n := by
  unfold marginA
  rw [fp_eq ok]
  obtain ⟨x, hx⟩ := firstLeast_some (c := cM t m) (l := wM t m) (List.ne_nil_of_mem (nil_within _ _))
  have lo := margin_low ok n hn x hx
  simp only [hx, Option.map_some]
  rw [lines_eq ok n hn, line_eq ok n hn x (firstLeast_mem hx), margin_eq _ _ lo]
  all_goals rfl

omit ok in
theorem piece_fold (L : List Line) (pl : List Pl) (tell : Piece → List Int) : ∀ (l : List Pc) (out : List Int), (∀ pc ∈ l, lowI pc.1 ++ [(lineAt (L.map toFr) pc.2).1, (lineAt (L.map toFr) pc.2).2] ++ countS (plAt pl pc.2) = tell (toPc L pc)) →
    l.foldl (pieceStep (L.map toFr) pl) out = out ++ (l.map (toPc L)).flatMap tell
  | [], out, _ => by simp
  | pc :: l, out, h => by
    rw [List.foldl_cons, piece_fold L pl tell l _ fun x hx => h x (List.mem_cons_of_mem _ hx), List.map_cons, List.flatMap_cons, ← h pc List.mem_cons_self]
    unfold pieceStep
    simp only [List.append_assoc]

theorem pieces_tell (n : Nat) (hn : n < m.qs.length) : (let l := Vaidxe.pieces (Vaidxe.linesOf (cM t m) m.room n)
    VaidxBase.int l.length :: l.flatMap fun p => Vaidxe.fracTold p.from_ ++ Vaidxe.lineTold p.line) = piecesA t m n := by
  unfold piecesA
  rw [lines_eq ok n hn]
  have hl : (Vaidxe.linesOf (cM t m) m.room n).length = (wM t m).length := by unfold Vaidxe.linesOf; rw [List.length_map]
  have h0 : 0 < (Vaidxe.linesOf (cM t m) m.room n).length := by rw [hl]; exact List.length_pos_of_mem (nil_within _ _)
  obtain ⟨e1, e2⟩ := pieces_eq _ h0
  simp only []
  rw [e1, piece_fold _ _ (fun p => Vaidxe.fracTold p.from_ ++ Vaidxe.lineTold p.line)]
  · rw [List.length_map]; rfl
  · intro pc hp
    obtain ⟨g, hk⟩ := e2 pc hp
    rw [low_eq g, lineAt_map _ _ hk, List.append_assoc]
    have hk' : pc.2 < (wM t m).length := hl ▸ hk
    have e3 : plAt (plansS t m) pc.2 = pM t m ((wM t m)[pc.2]) := by
      unfold plAt
      rw [pl_eq ok, List.getElem?_map, List.getElem?_eq_getElem hk']; rfl
    have e4 : nl (Vaidxe.linesOf (cM t m) m.room n) pc.2 = ⟨(wM t m)[pc.2], Vaidxe.costBut (cM t m) (wM t m)[pc.2] n, Vaidxe.askCost (cM t m) (wM t m)[pc.2] n⟩ := by
      unfold nl Vaidxe.linesOf
      rw [List.getElem?_map, List.getElem?_eq_getElem hk']; rfl
    rw [e3, count_eq]
    unfold toPc
    simp only []
    rw [e4]
    rfl

theorem fk_eq (ws : List Int) (hw : ws.length = m.qs.length) : firstK (plansS t m) (askedS m) ws = (Vaidxe.leastKeeping (cM t m) m.room (ws.map wN)).map (pM t m) := by
  rw [pl_eq ok]; exact firstK_eq (pl_sms ok) ws (by rw [cl_eq]; exact hw)

omit ok in
theorem kept_mem {c : Vaidxe.Case} {room : Nat} {w : Vaidxe.Wishes} {x : Set_} (h : Vaidxe.leastKeeping c room w = some x) : x ∈ Vaidxe.within_ c room ∧ Vaidxe.keeps c w x = true :=
  List.mem_filter.mp (firstLeast_mem h)

theorem kept_tell {s : Vaidxe.State} (sm : Sim m s) : Vaidxe.step s .kept = (s, keptA t m) := by
  unfold Vaidxe.step Vaidxe.look Vaidxe.onTable keptA
  rw [sm.t, ok.ht, fp_eq ok, fk_eq ok _ ok.wl, sm.q, sm.o, sm.r, sm.w]
  obtain ⟨y, hy⟩ := firstLeast_some (c := cM t m) (l := wM t m) (List.ne_nil_of_mem (nil_within _ _))
  simp only [hy, Option.map_some]
  cases hx : Vaidxe.leastKeeping (cM t m) m.room (m.ws.map wN) with
  | none => rfl
  | some x =>
    simp only [Option.map_some]
    have hm := (kept_mem hx).1
    rw [count_eq, sm_cost (pl_sms ok x hm), sm_cost (pl_sms ok y (firstLeast_mem hy))]
    have hle := firstLeast_le hy x hm
    unfold VaidxBase.int
    rw [Int.ofNat_sub hle]

theorem price_tell (n : Nat) (hn : n < m.qs.length) : (match (((m.ws.map wN)[n]?).bind fun x => x), Vaidxe.leastKeeping (cM t m) m.room (m.ws.map wN), Vaidxe.leastKeeping (cM t m) m.room (Vaidxe.without (m.ws.map wN) n) with
    | some _, some x, some y => VaidxBase.int (Vaidxe.cost (cM t m) x - Vaidxe.cost (cM t m) y)
    | _, _, _ => -1) = priceI (plansS t m) (askedS m) m.ws n := by
  unfold priceI
  have hw : n < m.ws.length := by rw [ok.wl]; exact hn
  rw [fk_eq ok _ ok.wl, fk_eq ok (m.ws.set n (-1)) (by rw [List.length_set]; exact ok.wl), without_eq]
  have e : wayAt m.ws n = m.ws[n] := by unfold wayAt; rw [List.getElem?_eq_getElem hw]; rfl
  rw [List.getElem?_map, List.getElem?_eq_getElem hw, ← e]
  simp only [Option.map_some, Option.bind_some]
  cases hx : Vaidxe.leastKeeping (cM t m) m.room (m.ws.map wN) with
  | none =>
    simp only [Option.map_none]
    cases wN (wayAt m.ws n) <;> rfl
  | some x =>
    simp only [Option.map_some]
    by_cases hz : wayAt m.ws n < 0
    · rw [if_pos hz]
      have : wN (wayAt m.ws n) = none := by unfold wN; rw [if_pos hz]
      rw [this]
    · rw [if_neg hz]
      have : wN (wayAt m.ws n) = some (wayAt m.ws n).toNat := by unfold wN; rw [if_neg hz]
      rw [this]
      cases hy : Vaidxe.leastKeeping (cM t m) m.room ((m.ws.set n (-1)).map wN) with
      | none => rfl
      | some y =>
        simp only [Option.map_some]
        have hm := kept_mem hx
        have hy' := kept_mem hy
        rw [sm_cost (pl_sms ok x hm.1), sm_cost (pl_sms ok y hy'.1)]
        have hle : Vaidxe.cost (cM t m) y ≤ Vaidxe.cost (cM t m) x := by
          refine firstLeast_le hy x (List.mem_filter.mpr ⟨hm.1, ?_⟩)
          rw [← without_eq]
          exact without_keeps n hm.2
        unfold VaidxBase.int
        rw [Int.ofNat_sub hle]

theorem prices_tell {s : Vaidxe.State} (sm : Sim m s) : Vaidxe.step s .prices = (s, pricesA t m) := by
  unfold Vaidxe.step Vaidxe.look Vaidxe.onTable pricesA
  rw [sm.t, ok.ht, sm.q, sm.o, sm.r, sm.w]
  simp only []
  congr 1
  congr 1
  · exact List.map_congr_left fun n hn => price_tell ok n (List.mem_range.mp hn)
  · rw [fk_eq ok _ ok.wl]
    show [Vaidxe.bool_ (Vaidxe.leastKeeping (cM t m) m.room (m.ws.map wN)).isSome] = _
    cases Vaidxe.leastKeeping (cM t m) m.room (m.ws.map wN) <;> rfl

theorem possible_tell (n : Nat) (hn : n < m.qs.length) : (let k := Vaidxe.possible (cM t m) m.room n
    VaidxBase.int k :: (match Vaidxe.firstLeast (cM t m) ((wM t m).filter fun x => Vaidxe.askCost (cM t m) x n == k) with
      | none => []
      | some x => VaidxBase.int (Vaidxe.cost (cM t m) x) :: VaidxBase.listed x)) = possibleA t m n := by
  unfold possibleA
  have e1 : posC (plansS t m) n = Vaidxe.possible (cM t m) m.room n := by
    unfold posC Vaidxe.possible
    rw [pl_eq ok, List.map_map]
    congr 1
    exact List.map_congr_left fun s hs => (pl_sms ok s hs).ask n
  have e2 : firstPos (plansS t m) (askedS m) n = (Vaidxe.firstLeast (cM t m) ((wM t m).filter fun x => Vaidxe.askCost (cM t m) x n == Vaidxe.possible (cM t m) m.room n)).map (pM t m) := by
    unfold firstPos
    rw [e1, pl_eq ok, List.filter_map]
    have : (wM t m).filter ((fun p => decide (natAt p.rises n = Vaidxe.possible (cM t m) m.room n)) ∘ pM t m) = (wM t m).filter fun x => Vaidxe.askCost (cM t m) x n == Vaidxe.possible (cM t m) m.room n := by
      refine List.filter_congr fun s hs => ?_
      rw [Function.comp, (pl_sms ok s hs).ask n]
      rfl
    rw [this]
    exact firstP_eq fun s hs => pl_sms ok s (List.mem_filter.mp hs).1
  rw [e2, e1]
  have hne : ((wM t m).map fun s => Vaidxe.askCost (cM t m) s n) ≠ [] := by
    intro e
    rw [List.map_eq_nil_iff] at e
    exact List.ne_nil_of_mem (nil_within _ _) e
  have hmem := leastOf_mem hne
  obtain ⟨s0, hs0, he⟩ := List.mem_map.mp hmem
  obtain ⟨x, hx⟩ := firstLeast_some (c := cM t m) (l := (wM t m).filter fun x => Vaidxe.askCost (cM t m) x n == Vaidxe.possible (cM t m) m.room n)
    (List.ne_nil_of_mem (List.mem_filter.mpr ⟨hs0, by rw [beq_iff_eq]; exact he⟩))
  simp only [hx, Option.map_some]
  rw [count_eq, sm_cost (pl_sms ok x (List.mem_filter.mp (firstLeast_mem hx)).1)]
  rfl
end

end IX
end

section
/-! The plain law: candidates. -/
namespace IX
open VaidxBase (Question Filter Group Table Index)
open Vaidxd (Offer Set_)

def toIx (s : Shape) : Index := ⟨s.1, s.2, none⟩
theorem toIx_inj {a b : Shape} (h : toIx a = toIx b) : a = b := by
  unfold toIx at h
  rw [VaidxBase.Index.mk.injEq] at h
  exact Prod.ext h.1 h.2.1

def onceI (k : List Index) (x : Index) : List Index := if k.contains x then k else k ++ [x]

theorem addS_toIx (out : List Shape) (s : Shape) : (addS out s).map toIx = onceI (out.map toIx) (toIx s) := by
  unfold addS onceI
  have e : (out.map toIx).contains (toIx s) = true ↔ s ∈ out := by
    rw [List.contains_iff_mem, List.mem_map]
    exact ⟨fun ⟨a, h1, h2⟩ => toIx_inj h2 ▸ h1, fun h => ⟨s, h, rfl⟩⟩
  by_cases h : s ∈ out
  · rw [if_pos h, if_pos (e.mpr h)]
  · rw [if_neg h, if_neg (fun x => h (e.mp x)), List.map_append]; rfl

def covStep (ks : List Nat) (l : List Nat) (c : Nat) : List Nat := if ks.contains c || l.contains c then l else l ++ [c]

theorem cov_filter (ks : List Nat) : ∀ (l k : List Nat), (l.foldl onceF k).filter (fun c => !ks.contains c) = l.foldl (covStep ks) (k.filter fun c => !ks.contains c)
  | [], k => rfl
  | a :: l, k => by
    rw [List.foldl_cons, List.foldl_cons, cov_filter ks l]
    congr 1
    unfold onceF covStep
    by_cases h1 : ks.contains a = true
    · rw [h1, Bool.true_or, if_pos rfl]
      by_cases h2 : k.contains a = true
      · rw [if_pos h2]
      · rw [if_neg h2, List.filter_append, List.filter_cons, h1]; simp
    · have h1' : ks.contains a = false := by simpa using h1
      rw [h1', Bool.false_or]
      have e : (k.filter fun c => !ks.contains c).contains a = k.contains a := by
        rw [Bool.eq_iff_iff, List.contains_iff_mem, List.contains_iff_mem, List.mem_filter, h1']
        simp
      rw [e]
      by_cases h2 : k.contains a = true
      · rw [if_pos h2, if_pos h2]
      · rw [if_neg h2, if_neg h2, List.filter_append, List.filter_cons, h1']; rfl

theorem covering_eq (q : Question) (ks : List Nat) : Vaidxe.covering q ks = toIx (ks, without (onceL (VaidxBase.needed q)) ks) := by
  unfold Vaidxe.covering toIx without onceL
  rw [cov_filter]
  rfl

theorem onceL_head : ∀ (l : List Nat) (a : Nat), ∃ r, onceL (a :: l) = a :: r := by
  have aux : ∀ (l : List Nat) (a : Nat) (k : List Nat), ∃ r, l.foldl onceF (a :: k) = a :: r := by
    intro l
    induction l with
    | nil => intro a k; exact ⟨k, rfl⟩
    | cons b l ih =>
      intro a k
      rw [List.foldl_cons]
      unfold onceF
      by_cases h : (a :: k).contains b = true
      · rw [if_pos h]; exact ih a k
      · rw [if_neg h]; exact ih a (k ++ [b])
  intro l a
  exact aux l a []

theorem keysFor_eq {q : Question} (nd : (q.filters.map fun f => f.col).Nodup) : Vaidxe.keysFor q = keysL q := by
  unfold Vaidxe.keysFor keysL
  simp only []
  have e1 : ((if (VaidxBase.orderLeft q).isEmpty = true then [] else [Vaidxe.equals q ++ VaidxBase.orderLeft q]) ++ (Vaidxe.ranges q).map fun r => Vaidxe.equals q ++ [r]) = keys2 q := by
    unfold keys2 keys1 Vaidxe.ranges
    rw [orderLeft_eq nd, List.map_map]
    congr 1
    cases without q.order (Vaidxe.equals q) with
    | nil => rfl
    | cons a l => rfl
  rw [e1]
  cases keys2 q with
  | cons a l => rfl
  | nil =>
    show [if (Vaidxe.equals q).isEmpty = true then [(VaidxBase.needed q).headD 0] else Vaidxe.equals q] = [wantKeys (Vaidxe.equals q) (onceL (VaidxBase.needed q))]
    unfold wantKeys
    cases Vaidxe.equals q with
    | cons a l => rfl
    | nil =>
      cases VaidxBase.needed q with
      | nil => rfl
      | cons a l =>
        obtain ⟨r, hr⟩ := onceL_head l a
        rw [hr]
        rfl

theorem cands_eq {q : Question} (nd : (q.filters.map fun f => f.col).Nodup) : Vaidxe.candidates q = (shapesOf q).map toIx := by
  unfold Vaidxe.candidates Vaidxe.once shapesOf
  rw [keysFor_eq nd]
  have aux : ∀ (l : List (List Nat)) (out : List Shape), (l.flatMap fun k => [⟨k, [], none⟩, Vaidxe.covering q k]).foldl onceI (out.map toIx) = (l.foldl (shapeStep (onceL (VaidxBase.needed q))) out).map toIx := by
    intro l
    induction l with
    | nil => intro out; rfl
    | cons k l ih =>
      intro out
      rw [List.flatMap_cons, List.foldl_append, List.foldl_cons (f := shapeStep _), ← ih]
      congr 1
      rw [List.foldl_cons, List.foldl_cons, List.foldl_nil, covering_eq]
      unfold shapeStep
      rw [addS_toIx, addS_toIx]
      rfl
  exact aux (keysL q) []

theorem flat_nums (s : Shape) : VaidxBase.flatIndex (toIx s) = zs (numsOf s) := by
  unfold VaidxBase.flatIndex toIx numsOf zs VaidxBase.listed VaidxBase.ints VaidxBase.int
  simp

theorem cand_fold : ∀ (l : List Shape) (out : List Nat), zs (l.foldl (fun out s => out ++ numsOf s) out) = zs out ++ (l.map toIx).flatMap VaidxBase.flatIndex
  | [], out => by simp
  | s :: l, out => by
    rw [List.foldl_cons, cand_fold l, List.map_cons, List.flatMap_cons, flat_nums]
    unfold zs
    rw [List.map_append, List.append_assoc]

theorem cand_tell {q : Question} (nd : (q.filters.map fun f => f.col).Nodup) : (let l := Vaidxe.candidates q
    VaidxBase.int l.length :: l.flatMap VaidxBase.flatIndex) = zs (candA q) := by
  unfold candA
  rw [cand_fold, cands_eq nd]
  simp only [List.length_map]
  rfl

end IX
end

section
/-! The plain law: readers, part 1. -/
namespace IX
open VaidxBase (Question Filter Group Table Index)

theorem apart_nodup : ∀ l : List Nat, VaidxBase.apart l = true ↔ l.Nodup
  | [] => by simp [VaidxBase.apart]
  | x :: r => by
    rw [VaidxBase.apart, Bool.and_eq_true, Bool.not_eq_true', apart_nodup r, List.nodup_cons, ← Bool.not_eq_true, List.contains_iff_mem]

theorem unlike_cons {α : Type} [DecidableEq α] (xs : List α) (x : α) : unlike (xs ++ [x]) = (unlike xs && !decide (x ∈ xs)) := by
  unfold unlike
  rw [List.length_append, List.length_singleton, List.range_succ, List.any_append, Bool.not_or]
  congr 1
  · congr 1
    rw [Bool.eq_iff_iff, List.any_eq_true, List.any_eq_true]
    refine exists_congr fun i => ?_
    constructor
    · rintro ⟨h1, h2⟩
      refine ⟨h1, ?_⟩
      have hi := List.mem_range.mp h1
      unfold dbl at *
      rw [List.getElem?_append_left hi, List.take_append_of_le_length (Nat.le_of_lt hi)] at h2
      exact h2
    · rintro ⟨h1, h2⟩
      refine ⟨h1, ?_⟩
      have hi := List.mem_range.mp h1
      unfold dbl at *
      rw [List.getElem?_append_left hi, List.take_append_of_le_length (Nat.le_of_lt hi)]
      exact h2
  · rw [List.any_cons, List.any_nil, Bool.or_false]
    unfold dbl
    rw [List.getElem?_append_right (Nat.le_refl _), Nat.sub_self, List.take_append_of_le_length (Nat.le_refl _), List.take_length]
    rfl

theorem unlike_nd {α : Type} [DecidableEq α] (xs : List α) : unlike xs = true ↔ xs.Nodup := by
  have aux : ∀ n (xs : List α), xs.length = n → (unlike xs = true ↔ xs.Nodup) := by
    intro n
    induction n with
    | zero => intro xs h; rw [List.length_eq_zero_iff] at h; subst h; simp [unlike]
    | succ n ih =>
      intro xs h
      have hne : xs ≠ [] := by intro e; rw [e] at h; exact absurd h (by simp)
      obtain ⟨k, g, rfl⟩ : ∃ k g, xs = k ++ [g] := ⟨xs.dropLast, xs.getLast hne, (List.dropLast_concat_getLast hne).symm⟩
      have hk : k.length = n := by simpa using h
      rw [unlike_cons, Bool.and_eq_true, ih k hk, List.nodup_append, Bool.not_eq_true', decide_eq_false_iff_not]
      constructor
      · rintro ⟨h1, h2⟩
        exact ⟨h1, by simp, fun a ha b hb => by rw [List.mem_singleton] at hb; rintro rfl; exact h2 (hb ▸ ha)⟩
      · rintro ⟨h1, _, h3⟩
        exact ⟨h1, fun hg => h3 g hg g (by simp) rfl⟩
  exact aux _ xs rfl

theorem toNat_nodup : ∀ l : List Int, (∀ z ∈ l, 0 ≤ z) → ((l.map Int.toNat).Nodup ↔ l.Nodup)
  | [], _ => by simp
  | a :: l, h => by
    have ha := h a List.mem_cons_self
    rw [List.map_cons, List.nodup_cons, List.nodup_cons, toNat_nodup l fun z hz => h z (List.mem_cons_of_mem _ hz)]
    have : a.toNat ∈ l.map Int.toNat ↔ a ∈ l := by
      rw [List.mem_map]
      constructor
      · rintro ⟨b, hb, e⟩
        have := h b (List.mem_cons_of_mem _ hb)
        have : b = a := by omega
        exact this ▸ hb
      · intro hb; exact ⟨a, hb, rfl⟩
    rw [this]

theorem way_drop (l : List Int) (a k : Nat) : wayAt (l.drop a) k = wayAt l (a + k) := by
  unfold wayAt; rw [List.getElem?_drop]

theorem readNat_eq (lo hi : Nat) (l : List Int) : VaidxBase.readNat lo hi l = if 0 < l.length ∧ btw (wayAt l 0) lo hi = true then some ((wayAt l 0).toNat, l.drop 1) else none := by
  cases l with
  | nil => rfl
  | cons z r =>
    unfold VaidxBase.readNat wayAt btw VaidxBase.int
    simp only [List.length_cons, List.getElem?_cons_zero, Option.getD_some, Nat.zero_lt_succ, true_and, Bool.and_eq_true, decide_eq_true_iff, List.drop_succ_cons, List.drop_zero]

theorem readNat_at (lo hi : Nat) (l : List Int) (a : Nat) : VaidxBase.readNat lo hi (l.drop a) = if a < l.length ∧ btw (wayAt l a) lo hi = true then some ((wayAt l a).toNat, l.drop (a + 1)) else none := by
  rw [readNat_eq, way_drop, List.drop_drop, List.length_drop, Nat.add_zero]
  by_cases h : a < l.length ∧ btw (wayAt l a) lo hi = true
  · rw [if_pos h, if_pos ⟨by omega, h.2⟩]
  · rw [if_neg h, if_neg (fun e => h ⟨by omega, e.2⟩)]

theorem readTimes_nat (lo hi : Nat) : ∀ (n : Nat) (l : List Int), VaidxBase.readTimes (VaidxBase.readNat lo hi) n l = if n ≤ l.length ∧ ((l.take n).all fun z => btw z lo hi) = true then some ((l.take n).map Int.toNat, l.drop n) else none
  | 0, l => by simp [VaidxBase.readTimes]
  | n + 1, [] => by
    rw [VaidxBase.readTimes, readNat_eq, if_neg (by simp), if_neg (by simp)]; rfl
  | n + 1, z :: r => by
    rw [VaidxBase.readTimes, readNat_eq, List.take_succ_cons, List.all_cons, List.map_cons, List.drop_succ_cons]
    have e0 : wayAt (z :: r) 0 = z := rfl
    rw [e0]
    by_cases h1 : btw z lo hi = true
    · rw [if_pos ⟨by simp, h1⟩, Option.bind_some]
      simp only [List.drop_succ_cons, List.drop_zero]
      rw [readTimes_nat lo hi n r, h1, Bool.true_and, List.length_cons]
      by_cases h2 : n ≤ r.length ∧ ((r.take n).all fun z => btw z lo hi) = true
      · rw [if_pos h2, if_pos ⟨by omega, h2.2⟩]; rfl
      · rw [if_neg h2, if_neg (fun e => h2 ⟨by omega, e.2⟩)]; rfl
    · rw [if_neg (fun e => h1 e.2), if_neg (fun e => h1 (by have := e.2; rw [Bool.and_eq_true] at this; exact this.1))]; rfl

theorem readTimes_gen {A : Type} (a : VaidxBase.Reader A) (p : List Int → Bool) (f : List Int → A) (m : Nat) (h : ∀ l, a l = if p l = true then some (f l, l.drop m) else none) : ∀ (n : Nat) (l : List Int),
    VaidxBase.readTimes a n l = if ((List.range n).all fun j => p (l.drop (j * m))) = true then some ((List.range n).map fun j => f (l.drop (j * m)), l.drop (n * m)) else none
  | 0, l => by simp [VaidxBase.readTimes]
  | n + 1, l => by
    rw [VaidxBase.readTimes, h, List.range_succ_eq_map, List.all_cons, List.map_cons, List.all_map, List.map_map]
    have e0 : l.drop (0 * m) = l := by rw [Nat.zero_mul]; rfl
    rw [e0]
    have e1 : ∀ j, (l.drop m).drop (j * m) = l.drop (Nat.succ j * m) := by
      intro j; rw [List.drop_drop, Nat.succ_mul, Nat.add_comm]
    by_cases h1 : p l = true
    · rw [if_pos h1, Option.bind_some, h1, Bool.true_and]
      simp only []
      rw [readTimes_gen a p f m h n (l.drop m)]
      simp only [e1, Function.comp_def]
      by_cases h2 : ((List.range n).all fun j => p (l.drop (Nat.succ j * m))) = true
      · rw [if_pos h2, if_pos h2]; rfl
      · rw [if_neg h2, if_neg h2]; rfl
    · rw [if_neg h1, if_neg (fun e => h1 (by rw [Bool.and_eq_true] at e; exact e.1))]; rfl

end IX
end

section
/-! The plain law: a table read. -/
namespace IX
open VaidxBase (Question Filter Group Table Index)

theorem nodup_on {α β : Type} (f : α → β) : ∀ l : List α, (∀ a ∈ l, ∀ b ∈ l, f a = f b → a = b) → ((l.map f).Nodup ↔ l.Nodup)
  | [], _ => by simp
  | a :: l, h => by
    rw [List.map_cons, List.nodup_cons, List.nodup_cons, nodup_on f l fun x hx y hy => h x (List.mem_cons_of_mem _ hx) y (List.mem_cons_of_mem _ hy)]
    have : f a ∈ l.map f ↔ a ∈ l := by
      rw [List.mem_map]
      constructor
      · rintro ⟨b, hb, e⟩
        exact h b (List.mem_cons_of_mem _ hb) a List.mem_cons_self e ▸ hb
      · intro hb; exact ⟨a, hb, rfl⟩
    rw [this]

theorem toNat_map_inj : ∀ l m : List Int, (∀ z ∈ l, 0 ≤ z) → (∀ z ∈ m, 0 ≤ z) → l.map Int.toNat = m.map Int.toNat → l = m
  | [], [], _, _, _ => rfl
  | [], _ :: _, _, _, h => by simp at h
  | _ :: _, [], _, _, h => by simp at h
  | a :: l, b :: m, h1, h2, h => by
    rw [List.map_cons, List.map_cons, List.cons.injEq] at h
    have ha := h1 a List.mem_cons_self
    have hb := h2 b List.mem_cons_self
    rw [toNat_map_inj l m (fun z hz => h1 z (List.mem_cons_of_mem _ hz)) (fun z hz => h2 z (List.mem_cons_of_mem _ hz)) h.2]
    have : a = b := by omega
    rw [this]

theorem rowsApart_nd : ∀ l : List Group, VaidxBase.rowsApart l = true ↔ (l.map fun g => g.row).Nodup
  | [] => by simp [VaidxBase.rowsApart]
  | g :: l => by
    rw [VaidxBase.rowsApart, Bool.and_eq_true, rowsApart_nd l, List.map_cons, List.nodup_cons, Bool.not_eq_true', ← Bool.not_eq_true, List.any_eq_true, List.mem_map]
    refine and_congr (not_congr (exists_congr fun h => and_congr Iff.rfl ?_)) Iff.rfl
    rw [beq_iff_eq]

abbrev readG (w : Nat) : VaidxBase.Reader (List Nat × Nat) := VaidxBase.readPair (VaidxBase.readTimes (VaidxBase.readNat 0 VaidxBase.VALUE) w) (VaidxBase.readNat 1 VaidxBase.COUNT)

theorem readG_eq (w : Nat) (l : List Int) : readG w l = if (decide (w < l.length) && okG (rawG l 0 w)) = true then some (((rawG l 0 w).1.map Int.toNat, (rawG l 0 w).2.toNat), l.drop (w + 1)) else none := by
  unfold readG VaidxBase.readPair
  rw [readTimes_nat]
  unfold okG rawG
  simp only [List.drop_zero, Nat.zero_add]
  by_cases h1 : w ≤ l.length ∧ ((l.take w).all fun z => btw z (0 : Nat) (VaidxBase.VALUE : Nat)) = true
  · rw [if_pos h1, Option.bind_some]
    simp only []
    rw [readNat_at]
    by_cases h2 : w < l.length ∧ btw (wayAt l w) (1 : Nat) (VaidxBase.COUNT : Nat) = true
    · rw [if_pos h2, if_pos (by rw [Bool.and_eq_true, Bool.and_eq_true, decide_eq_true_iff]; exact ⟨h2.1, h1.2, h2.2⟩)]; rfl
    · rw [if_neg h2, if_neg (by rw [Bool.and_eq_true, Bool.and_eq_true, decide_eq_true_iff]; exact fun e => h2 ⟨e.1, e.2.2⟩)]; rfl
  · rw [if_neg h1, if_neg (by rw [Bool.and_eq_true, Bool.and_eq_true, decide_eq_true_iff]; exact fun e => h1 ⟨Nat.le_of_lt e.1, e.2.1⟩)]; rfl

theorem rawG_drop (l : List Int) (a w : Nat) : rawG (l.drop a) 0 w = rawG l a w := by
  unfold rawG
  rw [List.drop_drop, way_drop, Nat.zero_add, Nat.add_zero]

theorem btw_nat {z : Int} {lo hi : Nat} (h : btw z lo hi = true) : lo ≤ z.toNat ∧ z.toNat ≤ hi ∧ 0 ≤ z := by
  unfold btw at h
  rw [Bool.and_eq_true, decide_eq_true_iff, decide_eq_true_iff] at h
  omega

theorem table_ok (w k : Nat) (gs : List RawG) (h1 : 1 ≤ w) (h4 : w ≤ 4) (hk : gs.length ≤ 12) (hr : ∀ g ∈ gs, g.1.length = w ∧ okG g = true) : VaidxBase.okTable ⟨w, gs.map toG⟩ = unlike (gs.map fun g => g.1) := by
  have hrow : ∀ g ∈ gs, ∀ z ∈ g.1, 0 ≤ z := by
    intro g hg z hz
    have := (hr g hg).2
    unfold okG at this
    rw [Bool.and_eq_true, List.all_eq_true] at this
    exact (btw_nat (lo := 0) (hi := 9) (this.1 z hz)).2.2
  have hok : ((gs.map toG).all fun g => g.row.length == w && (g.row.all (fun v => decide (v ≤ VaidxBase.VALUE)) && (decide (1 ≤ g.count) && decide (g.count ≤ VaidxBase.COUNT)))) = true := by
    rw [List.all_eq_true]
    intro g hg
    obtain ⟨r, hr1, rfl⟩ := List.mem_map.mp hg
    obtain ⟨e1, e2⟩ := hr r hr1
    unfold okG at e2
    rw [Bool.and_eq_true, List.all_eq_true] at e2
    have c := btw_nat (lo := 1) (hi := 1000000) e2.2
    unfold toG
    simp only [List.length_map, e1, beq_self_eq_true, Bool.true_and, Bool.and_eq_true, decide_eq_true_iff, List.all_eq_true]
    refine ⟨fun v hv => ?_, c.1, c.2.1⟩
    obtain ⟨z, hz, rfl⟩ := List.mem_map.mp hv
    exact (btw_nat (lo := 0) (hi := 9) (e2.1 z hz)).2.1
  unfold VaidxBase.okTable
  simp only []
  rw [hok, decide_eq_true h1, List.length_map]
  have : decide (w ≤ VaidxBase.COLS) = true := decide_eq_true h4
  rw [this]
  have : decide (gs.length ≤ VaidxBase.GROUPS) = true := decide_eq_true hk
  rw [this, Bool.true_and, Bool.true_and, Bool.true_and, Bool.true_and, Bool.eq_iff_iff, rowsApart_nd, unlike_nd, List.map_map]
  have e : ((fun g : Group => g.row) ∘ toG) = (fun r : List Int => r.map Int.toNat) ∘ fun g : RawG => g.1 := rfl
  rw [e, ← List.map_map]
  refine nodup_on _ _ fun a ha b hb h => ?_
  obtain ⟨g, hg, rfl⟩ := List.mem_map.mp ha
  obtain ⟨g', hg', rfl⟩ := List.mem_map.mp hb
  exact toNat_map_inj _ _ (hrow g hg) (hrow g' hg') h

theorem table_eq (l : List Int) : VaidxBase.whole VaidxBase.readTable l = tableOf l := by
  unfold VaidxBase.whole VaidxBase.readTable tableOf
  rw [readNat_eq]
  by_cases h0 : 0 < l.length ∧ btw (wayAt l 0) (1 : Nat) (VaidxBase.COLS : Nat) = true
  · rw [if_pos h0, Option.bind_some]
    simp only []
    unfold VaidxBase.readListed
    rw [readNat_at]
    by_cases h1 : 1 < l.length ∧ btw (wayAt l 1) (0 : Nat) (VaidxBase.GROUPS : Nat) = true
    · have hL2 : ¬ l.length < 2 := by omega
      rw [if_pos h1, Option.bind_some, if_neg hL2]
      have b0 : btw (wayAt l 0) 1 4 = true := h0.2
      have b1 : btw (wayAt l 1) 0 12 = true := h1.2
      obtain ⟨w1, w4, w0⟩ := btw_nat (lo := 1) (hi := 4) b0
      obtain ⟨_, k12, k0⟩ := btw_nat (lo := 0) (hi := 12) b1
      have hB : ¬ ((!btw (wayAt l 0) 1 4 || !btw (wayAt l 1) 0 12) = true) := by rw [b0, b1]; simp
      rw [if_neg hB]
      simp only []
      rw [readTimes_gen _ _ _ _ (readG_eq (wayAt l 0).toNat)]
      generalize hw : (wayAt l 0).toNat = w at *
      generalize hk : (wayAt l 1).toNat = k at *
      have ew : wayAt l 0 = (w : Int) := by omega
      have ek : wayAt l 1 = (k : Int) := by omega
      rw [ew, ek]
      have elen : ((l.length : Int) = 2 + (k : Int) * ((w : Int) + 1)) ↔ l.length = 2 + k * (w + 1) := by
        rw [← Int.ofNat_inj]; simp
      simp only [rawG_drop, List.drop_drop, List.length_drop, Nat.reduceAdd]
      by_cases hlen : l.length = 2 + k * (w + 1)
      · have hL : ¬ ¬ ((l.length : Int) = 2 + (k : Int) * ((w : Int) + 1)) := fun e => e (elen.mpr hlen)
        rw [if_neg hL]
        have hlt : ∀ j, j < k → w < l.length - (2 + j * (w + 1)) := by
          intro j hj
          have : j * (w + 1) + (w + 1) ≤ k * (w + 1) := by rw [← Nat.succ_mul]; exact Nat.mul_le_mul_right _ hj
          omega
        have eall : ((List.range k).all fun j => decide (w < l.length - (2 + j * (w + 1))) && okG (rawG l (2 + j * (w + 1)) w)) = ((List.range k).map fun j => rawG l (2 + j * (w + 1)) w).all okG := by
          rw [List.all_map]
          rw [Bool.eq_iff_iff, List.all_eq_true, List.all_eq_true]
          refine forall_congr' fun j => forall_congr' fun hj => ?_
          rw [decide_eq_true (hlt j (List.mem_range.mp hj)), Bool.true_and]; rfl
        rw [eall]
        by_cases hall : ((List.range k).map fun j => rawG l (2 + j * (w + 1)) w).all okG = true
        · rw [if_pos hall, if_neg (fun e => e hall), Option.bind_some]
          simp only [List.map_map]
          have et : ((List.range k).map ((fun y : List Nat × Nat => (⟨y.1, y.2⟩ : Group)) ∘ fun j => ((rawG l (2 + j * (w + 1)) w).1.map Int.toNat, (rawG l (2 + j * (w + 1)) w).2.toNat))) = ((List.range k).map fun j => rawG l (2 + j * (w + 1)) w).map toG := by
            rw [List.map_map]; rfl
          rw [et]
          have hg : ∀ g ∈ ((List.range k).map fun j => rawG l (2 + j * (w + 1)) w), g.1.length = w ∧ okG g = true := by
            intro g hg
            refine ⟨?_, List.all_eq_true.mp hall g hg⟩
            obtain ⟨j, hj, rfl⟩ := List.mem_map.mp hg
            have := hlt j (List.mem_range.mp hj)
            unfold rawG
            simp only [List.length_take, List.length_drop]
            omega
          rw [table_ok w k _ w1 w4 (by simp; exact k12) hg, List.map_map]
          have ed : l.drop (2 + k * (w + 1)) = [] := List.drop_eq_nil_of_le (by omega)
          by_cases hu : unlike ((List.range k).map ((fun g : RawG => g.1) ∘ fun j => rawG l (2 + j * (w + 1)) w)) = true
          · rw [if_pos hu, if_neg (fun e => e hu), ed, List.map_map]
          · rw [if_neg hu, if_pos hu]
        · rw [if_neg hall, if_pos hall]; rfl
      · have hL : ¬ ((l.length : Int) = 2 + (k : Int) * ((w : Int) + 1)) := fun e => hlen (elen.mp e)
        rw [if_pos hL]
        by_cases hall : ((List.range k).all fun j => decide (w < l.length - (2 + j * (w + 1))) && okG (rawG l (2 + j * (w + 1)) w)) = true
        · rw [if_pos hall, Option.bind_some]
          simp only []
          -- something is left over
          have hge : 2 + k * (w + 1) ≤ l.length := by
            cases k with
            | zero => omega
            | succ k =>
              have := List.all_eq_true.mp hall k (List.mem_range.mpr (Nat.lt_succ_self k))
              rw [Bool.and_eq_true, decide_eq_true_iff] at this
              rw [Nat.succ_mul]; omega
          have hne : l.drop (2 + k * (w + 1)) ≠ [] := by
            intro e
            rw [List.drop_eq_nil_iff] at e
            omega
          split
          · rename_i u hu
            split at hu
            · rw [Option.some.injEq, Prod.mk.injEq] at hu
              exact absurd hu.2 hne
            · cases hu
          · rfl
        · rw [if_neg hall]; rfl
    · rw [if_neg h1]
      show none = _
      by_cases h2 : l.length < 2
      · rw [if_pos h2]
      · rw [if_neg h2, if_pos]
        have : ¬ btw (wayAt l 1) 0 12 = true := fun e => h1 ⟨by omega, e⟩
        rw [Bool.or_eq_true, Bool.not_eq_true', Bool.not_eq_true']
        exact .inr (by simpa using this)
  · rw [if_neg h0]
    show none = _
    by_cases h2 : l.length < 2
    · rw [if_pos h2]
    · rw [if_neg h2, if_pos]
      have : ¬ btw (wayAt l 0) 1 4 = true := fun e => h0 ⟨by omega, e⟩
      rw [Bool.or_eq_true, Bool.not_eq_true', Bool.not_eq_true']
      exact .inl (by simpa using this)

end IX
end

section
/-! The plain law: columns and filters read. -/
namespace IX
open VaidxBase (Question Filter Group Table Index)

/-- Columns read at a place: nothing told of their being apart. -/
def rc (l : List Int) (a w : Nat) : Option (List Nat) := if a < l.length ∧ btw (wayAt l a) 0 w = true ∧ a + 1 + (wayAt l a).toNat ≤ l.length ∧ ((colsRaw l a).all fun z => btw z 0 ((w : Int) - 1)) = true then some ((colsRaw l a).map Int.toNat) else none

theorem rc_len {l : List Int} {a w : Nat} {cs : List Nat} (h : rc l a w = some cs) : (wayAt l a).toNat = cs.length ∧ a + 1 + cs.length ≤ l.length := by
  unfold rc at h
  split at h
  · rename_i hc
    cases h
    have : (colsRaw l a).length = (wayAt l a).toNat := by
      unfold colsRaw; rw [List.length_take, List.length_drop]; omega
    rw [List.length_map, this]; exact ⟨rfl, hc.2.2.1⟩
  · cases h

theorem readCols_eq (least : Nat) (w : Nat) (hw : 1 ≤ w) (l : List Int) (a : Nat) : VaidxBase.readColumns least w (l.drop a) = (rc l a w).bind fun cs => if least ≤ cs.length then some (cs, l.drop (a + 1 + cs.length)) else none := by
  unfold VaidxBase.readColumns VaidxBase.readListed
  rw [readNat_at]
  have ew : (((w - 1 : Nat)) : Int) = (w : Int) - 1 := by omega
  by_cases h1 : a < l.length ∧ btw (wayAt l a) least w = true
  · rw [if_pos h1, Option.bind_some]
    simp only []
    have hb := btw_nat h1.2
    have hb0 : btw (wayAt l a) 0 w = true := by
      have := h1.2
      unfold btw at *
      rw [Bool.and_eq_true, decide_eq_true_iff, decide_eq_true_iff] at *
      omega
    rw [readTimes_nat, List.length_drop, ew]
    by_cases h2 : (wayAt l a).toNat ≤ l.length - (a + 1) ∧ (((l.drop (a + 1)).take (wayAt l a).toNat).all fun z => btw z (0 : Nat) ((w : Int) - 1)) = true
    · rw [if_pos h2]
      have hc : rc l a w = some ((colsRaw l a).map Int.toNat) := by
        unfold rc
        exact if_pos ⟨h1.1, hb0, by omega, h2.2⟩
      have hl := rc_len hc
      rw [hc, Option.bind_some, if_pos (by rw [← hl.1]; exact hb.1), ← hl.1, List.drop_drop]
      rfl
    · have hc : rc l a w = none := by
        unfold rc
        exact if_neg (fun e => h2 ⟨by omega, e.2.2.2⟩)
      rw [if_neg h2, hc]; rfl
  · rw [if_neg h1]
    show none = _
    cases hc : rc l a w with
    | none => rfl
    | some cs =>
      have hl := rc_len hc
      rw [Option.bind_some]
      by_cases h3 : least ≤ cs.length
      · exfalso
        apply h1
        unfold rc at hc
        split at hc
        · rename_i h4
          refine ⟨h4.1, ?_⟩
          have := h4.2.1
          unfold btw at *
          rw [Bool.and_eq_true, decide_eq_true_iff, decide_eq_true_iff] at *
          omega
        · cases hc
      · rw [if_neg h3]

theorem colsAt_eq (l : List Int) (a w : Nat) : colsAt l a w = (rc l a w).bind fun cs => if VaidxBase.apart cs = true then some cs else none := by
  unfold colsAt rc
  by_cases h1 : l.length ≤ a
  · rw [if_pos h1, if_neg (fun e => absurd e.1 (by omega))]; rfl
  · rw [if_neg h1]
    by_cases h2 : btw (wayAt l a) 0 w = true
    · have hb := (btw_nat (lo := 0) (hi := w) h2)
      by_cases h3 : (l.length : Int) < (a : Int) + 1 + wayAt l a
      · rw [if_pos (by rw [decide_eq_true h3]; simp), if_neg (fun e => absurd e.2.2.1 (by omega))]; rfl
      · rw [if_neg (by rw [decide_eq_false h3, h2]; simp)]
        by_cases h4 : ((colsRaw l a).all fun z => btw z 0 ((w : Int) - 1)) = true
        · have hcnd : a < l.length ∧ btw (wayAt l a) 0 w = true ∧ a + 1 + (wayAt l a).toNat ≤ l.length ∧ ((colsRaw l a).all fun z => btw z 0 ((w : Int) - 1)) = true := ⟨by omega, h2, by omega, h4⟩
          rw [if_neg (fun e => e h4), if_pos hcnd, Option.bind_some]
          have hp : ∀ z ∈ colsRaw l a, 0 ≤ z := by
            intro z hz
            have := List.all_eq_true.mp h4 z hz
            unfold btw at this
            rw [Bool.and_eq_true, decide_eq_true_iff] at this
            exact this.1
          have : VaidxBase.apart ((colsRaw l a).map Int.toNat) = true ↔ unlike (colsRaw l a) = true := by
            rw [apart_nodup, unlike_nd, toNat_nodup _ hp]
          by_cases h5 : unlike (colsRaw l a) = true
          · rw [if_neg (fun e => e h5), if_pos (this.mpr h5)]
          · rw [if_pos h5, if_neg (fun e => h5 (this.mp e))]
        · rw [if_pos h4, if_neg (fun e => h4 e.2.2.2)]; rfl
    · rw [if_pos (by simp [h2]), if_neg (fun e => h2 e.2.1)]; rfl

/-- Filters read at a place. -/
def rf (l : List Int) (a w : Nat) : Option (List Filter) := if a < l.length ∧ btw (wayAt l a) 0 w = true ∧ a + 1 + 3 * (wayAt l a).toNat ≤ l.length ∧ ((filsRaw l a).all (okF w)) = true then some ((filsRaw l a).map toF) else none

theorem rf_len {l : List Int} {a w : Nat} {fs : List Filter} (h : rf l a w = some fs) : (wayAt l a).toNat = fs.length ∧ a + 1 + 3 * fs.length ≤ l.length := by
  unfold rf at h
  split at h
  · rename_i hc
    cases h
    have : (filsRaw l a).length = (wayAt l a).toNat := by
      unfold filsRaw; rw [List.length_map, List.length_range]
    rw [List.length_map, this]; exact ⟨rfl, hc.2.2.1⟩
  · cases h

theorem rf_ok {l : List Int} {a w : Nat} {fs : List Filter} (h : rf l a w = some fs) : fs.all (VaidxBase.okFilter w) = true := by
  unfold rf at h
  split at h
  · rename_i hc
    cases h
    rw [List.all_map, List.all_eq_true]
    intro f hf
    have := List.all_eq_true.mp hc.2.2.2 f hf
    unfold okF btw at this
    unfold VaidxBase.okFilter toF VaidxBase.VALUE
    simp only [Function.comp, Bool.and_eq_true, decide_eq_true_iff] at this ⊢
    omega
  · cases h
theorem rc_ok {l : List Int} {a w : Nat} {cs : List Nat} (h : rc l a w = some cs) : ∀ c ∈ cs, c < w := by
  unfold rc at h
  split at h
  · rename_i hc
    cases h
    intro c hcs
    obtain ⟨z, hz, rfl⟩ := List.mem_map.mp hcs
    have := List.all_eq_true.mp hc.2.2.2 z hz
    unfold btw at this
    rw [Bool.and_eq_true, decide_eq_true_iff, decide_eq_true_iff] at this
    omega
  · cases h

def f3 (l : List Int) : RawF := (wayAt l 0, wayAt l 1, wayAt l 2)
theorem readFil_eq (w : Nat) (hw : 1 ≤ w) (l : List Int) : VaidxBase.readFilter w l = if (decide (2 < l.length) && okF w (f3 l)) = true then some (toF (f3 l), l.drop 3) else none := by
  unfold VaidxBase.readFilter VaidxBase.readPair
  have ew : (((w - 1 : Nat)) : Int) = (w : Int) - 1 := by omega
  have e0 : l = l.drop 0 := rfl
  have hno : ∀ (h : ¬ ((decide (2 < l.length) && okF w (f3 l)) = true)), (none : Option (Filter × List Int)) = if (decide (2 < l.length) && okF w (f3 l)) = true then some (toF (f3 l), l.drop 3) else none := fun h => (if_neg h).symm
  rw [readNat_eq, ew]
  by_cases h1 : 0 < l.length ∧ btw (wayAt l 0) (0 : Nat) ((w : Int) - 1) = true
  · rw [if_pos h1, Option.bind_some]
    simp only []
    rw [readNat_at]
    by_cases h2 : 1 < l.length ∧ btw (wayAt l 1) (0 : Nat) (VaidxBase.VALUE : Nat) = true
    · rw [if_pos h2, Option.bind_some]
      simp only []
      rw [readNat_at]
      by_cases h3 : 2 < l.length ∧ btw (wayAt l 2) (0 : Nat) (VaidxBase.VALUE : Nat) = true
      · rw [if_pos h3]
        simp only [Option.map_some, Option.bind_some]
        have k1 := h1.2
        have k2 := h2.2
        have k3 := h3.2
        have : VaidxBase.okFilter w ⟨(wayAt l 0).toNat, (wayAt l 1).toNat, (wayAt l 2).toNat⟩ = (decide (2 < l.length) && okF w (f3 l)) := by
          rw [decide_eq_true h3.1, Bool.true_and]
          unfold okF f3 VaidxBase.okFilter VaidxBase.VALUE
          unfold btw VaidxBase.VALUE at *
          simp only [Bool.and_eq_true, decide_eq_true_iff] at k1 k2 k3
          rw [Bool.eq_iff_iff]
          simp only [Bool.and_eq_true, decide_eq_true_iff]
          omega
        rw [this]
        rfl
      · rw [if_neg h3]
        refine hno fun e => h3 ?_
        unfold okF f3 btw at e
        unfold btw VaidxBase.VALUE
        simp only [Bool.and_eq_true, decide_eq_true_iff] at e ⊢
        omega
    · rw [if_neg h2]
      refine hno fun e => h2 ?_
      unfold okF f3 btw at e
      unfold btw VaidxBase.VALUE
      simp only [Bool.and_eq_true, decide_eq_true_iff] at e ⊢
      omega
  · rw [if_neg h1]
    refine hno fun e => h1 ?_
    unfold okF f3 btw at e
    unfold btw
    simp only [Bool.and_eq_true, decide_eq_true_iff] at e ⊢
    omega

end IX
end

section
/-! The plain law: lists of filters read. -/
namespace IX
open VaidxBase (Question Filter Group Table Index)

theorem f3_drop (l : List Int) (b : Nat) : f3 (l.drop b) = (wayAt l b, wayAt l (b + 1), wayAt l (b + 2)) := by
  unfold f3; rw [way_drop, way_drop, way_drop]; rfl

theorem filsRaw_eq (l : List Int) (a : Nat) : ((List.range (wayAt l a).toNat).map fun j => f3 (l.drop (a + 1 + j * 3))) = filsRaw l a := by
  unfold filsRaw
  refine List.map_congr_left fun j _ => ?_
  rw [f3_drop, Nat.mul_comm 3 j]

theorem readFils_eq (mo w : Nat) (hw : 1 ≤ w) (hm : mo ≤ w) (l : List Int) (a : Nat) : VaidxBase.readListed 0 mo (VaidxBase.readFilter w) (l.drop a) = (rf l a w).bind fun fs => if fs.length ≤ mo then some (fs, l.drop (a + 1 + 3 * fs.length)) else none := by
  unfold VaidxBase.readListed
  rw [readNat_at]
  by_cases h1 : a < l.length ∧ btw (wayAt l a) (0 : Nat) mo = true
  · rw [if_pos h1, Option.bind_some]
    simp only []
    have hb := btw_nat h1.2
    have hb0 : btw (wayAt l a) 0 w = true := by
      have := h1.2
      unfold btw at *
      rw [Bool.and_eq_true, decide_eq_true_iff, decide_eq_true_iff] at *
      omega
    rw [readTimes_gen _ _ _ _ (readFil_eq w hw)]
    simp only [List.drop_drop, List.length_drop]
    have eall : ((List.range (wayAt l a).toNat).all fun j => decide (2 < l.length - (a + 1 + j * 3)) && okF w (f3 (l.drop (a + 1 + j * 3)))) = true ↔ (a + 1 + 3 * (wayAt l a).toNat ≤ l.length ∧ ((filsRaw l a).all (okF w)) = true) := by
      rw [← filsRaw_eq, List.all_map, List.all_eq_true, List.all_eq_true]
      constructor
      · intro h
        constructor
        · generalize (wayAt l a).toNat = k at *
          cases k with
          | zero => omega
          | succ k =>
            have := h k (List.mem_range.mpr (Nat.lt_succ_self k))
            rw [Bool.and_eq_true, decide_eq_true_iff] at this
            omega
        · intro j hj
          have := h j hj
          rw [Bool.and_eq_true] at this
          exact this.2
      · rintro ⟨h2, h3⟩ j hj
        have := h3 j hj
        rw [Bool.and_eq_true, decide_eq_true_iff]
        have hj' := List.mem_range.mp hj
        exact ⟨by omega, this⟩
    by_cases h2 : a + 1 + 3 * (wayAt l a).toNat ≤ l.length ∧ ((filsRaw l a).all (okF w)) = true
    · rw [if_pos (eall.mpr h2)]
      have hc : rf l a w = some ((filsRaw l a).map toF) := if_pos ⟨h1.1, hb0, h2.1, h2.2⟩
      have hl := rf_len hc
      rw [hc, Option.bind_some, if_pos (by rw [← hl.1]; exact hb.2.1), ← hl.1, ← filsRaw_eq, List.map_map, Nat.mul_comm 3]
      rfl
    · have hc : rf l a w = none := if_neg (fun e => h2 e.2.2)
      rw [if_neg (fun e => h2 (eall.mp e)), hc]; rfl
  · rw [if_neg h1]
    show none = _
    cases hc : rf l a w with
    | none => rfl
    | some fs =>
      have hl := rf_len hc
      rw [Option.bind_some]
      by_cases h3 : fs.length ≤ mo
      · exfalso
        apply h1
        unfold rf at hc
        split at hc
        · rename_i h4
          refine ⟨h4.1, ?_⟩
          have := h4.2.1
          unfold btw at *
          rw [Bool.and_eq_true, decide_eq_true_iff, decide_eq_true_iff] at *
          omega
        · cases hc
      · rw [if_neg h3]

theorem filsAt_eq (l : List Int) (a w : Nat) : filsAt l a w = (rf l a w).bind fun fs => if VaidxBase.apart (fs.map fun f => f.col) = true then some fs else none := by
  unfold filsAt rf
  by_cases h1 : l.length ≤ a
  · rw [if_pos h1, if_neg (fun e => absurd e.1 (by omega))]; rfl
  · rw [if_neg h1]
    by_cases h2 : btw (wayAt l a) 0 w = true
    · have hb := (btw_nat (lo := 0) (hi := w) h2)
      by_cases h3 : (l.length : Int) < (a : Int) + 1 + 3 * wayAt l a
      · rw [if_pos (by rw [decide_eq_true h3]; simp), if_neg (fun e => absurd e.2.2.1 (by omega))]; rfl
      · rw [if_neg (by rw [decide_eq_false h3, h2]; simp)]
        by_cases h4 : ((filsRaw l a).all (okF w)) = true
        · have hcnd : a < l.length ∧ btw (wayAt l a) 0 w = true ∧ a + 1 + 3 * (wayAt l a).toNat ≤ l.length ∧ ((filsRaw l a).all (okF w)) = true := ⟨by omega, h2, by omega, h4⟩
          rw [if_neg (fun e => e h4), if_pos hcnd, Option.bind_some]
          have hp : ∀ z ∈ (filsRaw l a).map (fun f => f.1), 0 ≤ z := by
            intro z hz
            obtain ⟨f, hf, rfl⟩ := List.mem_map.mp hz
            have := List.all_eq_true.mp h4 f hf
            unfold okF btw at this
            simp only [Bool.and_eq_true, decide_eq_true_iff] at this
            exact this.1.1
          have : VaidxBase.apart (((filsRaw l a).map toF).map fun f => f.col) = true ↔ unlike ((filsRaw l a).map fun f => f.1) = true := by
            have e : ((filsRaw l a).map toF).map (fun f => f.col) = ((filsRaw l a).map fun f => f.1).map Int.toNat := by
              rw [List.map_map, List.map_map]; rfl
            rw [e, apart_nodup, unlike_nd, toNat_nodup _ hp]
          by_cases h5 : unlike ((filsRaw l a).map fun f => f.1) = true
          · rw [if_neg (fun e => e h5), if_pos (this.mpr h5)]
          · rw [if_pos h5, if_neg (fun e => h5 (this.mp e))]
        · rw [if_pos h4, if_neg (fun e => h4 e.2.2.2)]; rfl
    · rw [if_pos (by simp [h2]), if_neg (fun e => h2 e.2.1)]; rfl

end IX
end

section
/-! The plain law: questions and indexes read. -/
namespace IX
open VaidxBase (Question Filter Group Table Index)

theorem rf_le {l : List Int} {a w : Nat} {fs : List Filter} (h : rf l a w = some fs) : fs.length ≤ w := by
  have hl := rf_len h
  unfold rf at h
  split at h
  · rename_i hc
    have := btw_nat (lo := 0) (hi := w) hc.2.1
    omega
  · cases h
theorem rc_le {l : List Int} {a w : Nat} {fs : List Nat} (h : rc l a w = some fs) : fs.length ≤ w := by
  have hl := rc_len h
  unfold rc at h
  split at h
  · rename_i hc
    have := btw_nat (lo := 0) (hi := w) hc.2.1
    omega
  · cases h

theorem readFils_w (w : Nat) (hw : 1 ≤ w) (l : List Int) (a : Nat) : VaidxBase.readListed 0 w (VaidxBase.readFilter w) (l.drop a) = (rf l a w).map fun fs => (fs, l.drop (a + 1 + 3 * fs.length)) := by
  rw [readFils_eq w w hw (Nat.le_refl _)]
  cases h : rf l a w with
  | none => rfl
  | some fs => rw [Option.bind_some, if_pos (rf_le h)]; rfl
theorem readCols_0 (w : Nat) (hw : 1 ≤ w) (l : List Int) (a : Nat) : VaidxBase.readColumns 0 w (l.drop a) = (rc l a w).map fun cs => (cs, l.drop (a + 1 + cs.length)) := by
  rw [readCols_eq 0 w hw]
  cases h : rc l a w with
  | none => rfl
  | some fs => rw [Option.bind_some, if_pos (Nat.zero_le _)]; rfl

/-- A question's parts read, before it's asked whether its columns are apart. -/
def rq (l : List Int) (w : Nat) : Option (Question × Nat) := (rf l 0 w).bind fun fs => (rc l (1 + 3 * fs.length) w).bind fun os =>
  if 1 + 3 * fs.length + 1 + os.length < l.length ∧ btw (wayAt l (1 + 3 * fs.length + 1 + os.length)) 0 1 = true then
    (rc l (1 + 3 * fs.length + 1 + os.length + 1) w).bind fun ws =>
      if 1 + 3 * fs.length + 1 + os.length + 2 + ws.length < l.length ∧ btw (wayAt l (1 + 3 * fs.length + 1 + os.length + 2 + ws.length)) 0 1000000 = true then
        if 1 + 3 * fs.length + 1 + os.length + 2 + ws.length + 1 < l.length ∧ btw (wayAt l (1 + 3 * fs.length + 1 + os.length + 2 + ws.length + 1)) 0 1000 = true then
          some (⟨fs, os, (wayAt l (1 + 3 * fs.length + 1 + os.length)).toNat == 1, ws, (wayAt l (1 + 3 * fs.length + 1 + os.length + 2 + ws.length)).toNat, (wayAt l (1 + 3 * fs.length + 1 + os.length + 2 + ws.length + 1)).toNat⟩, 1 + 3 * fs.length + 1 + os.length + 2 + ws.length + 2)
        else none
      else none
  else none

theorem readQ_eq (w : Nat) (hw : 1 ≤ w) (l : List Int) : VaidxBase.readQuestion w l = (rq l w).bind fun u => if VaidxBase.okQuestion w u.1 = true then some (u.1, l.drop u.2) else none := by
  unfold VaidxBase.readQuestion rq
  simp only [VaidxBase.readPair]
  rw [show VaidxBase.readListed 0 w (VaidxBase.readFilter w) l = _ from readFils_w w hw l 0]
  cases h1 : rf l 0 w with
  | none => rfl
  | some fs =>
    simp only [Option.map_some, Option.bind_some, Nat.zero_add]
    rw [readCols_0 w hw]
    cases h2 : rc l (1 + 3 * fs.length) w with
    | none => rfl
    | some os =>
      simp only [Option.map_some, Option.bind_some]
      rw [readNat_at]
      by_cases h3 : 1 + 3 * fs.length + 1 + os.length < l.length ∧ btw (wayAt l (1 + 3 * fs.length + 1 + os.length)) (0 : Nat) (1 : Nat) = true
      · rw [if_pos h3]
        have h3' : 1 + 3 * fs.length + 1 + os.length < l.length ∧ btw (wayAt l (1 + 3 * fs.length + 1 + os.length)) 0 1 = true := h3
        rw [if_pos h3']
        simp only [Option.map_some, Option.bind_some]
        rw [readCols_0 w hw]
        cases h4 : rc l (1 + 3 * fs.length + 1 + os.length + 1) w with
        | none => rfl
        | some ws =>
          simp only [Option.map_some, Option.bind_some]
          have e2 : 1 + 3 * fs.length + 1 + os.length + 1 + 1 + ws.length = 1 + 3 * fs.length + 1 + os.length + 2 + ws.length := by omega
          rw [e2, readNat_at]
          by_cases h5 : 1 + 3 * fs.length + 1 + os.length + 2 + ws.length < l.length ∧ btw (wayAt l (1 + 3 * fs.length + 1 + os.length + 2 + ws.length)) (0 : Nat) (VaidxBase.LIMIT : Nat) = true
          · rw [if_pos h5]
            have h5' : 1 + 3 * fs.length + 1 + os.length + 2 + ws.length < l.length ∧ btw (wayAt l (1 + 3 * fs.length + 1 + os.length + 2 + ws.length)) 0 1000000 = true := h5
            rw [if_pos h5']
            simp only [Option.map_some, Option.bind_some]
            rw [readNat_at]
            by_cases h6 : 1 + 3 * fs.length + 1 + os.length + 2 + ws.length + 1 < l.length ∧ btw (wayAt l (1 + 3 * fs.length + 1 + os.length + 2 + ws.length + 1)) (0 : Nat) (VaidxBase.TIMES : Nat) = true
            · rw [if_pos h6]
              have h6' : 1 + 3 * fs.length + 1 + os.length + 2 + ws.length + 1 < l.length ∧ btw (wayAt l (1 + 3 * fs.length + 1 + os.length + 2 + ws.length + 1)) 0 1000 = true := h6
              rw [if_pos h6']
              rfl
            · rw [if_neg h6]
              have h6' : ¬ (1 + 3 * fs.length + 1 + os.length + 2 + ws.length + 1 < l.length ∧ btw (wayAt l (1 + 3 * fs.length + 1 + os.length + 2 + ws.length + 1)) 0 1000 = true) := h6
              rw [if_neg h6']
              rfl
          · rw [if_neg h5]
            have h5' : ¬ (1 + 3 * fs.length + 1 + os.length + 2 + ws.length < l.length ∧ btw (wayAt l (1 + 3 * fs.length + 1 + os.length + 2 + ws.length)) 0 1000000 = true) := h5
            rw [if_neg h5']
            rfl
      · rw [if_neg h3]
        have h3' : ¬ (1 + 3 * fs.length + 1 + os.length < l.length ∧ btw (wayAt l (1 + 3 * fs.length + 1 + os.length)) 0 1 = true) := h3
        rw [if_neg h3']
        rfl

end IX
end

section
/-! The plain law: questions read. -/
namespace IX
open VaidxBase (Question Filter Group Table Index)

theorem back_eq {z : Int} (h : btw z 0 1 = true) : (z.toNat == 1) = decide (z = 1) := by
  unfold btw at h
  rw [Bool.and_eq_true, decide_eq_true_iff, decide_eq_true_iff] at h
  rw [Bool.eq_iff_iff, beq_iff_eq, decide_eq_true_iff]
  omega

theorem questionOf_rq (l : List Int) (w : Nat) : questionOf l w = (rq l w).bind fun u => if l.length = u.2 ∧ VaidxBase.apart (u.1.filters.map fun f => f.col) = true ∧ VaidxBase.apart u.1.order = true ∧ VaidxBase.apart u.1.wants = true then some u.1 else none := by
  unfold questionOf rq
  rw [filsAt_eq]
  cases h1 : rf l 0 w with
  | none => rfl
  | some fs =>
    simp only [Option.bind_some]
    by_cases a1 : VaidxBase.apart (fs.map fun f => f.col) = true
    · rw [if_pos a1]
      simp only []
      rw [colsAt_eq]
      cases h2 : rc l (1 + 3 * fs.length) w with
      | none => rfl
      | some os =>
        simp only [Option.bind_some]
        by_cases a2 : VaidxBase.apart os = true
        · rw [if_pos a2]
          simp only []
          by_cases h3 : 1 + 3 * fs.length + 1 + os.length < l.length ∧ btw (wayAt l (1 + 3 * fs.length + 1 + os.length)) 0 1 = true
          · have h3' : ¬ ((decide (l.length ≤ 1 + 3 * fs.length + 1 + os.length) || !btw (wayAt l (1 + 3 * fs.length + 1 + os.length)) 0 1) = true) := by
              rw [h3.2, decide_eq_false (by omega)]; simp
            rw [if_neg h3', if_pos h3, colsAt_eq]
            cases h4 : rc l (1 + 3 * fs.length + 1 + os.length + 1) w with
            | none => rfl
            | some ws =>
              simp only [Option.bind_some]
              by_cases a3 : VaidxBase.apart ws = true
              · rw [if_pos a3]
                simp only []
                by_cases h5 : 1 + 3 * fs.length + 1 + os.length + 2 + ws.length < l.length ∧ btw (wayAt l (1 + 3 * fs.length + 1 + os.length + 2 + ws.length)) 0 1000000 = true
                · by_cases h6 : 1 + 3 * fs.length + 1 + os.length + 2 + ws.length + 1 < l.length ∧ btw (wayAt l (1 + 3 * fs.length + 1 + os.length + 2 + ws.length + 1)) 0 1000 = true
                  · rw [if_pos h5, if_pos h6]
                    simp only [Option.bind_some]
                    by_cases hl : l.length = 1 + 3 * fs.length + 1 + os.length + 2 + ws.length + 2
                    · have hb : ¬ ((!btw (wayAt l (1 + 3 * fs.length + 1 + os.length + 2 + ws.length)) 0 1000000 || !btw (wayAt l (1 + 3 * fs.length + 1 + os.length + 2 + ws.length + 1)) 0 1000) = true) := by
                        rw [h5.2, h6.2]; simp
                      rw [if_neg (fun e => e hl), if_neg hb, if_pos ⟨hl, a1, a2, a3⟩, back_eq h3.2]
                    · rw [if_pos hl, if_neg (fun e => hl e.1)]
                  · rw [if_pos h5, if_neg h6]
                    show _ = none
                    by_cases hl : l.length = 1 + 3 * fs.length + 1 + os.length + 2 + ws.length + 2
                    · have hb : (!btw (wayAt l (1 + 3 * fs.length + 1 + os.length + 2 + ws.length)) 0 1000000 || !btw (wayAt l (1 + 3 * fs.length + 1 + os.length + 2 + ws.length + 1)) 0 1000) = true := by
                        have : ¬ btw (wayAt l (1 + 3 * fs.length + 1 + os.length + 2 + ws.length + 1)) 0 1000 = true := fun e => h6 ⟨by omega, e⟩
                        simp [this]
                      rw [if_neg (fun e => e hl), if_pos hb]
                    · rw [if_pos hl]
                · rw [if_neg h5]
                  show _ = none
                  by_cases hl : l.length = 1 + 3 * fs.length + 1 + os.length + 2 + ws.length + 2
                  · have hb : (!btw (wayAt l (1 + 3 * fs.length + 1 + os.length + 2 + ws.length)) 0 1000000 || !btw (wayAt l (1 + 3 * fs.length + 1 + os.length + 2 + ws.length + 1)) 0 1000) = true := by
                      have : ¬ btw (wayAt l (1 + 3 * fs.length + 1 + os.length + 2 + ws.length)) 0 1000000 = true := fun e => h5 ⟨by omega, e⟩
                      simp [this]
                    rw [if_neg (fun e => e hl), if_pos hb]
                  · rw [if_pos hl]
              · rw [if_neg a3]
                show none = _
                split
                · split
                  · simp only [Option.bind_some]; rw [if_neg (fun e => a3 e.2.2.2)]
                  · rfl
                · rfl
          · have h3' : (decide (l.length ≤ 1 + 3 * fs.length + 1 + os.length) || !btw (wayAt l (1 + 3 * fs.length + 1 + os.length)) 0 1) = true := by
              by_cases hx : btw (wayAt l (1 + 3 * fs.length + 1 + os.length)) 0 1 = true
              · have : l.length ≤ 1 + 3 * fs.length + 1 + os.length := by
                  rcases Nat.lt_or_ge (1 + 3 * fs.length + 1 + os.length) l.length with h | h
                  · exact absurd ⟨h, hx⟩ h3
                  · exact h
                rw [decide_eq_true this]; rfl
              · simp [hx]
            rw [if_pos h3', if_neg h3]; rfl
        · rw [if_neg a2]
          show none = _
          cases hq : (if 1 + 3 * fs.length + 1 + os.length < l.length ∧ btw (wayAt l (1 + 3 * fs.length + 1 + os.length)) 0 1 = true then
    (rc l (1 + 3 * fs.length + 1 + os.length + 1) w).bind fun ws =>
      if 1 + 3 * fs.length + 1 + os.length + 2 + ws.length < l.length ∧ btw (wayAt l (1 + 3 * fs.length + 1 + os.length + 2 + ws.length)) 0 1000000 = true then
        if 1 + 3 * fs.length + 1 + os.length + 2 + ws.length + 1 < l.length ∧ btw (wayAt l (1 + 3 * fs.length + 1 + os.length + 2 + ws.length + 1)) 0 1000 = true then
          some ((⟨fs, os, (wayAt l (1 + 3 * fs.length + 1 + os.length)).toNat == 1, ws, (wayAt l (1 + 3 * fs.length + 1 + os.length + 2 + ws.length)).toNat, (wayAt l (1 + 3 * fs.length + 1 + os.length + 2 + ws.length + 1)).toNat⟩ : Question), 1 + 3 * fs.length + 1 + os.length + 2 + ws.length + 2)
        else none
      else none
  else none) with
          | none => rfl
          | some u =>
            have : u.1.order = os := by
              split at hq
              · rw [Option.bind_eq_some_iff] at hq
                obtain ⟨ws, _, hq⟩ := hq
                split at hq
                · split at hq
                  · cases hq; rfl
                  · cases hq
                · cases hq
              · cases hq
            rw [Option.bind_some, if_neg (fun e => a2 (this ▸ e.2.2.1))]
    · rw [if_neg a1]
      show none = _
      cases hq : ((rc l (1 + 3 * fs.length) w).bind fun os => if 1 + 3 * fs.length + 1 + os.length < l.length ∧ btw (wayAt l (1 + 3 * fs.length + 1 + os.length)) 0 1 = true then
    (rc l (1 + 3 * fs.length + 1 + os.length + 1) w).bind fun ws =>
      if 1 + 3 * fs.length + 1 + os.length + 2 + ws.length < l.length ∧ btw (wayAt l (1 + 3 * fs.length + 1 + os.length + 2 + ws.length)) 0 1000000 = true then
        if 1 + 3 * fs.length + 1 + os.length + 2 + ws.length + 1 < l.length ∧ btw (wayAt l (1 + 3 * fs.length + 1 + os.length + 2 + ws.length + 1)) 0 1000 = true then
          some ((⟨fs, os, (wayAt l (1 + 3 * fs.length + 1 + os.length)).toNat == 1, ws, (wayAt l (1 + 3 * fs.length + 1 + os.length + 2 + ws.length)).toNat, (wayAt l (1 + 3 * fs.length + 1 + os.length + 2 + ws.length + 1)).toNat⟩ : Question), 1 + 3 * fs.length + 1 + os.length + 2 + ws.length + 2)
        else none
      else none
  else none) with
      | none => rfl
      | some u =>
        have : u.1.filters = fs := by
          rw [Option.bind_eq_some_iff] at hq
          obtain ⟨os, _, hq⟩ := hq
          split at hq
          · rw [Option.bind_eq_some_iff] at hq
            obtain ⟨ws, _, hq⟩ := hq
            split at hq
            · split at hq
              · cases hq; rfl
              · cases hq
            · cases hq
          · cases hq
        rw [Option.bind_some, if_neg (fun e => a1 (this ▸ e.2.1))]

end IX
end

section
/-! The plain law: questions read, put together. -/
namespace IX
open VaidxBase (Question Filter Group Table Index)

structure RqOk (l : List Int) (w : Nat) (u : Question × Nat) : Prop where
  fl : u.1.filters.length ≤ w
  ol : u.1.order.length ≤ w
  wl : u.1.wants.length ≤ w
  fo : u.1.filters.all (VaidxBase.okFilter w) = true
  oo : ∀ c ∈ u.1.order, c < w
  wo : ∀ c ∈ u.1.wants, c < w
  li : u.1.limit ≤ 1000000
  ti : u.1.times ≤ 1000
  le : u.2 ≤ l.length

theorem rq_ok {l : List Int} {w : Nat} {u : Question × Nat} (h : rq l w = some u) : RqOk l w u := by
  unfold rq at h
  rw [Option.bind_eq_some_iff] at h
  obtain ⟨fs, h1, h⟩ := h
  rw [Option.bind_eq_some_iff] at h
  obtain ⟨os, h2, h⟩ := h
  split at h
  · rw [Option.bind_eq_some_iff] at h
    obtain ⟨ws, h3, h⟩ := h
    split at h
    · rename_i h4
      split at h
      · rename_i h5
        cases h
        exact ⟨rf_le h1, rc_le h2, rc_le h3, rf_ok h1, rc_ok h2, rc_ok h3, (btw_nat (lo := 0) (hi := 1000000) h4.2).2.1, (btw_nat (lo := 0) (hi := 1000) h5.2).2.1, by simp only []; omega⟩
      · cases h
    · cases h
  · cases h

theorem okQ_eq {l : List Int} {w : Nat} {u : Question × Nat} (h : RqOk l w u) : VaidxBase.okQuestion w u.1 = (VaidxBase.apart (u.1.filters.map fun f => f.col) && (VaidxBase.apart u.1.order && VaidxBase.apart u.1.wants)) := by
  unfold VaidxBase.okQuestion VaidxBase.okColumns
  have e1 : (u.1.order.all fun c => decide (c < w)) = true := List.all_eq_true.mpr fun c hc => decide_eq_true (h.oo c hc)
  have e2 : (u.1.wants.all fun c => decide (c < w)) = true := List.all_eq_true.mpr fun c hc => decide_eq_true (h.wo c hc)
  have e3 : decide (u.1.limit ≤ VaidxBase.LIMIT) = true := decide_eq_true h.li
  have e4 : decide (u.1.times ≤ VaidxBase.TIMES) = true := decide_eq_true h.ti
  rw [h.fo, e1, e2, e3, e4, Bool.true_and, Bool.true_and, Bool.true_and, Bool.and_true, Bool.and_true]

theorem question_eq (w : Nat) (hw : 1 ≤ w) (l : List Int) : VaidxBase.whole (VaidxBase.readQuestion w) l = questionOf l w := by
  unfold VaidxBase.whole
  rw [readQ_eq w hw, questionOf_rq]
  cases h : rq l w with
  | none => rfl
  | some u =>
    have ok := rq_ok h
    rw [Option.bind_some, Option.bind_some, okQ_eq ok]
    by_cases a : (VaidxBase.apart (u.1.filters.map fun f => f.col) && (VaidxBase.apart u.1.order && VaidxBase.apart u.1.wants)) = true
    · rw [if_pos a]
      rw [Bool.and_eq_true, Bool.and_eq_true] at a
      by_cases hl : l.length = u.2
      · have ed : l.drop u.2 = [] := List.drop_eq_nil_of_le (by omega)
        rw [if_pos ⟨hl, a.1, a.2.1, a.2.2⟩, ed]
      · rw [if_neg (fun e => hl e.1)]
        have hne : l.drop u.2 ≠ [] := by
          intro e
          rw [List.drop_eq_nil_iff] at e
          have := ok.le
          omega
        cases hd : l.drop u.2 with
        | nil => exact absurd hd hne
        | cons a b => rfl
    · rw [if_neg a, if_neg (fun e => a (by rw [Bool.and_eq_true, Bool.and_eq_true]; exact ⟨e.2.1, e.2.2.1, e.2.2.2⟩))]

theorem questionOf_ok {w : Nat} (h4 : w ≤ 4) {l : List Int} {q : Question} (h : questionOf l w = some q) : OkQ w q := by
  rw [questionOf_rq, Option.bind_eq_some_iff] at h
  obtain ⟨u, h1, h⟩ := h
  have ok := rq_ok h1
  split at h
  · rename_i hc
    cases h
    refine ⟨Nat.le_trans ok.fl h4, Nat.le_trans ok.ol h4, Nat.le_trans ok.wl h4, fun f hf => ?_, ok.oo, ok.wo, (apart_nodup _).mp hc.2.1, ok.li, ok.ti⟩
    have := List.all_eq_true.mp ok.fo f hf
    unfold VaidxBase.okFilter at this
    rw [Bool.and_eq_true, decide_eq_true_iff] at this
    exact this.1
  · cases h

theorem tableOf_ok {l : List Int} {t : Table} (h : tableOf l = some t) : OkT t := by
  unfold tableOf at h
  split at h
  · cases h
  split at h
  · cases h
  rename_i hB
  split at h
  · cases h
  rename_i hL
  simp only [] at h
  split at h
  · cases h
  rename_i hA
  split at h
  · cases h
  have b0 : btw (wayAt l 0) 1 4 = true := by
    cases hx : btw (wayAt l 0) 1 4 with
    | true => rfl
    | false => exact absurd (by rw [hx]; rfl) hB
  have b1 : btw (wayAt l 1) 0 12 = true := by
    cases hx : btw (wayAt l 1) 0 12 with
    | true => rfl
    | false => exact absurd (by rw [hx, b0]; rfl) hB
  obtain ⟨w1, w4, w0⟩ := btw_nat (lo := 1) (hi := 4) b0
  obtain ⟨_, k12, k0⟩ := btw_nat (lo := 0) (hi := 12) b1
  have hA' := Decidable.not_not.mp hA
  have hL' := Decidable.not_not.mp hL
  cases h
  generalize hw : (wayAt l 0).toNat = w at *
  generalize hk : (wayAt l 1).toNat = k at *
  have ew : wayAt l 0 = (w : Int) := by omega
  have ek : wayAt l 1 = (k : Int) := by omega
  rw [ew, ek] at hL'
  have elen : l.length = 2 + k * (w + 1) := by
    rw [← Int.ofNat_inj]; simpa using hL'
  have hg : ∀ g ∈ (List.range k).map (fun k => rawG l (2 + k * (w + 1)) w), g.1.length = w ∧ okG g = true := by
    intro g hg
    refine ⟨?_, List.all_eq_true.mp hA' g hg⟩
    obtain ⟨j, hj, rfl⟩ := List.mem_map.mp hg
    have hj' := List.mem_range.mp hj
    have : j * (w + 1) + (w + 1) ≤ k * (w + 1) := by rw [← Nat.succ_mul]; exact Nat.mul_le_mul_right _ hj'
    unfold rawG
    simp only [List.length_take, List.length_drop]
    omega
  refine ⟨w1, w4, ?_, ?_, ?_⟩
  · simp only [List.length_map, List.length_range]; exact k12
  · intro g hgm
    obtain ⟨r, hr, rfl⟩ := List.mem_map.mp hgm
    unfold toG
    simp only [List.length_map]
    exact (hg r hr).1
  · intro g hgm
    obtain ⟨r, hr, rfl⟩ := List.mem_map.mp hgm
    have := (hg r hr).2
    unfold okG at this
    rw [Bool.and_eq_true] at this
    exact (btw_nat (lo := 1) (hi := 1000000) this.2).2.1

end IX
end

section
/-! The plain law: indexes read. -/
namespace IX
open VaidxBase (Question Filter Group Table Index)
open Vaidxd (Offer)

/-- An index's parts read. -/
def ri (l : List Int) (w : Nat) : Option (Index × Nat) := (rc l 0 w).bind fun ks => if 1 ≤ ks.length then (rc l (1 + ks.length) w).bind fun inc => (rf l (1 + ks.length + 1 + inc.length) w).bind fun fs =>
  if fs.length ≤ 1 then some (⟨ks, inc, fs.head?⟩, 1 + ks.length + 1 + inc.length + 1 + 3 * fs.length) else none else none

theorem readI_eq (w : Nat) (hw : 1 ≤ w) (l : List Int) : VaidxBase.readIndex w l = (ri l w).bind fun u => if VaidxBase.okIndex w u.1 = true then some (u.1, l.drop u.2) else none := by
  unfold VaidxBase.readIndex ri
  simp only [VaidxBase.readPair]
  rw [show VaidxBase.readColumns 1 w l = _ from readCols_eq 1 w hw l 0]
  cases h1 : rc l 0 w with
  | none => rfl
  | some ks =>
    simp only [Option.bind_some]
    by_cases h2 : 1 ≤ ks.length
    · rw [if_pos h2, if_pos h2]
      simp only [Option.bind_some, Nat.zero_add]
      rw [readCols_0 w hw]
      cases h3 : rc l (1 + ks.length) w with
      | none => rfl
      | some inc =>
        simp only [Option.map_some, Option.bind_some]
        rw [readFils_eq 1 w hw hw]
        cases h4 : rf l (1 + ks.length + 1 + inc.length) w with
        | none => rfl
        | some fs =>
          simp only [Option.bind_some]
          by_cases h5 : fs.length ≤ 1
          · rw [if_pos h5, if_pos h5]; rfl
          · rw [if_neg h5, if_neg h5]; rfl
    · rw [if_neg h2, if_neg h2]; rfl

theorem short_nd {α : Type} {l : List α} (h : l.length ≤ 1) : l.Nodup := by
  match l, h with
  | [], _ => exact List.nodup_nil
  | [a], _ => simp

theorem indexOf_ri (l : List Int) (w u : Nat) : indexOf l w u = (ri l w).bind fun x => if l.length = x.2 ∧ (x.1.keys ++ x.1.others).Nodup then some ⟨x.1, u⟩ else none := by
  unfold indexOf ri
  rw [colsAt_eq]
  cases h1 : rc l 0 w with
  | none => rfl
  | some ks =>
    simp only [Option.bind_some]
    by_cases a1 : VaidxBase.apart ks = true
    · rw [if_pos a1]
      simp only []
      by_cases h2 : 1 ≤ ks.length
      · rw [if_neg (by omega), if_pos h2, colsAt_eq]
        cases h3 : rc l (1 + ks.length) w with
        | none => rfl
        | some inc =>
          simp only [Option.bind_some]
          by_cases a2 : VaidxBase.apart inc = true
          · rw [if_pos a2]
            simp only []
            by_cases a3 : unlike (ks ++ inc) = true
            · rw [if_neg (fun e => e a3), filsAt_eq]
              cases h4 : rf l (1 + ks.length + 1 + inc.length) w with
              | none => rfl
              | some fs =>
                simp only [Option.bind_some]
                by_cases h5 : fs.length ≤ 1
                · have a4 : VaidxBase.apart (fs.map fun f => f.col) = true := (apart_nodup _).mpr (short_nd (by rw [List.length_map]; exact h5))
                  rw [if_pos a4]
                  simp only []
                  rw [if_neg (by omega), if_pos h5, Option.bind_some]
                  by_cases hl : l.length = 1 + ks.length + 1 + inc.length + 1 + 3 * fs.length
                  · rw [if_neg (fun e => e hl), if_pos ⟨hl, (unlike_nd _).mp a3⟩]
                  · rw [if_pos hl, if_neg (fun e => hl e.1)]
                · rw [if_neg h5]
                  show _ = none
                  by_cases a4 : VaidxBase.apart (fs.map fun f => f.col) = true
                  · rw [if_pos a4]
                    simp only []
                    rw [if_pos (by omega)]
                  · rw [if_neg a4]
            · rw [if_pos a3]
              cases h4 : rf l (1 + ks.length + 1 + inc.length) w with
              | none => rfl
              | some fs =>
                simp only [Option.bind_some]
                by_cases h5 : fs.length ≤ 1
                · rw [if_pos h5, Option.bind_some, if_neg (fun e => a3 ((unlike_nd _).mpr e.2))]
                · rw [if_neg h5]; rfl
          · rw [if_neg a2]
            cases h4 : rf l (1 + ks.length + 1 + inc.length) w with
            | none => rfl
            | some fs =>
              simp only [Option.bind_some]
              by_cases h5 : fs.length ≤ 1
              · rw [if_pos h5, Option.bind_some, if_neg (fun e => a2 ((apart_nodup _).mpr (List.nodup_append.mp e.2).2.1))]
              · rw [if_neg h5]; rfl
      · rw [if_pos (by omega), if_neg h2]; rfl
    · rw [if_neg a1]
      by_cases h2 : 1 ≤ ks.length
      · rw [if_pos h2]
        cases h3 : rc l (1 + ks.length) w with
        | none => rfl
        | some inc =>
          simp only [Option.bind_some]
          cases h4 : rf l (1 + ks.length + 1 + inc.length) w with
          | none => rfl
          | some fs =>
            simp only [Option.bind_some]
            by_cases h5 : fs.length ≤ 1
            · rw [if_pos h5, Option.bind_some, if_neg (fun e => a1 ((apart_nodup _).mpr (List.nodup_append.mp e.2).1))]
            · rw [if_neg h5]; rfl
      · rw [if_neg h2]; rfl

theorem ri_ok {l : List Int} {w : Nat} {u : Index × Nat} (h : ri l w = some u) : VaidxBase.okIndex w u.1 = VaidxBase.apart (u.1.keys ++ u.1.others) ∧ u.2 ≤ l.length := by
  unfold ri at h
  rw [Option.bind_eq_some_iff] at h
  obtain ⟨ks, h1, h⟩ := h
  split at h
  · rename_i h2
    rw [Option.bind_eq_some_iff] at h
    obtain ⟨inc, h3, h⟩ := h
    rw [Option.bind_eq_some_iff] at h
    obtain ⟨fs, h4, h⟩ := h
    split at h
    · cases h
      have hl := rf_len h4
      refine ⟨?_, by simp only []; omega⟩
      unfold VaidxBase.okIndex VaidxBase.okColumns VaidxBase.columnsOf
      simp only []
      have e1 : ((ks ++ inc).all fun c => decide (c < w)) = true := List.all_eq_true.mpr fun c hc => decide_eq_true (by
        rcases List.mem_append.mp hc with h | h
        · exact rc_ok h1 c h
        · exact rc_ok h3 c h)
      have e2 : (fs.head?.all (VaidxBase.okFilter w)) = true := by
        cases fs with
        | nil => rfl
        | cons f r =>
          have := List.all_eq_true.mp (rf_ok h4) f List.mem_cons_self
          simpa using this
      have e3 : (!ks.isEmpty) = true := by
        cases ks with
        | nil => simp at h2
        | cons a r => rfl
      rw [e1, e2, e3, Bool.true_and, Bool.true_and, Bool.and_true]
    · cases h
  · cases h

theorem index_eq (w : Nat) (hw : 1 ≤ w) (l : List Int) (u : Nat) : (VaidxBase.whole (VaidxBase.readIndex w) l).map (fun i => (⟨i, u⟩ : Offer)) = indexOf l w u := by
  unfold VaidxBase.whole
  rw [readI_eq w hw, indexOf_ri]
  cases h : ri l w with
  | none => rfl
  | some x =>
    obtain ⟨ok, le⟩ := ri_ok h
    rw [Option.bind_some, Option.bind_some, ok]
    by_cases a : VaidxBase.apart (x.1.keys ++ x.1.others) = true
    · rw [if_pos a]
      by_cases hl : l.length = x.2
      · have ed : l.drop x.2 = [] := List.drop_eq_nil_of_le (by omega)
        rw [if_pos ⟨hl, (apart_nodup _).mp a⟩, ed]; rfl
      · rw [if_neg (fun e => hl e.1)]
        have hne : l.drop x.2 ≠ [] := by
          intro e
          rw [List.drop_eq_nil_iff] at e
          omega
        cases hd : l.drop x.2 with
        | nil => exact absurd hd hne
        | cons a b => rfl
    · rw [if_neg a, if_neg (fun e => a ((apart_nodup _).mpr e.2))]; rfl

end IX
end

section
/-! The plain law: each call, step by step. -/
namespace IX
open VaidxBase (Question Filter Group Table Index)
open Vaidxd (Offer)

structure Same (m : MS) (ans : List Int) (s : Vaidxe.State) (out : List Int) : Prop where
  sim : Sim m s
  inv : InvM m
  eq : ans = out

theorem up_btw (u : Int) (most : Nat) : Vaidxe.upTo u most = if btw u 0 most = true then some u.toNat else none := by
  unfold Vaidxe.upTo btw VaidxBase.int
  by_cases h : 0 ≤ u ∧ u ≤ (most : Int)
  · rw [if_pos h, if_pos (by simp [h])]
  · rw [if_neg h, if_neg (by simpa using h)]

theorem same_table {m : MS} {s : Vaidxe.State} (sm : Sim m s) (iv : InvM m) (l : List Int) : Same (takeTable m l).1 (takeTable m l).2 (Vaidxe.step s (.table l)).1 (Vaidxe.step s (.table l)).2 := by
  have e : Vaidxe.step s (.table l) = (match VaidxBase.whole VaidxBase.readTable l with
    | none => Vaidxe.refused s (-1)
    | some t => (⟨some t, [], [], [], 0⟩, [VaidxBase.int (VaidxBase.allRows t)])) := rfl
  rw [e]
  unfold takeTable
  rw [← table_eq]
  cases h : VaidxBase.whole VaidxBase.readTable l with
  | none => exact ⟨sm, iv, rfl⟩
  | some t =>
    simp only []
    refine ⟨⟨rfl, rfl, rfl, rfl, rfl⟩, fun t' ht => ?_, ?_⟩
    · cases ht
      rw [table_eq] at h
      exact ⟨rfl, ⟨tableOf_ok h, fun q hq => absurd hq List.not_mem_nil, fun o ho => absurd ho List.not_mem_nil, by simp, by simp⟩, rfl⟩
    · show [(rowSum t : Int)] = [(VaidxBase.allRows t : Int)]
      rw [allRows_eq]

theorem same_q {m : MS} {s : Vaidxe.State} {t : Table} (sm : Sim m s) (ok : OkM t m) (l : List Int) (iv : InvM m) : Same (takeQ t m l).1 (takeQ t m l).2 (Vaidxe.step s (.question l)).1 (Vaidxe.step s (.question l)).2 := by
  unfold takeQ Vaidxe.step Vaidxe.onTable
  rw [sm.t, ok.ht]
  simp only []
  rw [question_eq t.cols ok.inn.ht.c1]
  cases h : questionOf l t.cols with
  | none => exact ⟨sm, iv, rfl⟩
  | some q =>
    simp only [sm.q]
    by_cases h6 : 6 ≤ m.qs.length
    · rw [if_pos h6, if_pos (show Vaidxd.QUESTIONS ≤ m.qs.length from h6)]; exact ⟨sm, iv, rfl⟩
    · rw [if_neg h6, if_neg (show ¬ Vaidxd.QUESTIONS ≤ m.qs.length from h6)]
      refine ⟨⟨rfl, rfl, sm.o, ?_, sm.r⟩, fun t' ht => ?_, rfl⟩
      · show s.wishes ++ [none] = (m.ws ++ [-1]).map wN
        rw [sm.w, List.map_append]; rfl
      · have e : t' = t := by
          cases ht; rfl
        subst e
        refine ⟨rfl, ⟨ok.inn.ht, fun q' hq => ?_, ok.inn.ho, ?_, ok.inn.ol⟩, ?_⟩
        · rcases List.mem_append.mp hq with hq | hq
          · exact ok.inn.hq q' hq
          · rw [List.mem_singleton] at hq; rw [hq]; exact questionOf_ok ok.inn.ht.c4 h
        · show (m.qs ++ [q]).length ≤ 6
          rw [List.length_append, List.length_singleton]; omega
        · show (m.ws ++ [-1]).length = (m.qs ++ [q]).length
          rw [List.length_append, List.length_append, ok.wl]; rfl

theorem same_stand {m : MS} {s : Vaidxe.State} {t : Table} (sm : Sim m s) (ok : OkM t m) (iv : InvM m) (o : Offer) (oo : OkO t.cols o) :
    Same (standM t m o).1 (standM t m o).2 (if Vaidxd.INDEXES ≤ s.offers.length then Vaidxe.refused s (-6) else ({ s with offers := s.offers ++ [⟨o.index, o.upkeep⟩] }, [VaidxBase.int s.offers.length, VaidxBase.int (VaidxBase.roomOf t o.index)])).1
      (if Vaidxd.INDEXES ≤ s.offers.length then Vaidxe.refused s (-6) else ({ s with offers := s.offers ++ [⟨o.index, o.upkeep⟩] }, [VaidxBase.int s.offers.length, VaidxBase.int (VaidxBase.roomOf t o.index)])).2 := by
  unfold standM
  rw [sm.o]
  by_cases h8 : 8 ≤ m.os.length
  · rw [if_pos h8, if_pos (show Vaidxd.INDEXES ≤ m.os.length from h8)]; exact ⟨sm, iv, rfl⟩
  · rw [if_neg h8, if_neg (show ¬ Vaidxd.INDEXES ≤ m.os.length from h8)]
    refine ⟨⟨sm.t, sm.q, rfl, sm.w, sm.r⟩, fun t' ht => ?_, ?_⟩
    · have e : t' = t := by
        have h1 : m.table = some t' := ht
        rw [ok.ht] at h1; cases h1; rfl
      subst e
      refine ⟨ht, ⟨ok.inn.ht, ok.inn.hq, fun o' ho => ?_, ok.inn.ql, ?_⟩, ok.wl⟩
      · rcases List.mem_append.mp ho with ho | ho
        · exact ok.inn.ho o' ho
        · rw [List.mem_singleton] at ho; rw [ho]; exact oo
      · show (m.os ++ [o]).length ≤ 8
        rw [List.length_append, List.length_singleton]; omega
    · rw [roomOf_eq]; rfl

end IX
end

section
/-! The plain law: calls that change the state. -/
namespace IX
open VaidxBase (Question Filter Group Table Index)
open Vaidxd (Offer)

theorem doI_some (s : Vaidxe.State) (t : Table) (u : Int) (hu : btw u 0 1000000000 = true) (i : Option Index) (z : Int) : Vaidxe.doIndex s t u i z = match i with
    | none => Vaidxe.refused s z
    | some x => if Vaidxd.INDEXES ≤ s.offers.length then Vaidxe.refused s (-6) else ({ s with offers := s.offers ++ [⟨x, u.toNat⟩] }, [VaidxBase.int s.offers.length, VaidxBase.int (VaidxBase.roomOf t x)]) := by
  unfold Vaidxe.doIndex
  have : Vaidxe.upTo u Vaidxd.UPKEEP = some u.toNat := by rw [up_btw]; exact if_pos hu
  rw [this]
  rfl
theorem doI_none (s : Vaidxe.State) (t : Table) (u : Int) (hu : ¬ btw u 0 1000000000 = true) (i : Option Index) (z : Int) : Vaidxe.doIndex s t u i z = Vaidxe.refused s (-3) := by
  unfold Vaidxe.doIndex
  have : Vaidxe.upTo u Vaidxd.UPKEEP = none := by rw [up_btw]; exact if_neg hu
  rw [this]

theorem onT {m : MS} {s : Vaidxe.State} {t : Table} (sm : Sim m s) (ok : OkM t m) (f : Table → Vaidxe.State × List Int) : Vaidxe.onTable s f = f t := by
  unfold Vaidxe.onTable
  rw [sm.t, ok.ht]

theorem same_i {m : MS} {s : Vaidxe.State} {t : Table} (sm : Sim m s) (ok : OkM t m) (iv : InvM m) (u : Int) (l : List Int) : Same (takeI t m u l).1 (takeI t m u l).2 (Vaidxe.step s (.index u l)).1 (Vaidxe.step s (.index u l)).2 := by
  have e : Vaidxe.step s (.index u l) = Vaidxe.doIndex s t u (VaidxBase.whole (VaidxBase.readIndex t.cols) l) (-1) := onT sm ok _
  rw [e]
  unfold takeI
  by_cases hu : btw u 0 1000000000 = true
  · rw [if_pos hu, doI_some s t u hu, ← index_eq t.cols ok.inn.ht.c1]
    have hb := btw_nat (lo := 0) (hi := 1000000000) hu
    cases h : VaidxBase.whole (VaidxBase.readIndex t.cols) l with
    | none => exact ⟨sm, iv, rfl⟩
    | some x =>
      have h2 : indexOf l t.cols u.toNat = some ⟨x, u.toNat⟩ := by rw [← index_eq t.cols ok.inn.ht.c1, h]; rfl
      exact same_stand sm ok iv ⟨x, u.toNat⟩ (indexOf_ok ok.inn.ht.c4 hb.2.1 h2)
  · rw [if_neg hu, doI_none s t u hu]; exact ⟨sm, iv, rfl⟩

theorem same_r {m : MS} {s : Vaidxe.State} {t : Table} (sm : Sim m s) (ok : OkM t m) (iv : InvM m) (r : Int) : Same (takeR m r).1 (takeR m r).2 (Vaidxe.step s (.room r)).1 (Vaidxe.step s (.room r)).2 := by
  have e : Vaidxe.step s (.room r) = (match Vaidxe.upTo r Vaidxd.ROOM with
    | none => Vaidxe.refused s (-3)
    | some n => ({ s with room := n }, [VaidxBase.int n])) := onT sm ok _
  rw [e]
  unfold takeR
  by_cases hu : btw r 0 1000000000 = true
  · have : Vaidxe.upTo r Vaidxd.ROOM = some r.toNat := by rw [up_btw]; exact if_pos hu
    have hb := btw_nat (lo := 0) (hi := 1000000000) hu
    rw [if_pos hu, this]
    refine ⟨⟨sm.t, sm.q, sm.o, sm.w, rfl⟩, fun t' ht => ?_, ?_⟩
    · have := iv t' ht
      exact ⟨ht, this.inn, this.wl⟩
    · show [r] = [((r.toNat : Nat) : Int)]
      rw [Int.toNat_of_nonneg hb.2.2]
  · have : Vaidxe.upTo r Vaidxd.ROOM = none := by rw [up_btw]; exact if_neg hu
    rw [if_neg hu, this]; exact ⟨sm, iv, rfl⟩

theorem qOf_some {m : MS} {s : Vaidxe.State} (sm : Sim m s) {k : Int} (h0 : 0 ≤ k) (h1 : k < (m.qs.length : Int)) : Vaidxe.questionOf s k = some (k.toNat, qAt m k.toNat) := by
  unfold Vaidxe.questionOf qAt
  rw [if_neg (by omega), sm.q, List.getElem?_eq_getElem (by omega)]; rfl
theorem qOf_none {m : MS} {s : Vaidxe.State} (sm : Sim m s) {k : Int} (h : k < 0 ∨ (m.qs.length : Int) ≤ k) : Vaidxe.questionOf s k = none := by
  unfold Vaidxe.questionOf
  by_cases h0 : k < 0
  · rw [if_pos h0]
  · rw [if_neg h0, sm.q, List.getElem?_eq_none (by omega)]; rfl

theorem same_w {m : MS} {s : Vaidxe.State} {t : Table} (sm : Sim m s) (ok : OkM t m) (iv : InvM m) (k w : Int) (h0 : 0 ≤ k) (h1 : k < (m.qs.length : Int)) : Same (takeW m k.toNat w).1 (takeW m k.toNat w).2 (Vaidxe.step s (.wish k w)).1 (Vaidxe.step s (.wish k w)).2 := by
  have e : Vaidxe.step s (.wish k w) = (match Vaidxe.questionOf s k with
    | none => Vaidxe.refused s (-2)
    | some q => if w < -1 ∨ VaidxBase.int Vaidxd.UPKEEP < w then Vaidxe.refused s (-3) else ({ s with wishes := s.wishes.set q.1 (if w = -1 then none else some w.toNat) }, [0])) := onT sm ok _
  rw [e, qOf_some sm h0 h1]
  unfold takeW
  simp only []
  have hU : VaidxBase.int Vaidxd.UPKEEP = 1000000000 := rfl
  rw [hU]
  by_cases hb : btw w (-1) 1000000000 = true
  · have hb' := hb
    unfold btw at hb'
    rw [Bool.and_eq_true, decide_eq_true_iff, decide_eq_true_iff] at hb'
    rw [if_pos hb, if_neg (by omega)]
    refine ⟨⟨sm.t, sm.q, sm.o, ?_, sm.r⟩, fun t' ht => ?_, rfl⟩
    · show s.wishes.set k.toNat _ = (m.ws.set k.toNat w).map wN
      rw [sm.w, List.map_set]
      congr 1
      unfold wN
      by_cases hw : w = -1
      · rw [if_pos hw, if_pos (by omega)]
      · rw [if_neg hw, if_neg (by omega)]
    · have := iv t' ht
      exact ⟨ht, this.inn, by rw [List.length_set]; exact this.wl⟩
  · have hb' := hb
    unfold btw at hb'
    rw [Bool.and_eq_true, decide_eq_true_iff, decide_eq_true_iff] at hb'
    rw [if_neg hb, if_pos (by omega)]
    exact ⟨sm, iv, rfl⟩

theorem qAt_ok {m : MS} {t : Table} (ok : OkM t m) {k : Nat} (h : k < m.qs.length) : OkQ t.cols (qAt m k) := by
  unfold qAt
  rw [List.getElem?_eq_getElem h]
  exact ok.inn.hq _ (List.getElem_mem h)

theorem same_make {m : MS} {s : Vaidxe.State} {t : Table} (sm : Sim m s) (ok : OkM t m) (iv : InvM m) (k j u : Int) (h0 : 0 ≤ k) (h1 : k < (m.qs.length : Int)) : Same (makeI t m k.toNat j u).1 (makeI t m k.toNat j u).2 (Vaidxe.step s (.make k j u)).1 (Vaidxe.step s (.make k j u)).2 := by
  have e : Vaidxe.step s (.make k j u) = (match Vaidxe.questionOf s k with
    | none => Vaidxe.refused s (-2)
    | some q => Vaidxe.doIndex s t u (if j < 0 then none else (Vaidxe.candidates q.2)[j.toNat]?) (-4)) := onT sm ok _
  rw [e, qOf_some sm h0 h1]
  unfold makeI
  simp only []
  have oq := qAt_ok ok (k := k.toNat) (by omega)
  by_cases hu : btw u 0 1000000000 = true
  · have hb := btw_nat (lo := 0) (hi := 1000000000) hu
    rw [if_pos hu, doI_some s t u hu, cands_eq oq.nd]
    by_cases hj : btw j 0 ((shapesOf (qAt m k.toNat)).length - 1) = true
    · have hj' := hj
      unfold btw at hj'
      rw [Bool.and_eq_true, decide_eq_true_iff, decide_eq_true_iff] at hj'
      have hlt : j.toNat < (shapesOf (qAt m k.toNat)).length := by omega
      rw [if_pos hj, if_neg (by omega), List.getElem?_map, List.getElem?_eq_getElem hlt]
      have es : shAt (shapesOf (qAt m k.toNat)) j.toNat = (shapesOf (qAt m k.toNat))[j.toNat] := by
        unfold shAt; rw [List.getElem?_eq_getElem hlt]; rfl
      rw [es]
      exact same_stand sm ok iv (candO (shapesOf (qAt m k.toNat))[j.toNat] u.toNat) (cand_ok oq ok.inn.ht.c1 hb.2.1 (List.getElem_mem hlt))
    · have hj' := hj
      unfold btw at hj'
      rw [Bool.and_eq_true, decide_eq_true_iff, decide_eq_true_iff] at hj'
      rw [if_neg hj]
      by_cases h2 : j < 0
      · rw [if_pos h2]; exact ⟨sm, iv, rfl⟩
      · rw [if_neg h2, List.getElem?_map, List.getElem?_eq_none (by omega)]; exact ⟨sm, iv, rfl⟩
  · rw [if_neg hu, doI_none s t u hu]; exact ⟨sm, iv, rfl⟩

end IX
end

section
/-! The plain law: every call. -/
namespace IX
open VaidxBase (Question Filter Group Table Index)
open Vaidxd (Offer)

theorem no_table {m : MS} {s : Vaidxe.State} (sm : Sim m s) (h : m.table = none) (f : Table → Vaidxe.State × List Int) : Vaidxe.onTable s f = (s, [-8]) := by
  unfold Vaidxe.onTable
  rw [sm.t, h]; rfl

theorem onQ {m : MS} {s : Vaidxe.State} {t : Table} (sm : Sim m s) (ok : OkM t m) {k : Int} (h0 : 0 ≤ k) (h1 : k < (m.qs.length : Int)) (f : Vaidxe.Case → Nat → Question → List Int) :
    Vaidxe.onQuestion s k f = (s, f (cM t m) k.toNat (qAt m k.toNat)) := by
  unfold Vaidxe.onQuestion
  rw [onT sm ok, qOf_some sm h0 h1]
  simp only [sm.q, sm.o]
theorem onQ_none {m : MS} {s : Vaidxe.State} {t : Table} (sm : Sim m s) (ok : OkM t m) {k : Int} (h : k < 0 ∨ (m.qs.length : Int) ≤ k) (f : Vaidxe.Case → Nat → Question → List Int) :
    Vaidxe.onQuestion s k f = (s, [-2]) := by
  unfold Vaidxe.onQuestion
  rw [onT sm ok, qOf_none sm h]

def specC (c : Nat) (ps ns : List Int) : Vaidxe.Call := match c with
  | 0 => .table ns
  | 1 => .question ns
  | 2 => .index (wayAt ps 0) ns
  | 3 => .room (wayAt ps 0)
  | 4 => .wish (wayAt ps 0) (wayAt ps 1)
  | 5 => .least
  | 6 => .margin (wayAt ps 0)
  | 7 => .pieces (wayAt ps 0)
  | 8 => .kept
  | 9 => .prices
  | 10 => .possible (wayAt ps 0)
  | 11 => .candidates (wayAt ps 0)
  | _ => .make (wayAt ps 0) (wayAt ps 1) (wayAt ps 2)

abbrev SameC (m : MS) (s : Vaidxe.State) (c : Nat) (ps ns : List Int) : Prop := Same (stepM m c ps ns).1 (stepM m c ps ns).2 (Vaidxe.step s (specC c ps ns)).1 (Vaidxe.step s (specC c ps ns)).2

theorem same_none {m : MS} {s : Vaidxe.State} (sm : Sim m s) (iv : InvM m) (h : m.table = none) (c : Nat) (hc : c ≤ 12) (ps ns : List Int) (h0 : c ≠ 0) : SameC m s c ps ns := by
  have e1 : stepM m c ps ns = (m, [-8]) := by
    unfold stepM
    rw [if_neg (by omega), h]
  have e2 : Vaidxe.step s (specC c ps ns) = (s, [-8]) := by
    match c, hc, h0 with
    | 1, _, _ => exact no_table sm h _
    | 2, _, _ => exact no_table sm h _
    | 3, _, _ => exact no_table sm h _
    | 4, _, _ => exact no_table sm h _
    | 5, _, _ => exact no_table sm h _
    | 6, _, _ => exact no_table sm h _
    | 7, _, _ => exact no_table sm h _
    | 8, _, _ => exact no_table sm h _
    | 9, _, _ => exact no_table sm h _
    | 10, _, _ => exact no_table sm h _
    | 11, _, _ => exact no_table sm h _
    | 12, _, _ => exact no_table sm h _
  unfold SameC
  rw [e1, e2]; exact ⟨sm, iv, rfl⟩

theorem same_about {m : MS} {s : Vaidxe.State} {t : Table} (sm : Sim m s) (ok : OkM t m) (iv : InvM m) (c : Nat) (hc : c = 4 ∨ c = 6 ∨ c = 7 ∨ c = 10 ∨ c = 11 ∨ c = 12) (ps ns : List Int) : SameC m s c ps ns := by
  have e1 : stepM m c ps ns = if (decide (wayAt ps 0 < 0) || decide ((m.qs.length : Int) ≤ wayAt ps 0)) = true then (m, [-2]) else aboutM t m c ps := by
    unfold stepM
    rw [if_neg (by omega), ok.ht]
    simp only []
    rw [if_neg (by omega), if_neg (by omega), if_neg (by omega), if_neg (by omega), if_neg (by omega), if_neg (by omega)]
  unfold SameC
  rw [e1]
  by_cases hk : wayAt ps 0 < 0 ∨ (m.qs.length : Int) ≤ wayAt ps 0
  · have hk' : (decide (wayAt ps 0 < 0) || decide ((m.qs.length : Int) ≤ wayAt ps 0)) = true := by simpa using hk
    rw [if_pos hk']
    have e2 : Vaidxe.step s (specC c ps ns) = (s, [-2]) := by
      rcases hc with rfl | rfl | rfl | rfl | rfl | rfl
      · exact (onT sm ok _).trans (by rw [qOf_none sm hk]; rfl)
      · rw [specC, Vaidxe.step]; exact onQ_none sm ok hk _
      · rw [specC, Vaidxe.step]; exact onQ_none sm ok hk _
      · rw [specC, Vaidxe.step]; exact onQ_none sm ok hk _
      · rw [specC, Vaidxe.step]; exact onQ_none sm ok hk _
      · exact (onT sm ok _).trans (by rw [qOf_none sm hk]; rfl)
    rw [e2]; exact ⟨sm, iv, rfl⟩
  · have hk' : ¬ (decide (wayAt ps 0 < 0) || decide ((m.qs.length : Int) ≤ wayAt ps 0)) = true := by simpa using hk
    rw [if_neg hk']
    have h0 : 0 ≤ wayAt ps 0 := by omega
    have h1 : wayAt ps 0 < (m.qs.length : Int) := by omega
    have hn : (wayAt ps 0).toNat < m.qs.length := by omega
    rcases hc with rfl | rfl | rfl | rfl | rfl | rfl
    · exact same_w sm ok iv _ _ h0 h1
    · have e2 := onQ sm ok h0 h1 (fun c n _ => match Vaidxe.firstLeast c (Vaidxe.within_ c s.room) with
        | none => [0]
        | some x =>
          let ls := Vaidxe.linesOf c s.room n
          let l : Vaidxe.Line := ⟨x, Vaidxe.costBut c x n, Vaidxe.askCost c x n⟩
          Vaidxe.fracTold (Vaidxe.lowest ls l) ++ (match Vaidxe.highest ls l with
            | none => [-1, 0]
            | some f => Vaidxe.fracTold f))
      have e3 : Vaidxe.step s (specC 6 ps ns) = _ := e2
      rw [e3, sm.r]
      exact ⟨sm, iv, (margin_tell ok _ hn).symm⟩
    · have e2 := onQ sm ok h0 h1 (fun c n _ => let l := Vaidxe.pieces (Vaidxe.linesOf c s.room n)
        VaidxBase.int l.length :: l.flatMap fun p => Vaidxe.fracTold p.from_ ++ Vaidxe.lineTold p.line)
      have e3 : Vaidxe.step s (specC 7 ps ns) = _ := e2
      rw [e3, sm.r]
      exact ⟨sm, iv, (pieces_tell ok _ hn).symm⟩
    · have e2 := onQ sm ok h0 h1 (fun c n _ => let m := Vaidxe.possible c s.room n
        VaidxBase.int m :: (match Vaidxe.firstLeast c ((Vaidxe.within_ c s.room).filter fun x => Vaidxe.askCost c x n == m) with
          | none => []
          | some x => VaidxBase.int (Vaidxe.cost c x) :: VaidxBase.listed x))
      have e3 : Vaidxe.step s (specC 10 ps ns) = _ := e2
      rw [e3, sm.r]
      exact ⟨sm, iv, (possible_tell ok _ hn).symm⟩
    · have e2 := onQ sm ok h0 h1 (fun _ _ q => let l := Vaidxe.candidates q
        VaidxBase.int l.length :: l.flatMap VaidxBase.flatIndex)
      have e3 : Vaidxe.step s (specC 11 ps ns) = _ := e2
      rw [e3]
      exact ⟨sm, iv, (cand_tell (qAt_ok ok hn).nd).symm⟩
    · exact same_make sm ok iv _ _ _ h0 h1

theorem same_step {m : MS} {s : Vaidxe.State} (sm : Sim m s) (iv : InvM m) (c : Nat) (hc : c ≤ 12) (ps ns : List Int) : SameC m s c ps ns := by
  by_cases h0 : c = 0
  · subst h0; exact same_table sm iv ns
  · cases ht : m.table with
    | none => exact same_none sm iv ht c hc ps ns h0
    | some t =>
      have ok := iv t ht
      by_cases ha : c = 4 ∨ c = 6 ∨ c = 7 ∨ c = 10 ∨ c = 11 ∨ c = 12
      · exact same_about sm ok iv c ha ps ns
      · have e1 : ∀ x, x = stepM m c ps ns → x = stepM m c ps ns := fun _ h => h
        have : c = 1 ∨ c = 2 ∨ c = 3 ∨ c = 5 ∨ c = 8 ∨ c = 9 := by omega
        unfold SameC
        rcases this with rfl | rfl | rfl | rfl | rfl | rfl
        · have e : stepM m ((1 : Nat) : Int) ps ns = takeQ t m ns := by unfold stepM; rw [ht]; rfl
          rw [e]; exact same_q sm ok ns iv
        · have e : stepM m ((2 : Nat) : Int) ps ns = takeI t m (wayAt ps 0) ns := by unfold stepM; rw [ht]; rfl
          rw [e]; exact same_i sm ok iv _ ns
        · have e : stepM m ((3 : Nat) : Int) ps ns = takeR m (wayAt ps 0) := by unfold stepM; rw [ht]; rfl
          rw [e]; exact same_r sm ok iv _
        · have e : stepM m ((5 : Nat) : Int) ps ns = (m, leastA t m) := by unfold stepM; rw [ht]; rfl
          have e2 : Vaidxe.step s (specC 5 ps ns) = _ := least_tell ok sm
          rw [e, e2]; exact ⟨sm, iv, rfl⟩
        · have e : stepM m ((8 : Nat) : Int) ps ns = (m, keptA t m) := by unfold stepM; rw [ht]; rfl
          have e2 : Vaidxe.step s (specC 8 ps ns) = _ := kept_tell ok sm
          rw [e, e2]; exact ⟨sm, iv, rfl⟩
        · have e : stepM m ((9 : Nat) : Int) ps ns = (m, pricesA t m) := by unfold stepM; rw [ht]; rfl
          have e2 : Vaidxe.step s (specC 9 ps ns) = _ := prices_tell ok sm
          rw [e, e2]; exact ⟨sm, iv, rfl⟩

end IX
end

section
/-! The plain law: a list taken apart into calls. -/
namespace IX

/-- The document's rows of a call. -/
def rawOf (x : CallD) : List (List Int) := if x.1 ≤ 2 then [x.1 :: x.2.1, x.2.2] else [x.1 :: x.2.1]

theorem shape_some {p : Int} {n k : Nat} (h : PyVaidxe.shape p = some (n, k)) : ∃ c : Nat, p = (c : Int) ∧ c ≤ 12 ∧ n = plainN c ∧ k = if c ≤ 2 then 1 else 0 := by
  unfold PyVaidxe.shape at h
  by_cases e : p = 0
  · subst e; cases h; exact ⟨0, rfl, by decide, rfl, rfl⟩
  rw [if_neg e] at h; clear e
  by_cases e : p = 1
  · subst e; cases h; exact ⟨1, rfl, by decide, rfl, rfl⟩
  rw [if_neg e] at h; clear e
  by_cases e : p = 2
  · subst e; cases h; exact ⟨2, rfl, by decide, rfl, rfl⟩
  rw [if_neg e] at h; clear e
  by_cases e : p = 3
  · subst e; cases h; exact ⟨3, rfl, by decide, rfl, rfl⟩
  rw [if_neg e] at h; clear e
  by_cases e : p = 4
  · subst e; cases h; exact ⟨4, rfl, by decide, rfl, rfl⟩
  rw [if_neg e] at h; clear e
  by_cases e : p = 5
  · subst e; cases h; exact ⟨5, rfl, by decide, rfl, rfl⟩
  rw [if_neg e] at h; clear e
  by_cases e : p = 6
  · subst e; cases h; exact ⟨6, rfl, by decide, rfl, rfl⟩
  rw [if_neg e] at h; clear e
  by_cases e : p = 7
  · subst e; cases h; exact ⟨7, rfl, by decide, rfl, rfl⟩
  rw [if_neg e] at h; clear e
  by_cases e : p = 8
  · subst e; cases h; exact ⟨8, rfl, by decide, rfl, rfl⟩
  rw [if_neg e] at h; clear e
  by_cases e : p = 9
  · subst e; cases h; exact ⟨9, rfl, by decide, rfl, rfl⟩
  rw [if_neg e] at h; clear e
  by_cases e : p = 10
  · subst e; cases h; exact ⟨10, rfl, by decide, rfl, rfl⟩
  rw [if_neg e] at h; clear e
  by_cases e : p = 11
  · subst e; cases h; exact ⟨11, rfl, by decide, rfl, rfl⟩
  rw [if_neg e] at h; clear e
  by_cases e : p = 12
  · subst e; cases h; exact ⟨12, rfl, by decide, rfl, rfl⟩
  rw [if_neg e] at h; clear e
  cases h

end IX
end

section
/-! The plain law: calls read from the list. -/
namespace IX

structure CdOk (x : CallD) (c : Nat) : Prop where
  ce : x.1 = (c : Int)
  le : c ≤ 12
  pl : x.2.1.length = plainN c
  nl : x.2.2.length ≤ 1000

theorem cd_call {x : CallD} {c : Nat} (h : CdOk x c) : CallOk x.1 x.2.1 x.2.2 := by
  have e := h.ce
  have l := h.le
  have p := h.pl
  refine ⟨h.nl, fun h0 h1 h5 h8 h9 => ?_, fun h4 => ?_, fun h0 h1 h2 h3 h4 h5 h6 h7 h8 h9 h10 h11 => ?_⟩
  · rw [p]
    match c, l with
    | 0, _ => exact absurd e h0
    | 1, _ => exact absurd e h1
    | 2, _ => decide
    | 3, _ => decide
    | 4, _ => decide
    | 5, _ => exact absurd e h5
    | 6, _ => decide
    | 7, _ => decide
    | 8, _ => exact absurd e h8
    | 9, _ => exact absurd e h9
    | 10, _ => decide
    | 11, _ => decide
    | 12, _ => decide
  · have : c = 4 := by omega
    subst this; rw [p]; decide
  · have : c = 12 := by omega
    subst this; rw [p]; decide

theorem call_spec {x : CallD} {c : Nat} (h : CdOk x c) : VaidxeNeutral.callOf (rawOf x) = some (specC c x.2.1 x.2.2) := by
  obtain ⟨z, ps, ns⟩ := x
  obtain ⟨e, l, p, _⟩ := h
  simp only [] at e p
  subst e
  match c, l with
  | 0, _ => match ps, p with | [], _ => rfl
  | 1, _ => match ps, p with | [], _ => rfl
  | 2, _ => match ps, p with | [_], _ => rfl
  | 3, _ => match ps, p with | [_], _ => rfl
  | 4, _ => match ps, p with | [_, _], _ => rfl
  | 5, _ => match ps, p with | [], _ => rfl
  | 6, _ => match ps, p with | [_], _ => rfl
  | 7, _ => match ps, p with | [_], _ => rfl
  | 8, _ => match ps, p with | [], _ => rfl
  | 9, _ => match ps, p with | [], _ => rfl
  | 10, _ => match ps, p with | [_], _ => rfl
  | 11, _ => match ps, p with | [_], _ => rfl
  | 12, _ => match ps, p with | [_, _, _], _ => rfl

theorem told_eq : ∀ (cs : List CallD) (m : MS) (s : Vaidxe.State), Sim m s → InvM m → (∀ x ∈ cs, ∃ c, CdOk x c) → Keeps m cs ∧ toldM m cs = PyFlat.told (PyFlat.played VaidxeNeutral.step s (cs.map rawOf))
  | [], _, _, _, _, _ => ⟨trivial, rfl⟩
  | x :: cs, m, s, sm, iv, h => by
    obtain ⟨c, hc⟩ := h x List.mem_cons_self
    have sa := same_step sm iv c hc.le x.2.1 x.2.2
    unfold SameC at sa
    rw [← hc.ce] at sa
    obtain ⟨k1, k2⟩ := told_eq cs _ _ sa.sim sa.inv fun y hy => h y (List.mem_cons_of_mem _ hy)
    refine ⟨⟨iv, cd_call hc, k1⟩, ?_⟩
    have es : VaidxeNeutral.step s (rawOf x) = Vaidxe.step s (specC c x.2.1 x.2.2) := by
      unfold VaidxeNeutral.step
      rw [call_spec hc]; rfl
    rw [toldM, k2, List.map_cons, PyFlat.played, es]
    unfold PyFlat.told
    rw [List.flatMap_cons, sa.eq]
    rfl

theorem whole_id (c : List (List Int)) : PyVaidxe.whole c = c := by
  unfold PyVaidxe.whole
  split <;> rfl

theorem drop_cons {l : List Int} {a : Nat} {p : Int} {r : List Int} (h : l.drop a = p :: r) : a < l.length ∧ wayAt l a = p ∧ l.drop (a + 1) = r := by
  have ha : a < l.length := by
    rcases Nat.lt_or_ge a l.length with h1 | h1
    · exact h1
    · rw [List.drop_eq_nil_of_le h1] at h; cases h
  refine ⟨ha, ?_, ?_⟩
  · have : wayAt (l.drop a) 0 = p := by rw [h]; rfl
    rw [way_drop] at this; exact this
  · rw [← List.drop_drop, h]; rfl

theorem lists_bound {p : Nat} {ns : List Int} (hp : p ≤ 2) (h : PyInside.lists (PyVaidxe.bound p).2 [ns] = true) : ns.length ≤ 1000 := by
  have : p = 0 ∨ p = 1 ∨ p = 2 := by omega
  rcases this with rfl | rfl | rfl
  · have h' : (decide (0 ≤ ns.length) && decide (ns.length ≤ 80) && ns.all (PyInside.within (-1000000000000000000) 1000000000000000000) && true) = true := h
    simp only [Bool.and_eq_true, decide_eq_true_iff] at h'
    omega
  · have h' : (decide (0 ≤ ns.length) && decide (ns.length ≤ 40) && ns.all (PyInside.within (-1000000000000000000) 1000000000000000000) && true) = true := h
    simp only [Bool.and_eq_true, decide_eq_true_iff] at h'
    omega
  · have h' : (decide (0 ≤ ns.length) && decide (ns.length ≤ 20) && ns.all (PyInside.within (-1000000000000000000) 1000000000000000000) && true) = true := h
    simp only [Bool.and_eq_true, decide_eq_true_iff] at h'
    omega

theorem parse (l : List Int) : ∀ (f a : Nat) (raw : List (List (List Int))), a ≤ l.length → PyFlat.calls PyVaidxe.shape f (l.drop a) = some raw → PyInside.calls PyVaidxe.bound raw = true →
    ∃ cs, Fits l a cs ∧ raw = cs.map rawOf ∧ ∀ x ∈ cs, ∃ c, CdOk x c := by
  intro f
  induction f with
  | zero =>
    intro a raw ha h _
    cases hd : l.drop a with
    | nil =>
      rw [hd] at h
      have : a = l.length := by rw [List.drop_eq_nil_iff] at hd; omega
      subst this
      cases h
      exact ⟨[], .done, rfl, fun x hx => absurd hx List.not_mem_nil⟩
    | cons p r => rw [hd] at h; cases h
  | succ f ih =>
    intro a raw ha h hb
    cases hd : l.drop a with
    | nil =>
      rw [hd] at h
      have : a = l.length := by rw [List.drop_eq_nil_iff] at hd; omega
      subst this
      cases h
      exact ⟨[], .done, rfl, fun x hx => absurd hx List.not_mem_nil⟩
    | cons p r =>
      rw [hd] at h
      obtain ⟨a1, a2, a3⟩ := drop_cons hd
      rw [PyFlat.calls] at h
      cases hc : PyFlat.call PyVaidxe.shape (p :: r) with
      | none => rw [hc] at h; cases h
      | some ct =>
        obtain ⟨c0, t⟩ := ct
        rw [hc] at h
        simp only [] at h
        cases hcs : PyFlat.calls PyVaidxe.shape f t with
        | none => rw [hcs] at h; cases h
        | some raw' =>
          rw [hcs] at h
          cases h
          rw [PyFlat.call] at hc
          cases hs : PyVaidxe.shape p with
          | none => rw [hs] at hc; cases hc
          | some nk =>
            obtain ⟨n, k⟩ := nk
            rw [hs] at hc
            simp only [] at hc
            obtain ⟨c, rfl, hc12, rfl, rfl⟩ := shape_some hs
            by_cases hlen : r.length < plainN c
            · rw [if_pos hlen] at hc; cases hc
            · rw [if_neg hlen] at hc
              have er : r.length = l.length - (a + 1) := by rw [← a3, List.length_drop]
              have ed : r.drop (plainN c) = l.drop (a + 1 + plainN c) := by rw [← a3, List.drop_drop]
              have et : r.take (plainN c) = (l.drop (a + 1)).take (plainN c) := by rw [← a3]
              unfold PyInside.calls at hb
              rw [List.all_cons, Bool.and_eq_true] at hb
              by_cases h2 : c ≤ 2
              · rw [if_pos h2, PyFlat.rows] at hc
                cases hr : PyFlat.row (r.drop (plainN c)) with
                | none => rw [hr] at hc; cases hc
                | some xs =>
                  obtain ⟨x, s⟩ := xs
                  rw [hr] at hc
                  simp only [PyFlat.rows] at hc
                  cases hc
                  rw [ed] at hr
                  cases hd2 : l.drop (a + 1 + plainN c) with
                  | nil => rw [hd2] at hr; cases hr
                  | cons z r2 =>
                    obtain ⟨b1, b2, b3⟩ := drop_cons hd2
                    rw [hd2, PyFlat.row] at hr
                    by_cases hz : 0 ≤ z ∧ z.toNat ≤ r2.length
                    · rw [if_pos hz] at hr
                      cases hr
                      have e2 : r2.length = l.length - (a + 1 + plainN c + 1) := by rw [← b3, List.length_drop]
                      have e3 : r2.drop z.toNat = l.drop (a + 1 + plainN c + 1 + z.toNat) := by rw [← b3, List.drop_drop]
                      rw [e3] at hcs
                      obtain ⟨cs, f1, f2, f3⟩ := ih _ _ (by omega) hcs hb.2
                      have hb1 := hb.1
                      unfold PyInside.call at hb1
                      simp only [] at hb1
                      rw [Bool.and_eq_true] at hb1
                      have hn := lists_bound h2 hb1.2
                      rw [List.length_take] at hn
                      refine ⟨((c : Int), (l.drop (a + 1)).take (plainN c), (l.drop (a + 1 + plainN c + 1)).take z.toNat) :: cs, Fits.row a1 a2 h2 b1 (by rw [b2]; omega) (by omega) (by omega) f1, ?_, ?_⟩
                      · rw [List.map_cons, f2, et, b3]
                        unfold rawOf
                        simp only []
                        rw [if_pos (by omega)]
                      · intro y hy
                        rcases List.mem_cons.mp hy with e | e
                        · subst e
                          refine ⟨c, rfl, hc12, ?_, ?_⟩
                          · simp only [List.length_take, List.length_drop]; omega
                          · simp only [List.length_take, List.length_drop]; omega
                        · exact f3 y e
                    · rw [if_neg hz] at hr; cases hr
              · rw [if_neg h2, PyFlat.rows] at hc
                cases hc
                rw [ed] at hcs
                obtain ⟨cs, f1, f2, f3⟩ := ih _ _ (by omega) hcs hb.2
                refine ⟨((c : Int), (l.drop (a + 1)).take (plainN c), []) :: cs, Fits.flat a1 a2 (by omega) hc12 (by omega) f1, ?_, ?_⟩
                · rw [List.map_cons, f2, et]
                  unfold rawOf
                  simp only []
                  rw [if_neg (by omega)]
                · intro y hy
                  rcases List.mem_cons.mp hy with e | e
                  · subst e
                    refine ⟨c, rfl, hc12, ?_, by simp⟩
                    simp only [List.length_take, List.length_drop]; omega
                  · exact f3 y e

end IX
end

section
/-! The plain law, whole. -/
namespace IX

theorem sim0 : Sim ms0 Vaidxe.start := ⟨rfl, rfl, rfl, rfl, rfl⟩
theorem inv0 : InvM ms0 := fun t h => by cases h

theorem plain_law : PlainLaw := by
  intro ns h _
  unfold PyVaidxe.answers_asked at h
  cases hc : PyFlat.calls PyVaidxe.shape ns.length ns with
  | none => rw [hc] at h; cases h
  | some raw =>
    rw [hc] at h
    simp only [Bool.and_eq_true] at h
    obtain ⟨cs, f1, f2, f3⟩ := parse ns ns.length 0 raw (Nat.zero_le _) hc h.1.1.2
    obtain ⟨k1, k2⟩ := told_eq cs ms0 Vaidxe.start sim0 inv0 f3
    have hw : raw.map PyVaidxe.whole = cs.map rawOf := by
      rw [← f2]
      have : PyVaidxe.whole = id := funext whole_id
      rw [this, List.map_id]
    have e : toldM ms0 cs = PyVaidxe.answers ns := by
      unfold PyVaidxe.answers PyVaidxe.calls
      rw [hc]
      simp only []
      rw [hw, k2]
      rfl
    refine ⟨cs, f1, k1, e, ?_⟩
    rw [e]
    have h2 := h.2
    unfold PyFlat.short at h2
    exact of_decide_eq_true h2

end IX
end

theorem PySem.Challenge.cw_indexmargins_s01_answers_holds : PySem.Challenge.rw_indexmargins_s01_answers.Holds :=
  IX.holds_of IX.plain_law
