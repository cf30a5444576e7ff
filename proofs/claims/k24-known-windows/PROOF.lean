import PyProof.Rows.All
import Wide.All
import OpenK.AllK
import Wide.FinOn
import KE.KStateDown
import HandS.ForMost
import HandS.Head0
import HandS.Head1
import HandS.Head2
import HandS.HeadEnd
import HandS.HeadHook1
import HandS.HeadHook2
import HandS.Defaults
import HandS.Codes
import HandS.IsInst
import KE.GoesEnum
import HandS.Set
import HandS.SetFor
import HandS.ExcInit
import HandS.ExcField
import HandS.TryOnly
import HandS.TryMany
import HandS.WordsExc
import HandS.ClsMeth
import HandS.TupSets
import HandS.Property
import KE.KExcIs
import PyProof.ListStr
import PySem.Challenge.RW_holedwindows_k24_known_windows
import HandS.Strs
import HandS.Zip
import HandS.TupAny
import HandS.TupMul
import PyProof.StrOps2
import HandS.NoneIn
import HandS.Style
import KE.KRevSl
import HandS.Replace
import KE.DataMinMax
import KE.SortData
import KE.DataCmp
import HandS.Flow
import HandS.Wide
import HandS.Iter
import PyProof.SeqIndex
import PyProof.StrLawsChain
import KE.KAssignIn
import OpenK.KOps
import HandS.Conv
import HandS.SetKeys
import KE.KDictSum
import KE.KDictDisplayH
set_option Elab.async false
set_option linter.all false
set_option maxRecDepth 100000
set_option maxHeartbeats 4000000
namespace HX
open PySem PySem.Spec PyProof.Rows L2 He
/-! the head's Hook with one more question ex -/
abbrev AlE : Type := AlD × Bool
/-- a constant that is a tuple of ints -/
def intV : Value → Option Int
  | .int i _ => some i
  | _ => none
def tupI (x : Str) (ns : List Int) (K : PySem.W.Frag) : Bool := match PySem.W.nsIn K mainGlobals x with
  | some (some (.ref a)) => match K.lookup a with
    | some ⟨.type T, _, .seq its _, _⟩ => decide (T = "tuple") && decide (its.toList.map intV = ns.map some) && decide (its.size ≤ 1000)
    | _ => false
  | _ => false
end HX
set_option maxHeartbeats 4000000
/-! A layer of my own over HandS: expressions that evaluate to plain data, statements over a state of data. -/
namespace HW
open PySem PySem.Spec PyProof.Rows L2
/-! ### heaps -/
/-- the heap without the addresses of L -/
def off (L : List Addr) (H : Hp) : Hp := fun a => if a ∈ L then none else H a
theorem off_in {L : List Addr} {H : Hp} {a : Addr} (h : a ∈ L) : off L H a = none := if_pos h
theorem off_out {L : List Addr} {H : Hp} {a : Addr} (h : a ∉ L) : off L H a = H a := if_neg h
theorem off_some {L : List Addr} {H : Hp} {a : Addr} {o : HO} (h : off L H a = some o) : a ∉ L ∧ H a = some o := by
  by_cases q : a ∈ L
  · rw [off_in q] at h; cases h
  · rw [off_out q] at h; exact ⟨q, h⟩
/-- H' keeps all that H has but at L -/
def XT (L : List Addr) (H H' : Hp) : Prop := ∀ a o, off L H a = some o → off L H' a = some o
theorem XT.trans {L : List Addr} {H H1 H2 : Hp} (a : XT L H H1) (b : XT L H1 H2) : XT L H H2 := fun x o h => b x o (a x o h)
/-! ### data -/
/-- a key as data -/
def kD : L2.Key → PyData
  | .inl i => .int i
  | .inr x => .str x
/-- a locked dict as data: its keys are numbers and texts, or tuples of them -/
abbrev dkD (kvs : List (PyData × PyData)) : PyData := .dict ((.none, .none) :: kvs)
abbrev dtD (kvs : List (PyData × PyData)) : PyData := .dict ((.bool true, .none) :: kvs)
mutual
/-- the value v is the data d -/
inductive Va (K : PySem.W.Frag) (H : Hp) : V → PyData → Prop
  | non : Va K H .non .none
  | bl (b : Bool) : Va K H (.bl b) (.bool b)
  | int (i : Int) : Va K H (.int i) (.int i)
  | str (x : Str) : Va K H (.str x) (.str x)
  | lst {a : Addr} {xs : List V} {ds : List PyData} : H a = some (.lst xs) → VaAll K H xs ds → Va K H (.ref a) (.list ds)
  | tup {a : Addr} {xs : List V} {ds : List PyData} : SqT K H a xs → VaAll K H xs ds → Va K H (.ref a) (.tuple ds)
  | dct {a : Addr} : H a = some (.dK []) → Va K H (.ref a) (.dict [])
  | ptr (a : Addr) : Va K H (.ref a) (.dict [(.int a, .none)])
  | ktp {a : Addr} {xs : List V} {ds : List PyData} : H a = some (.tup xs) → VaAll K H xs ds → Va K H (.ref a) (.dict [(.bool false, .tuple ds)])
  | dcf {a : Addr} {o : Obj} {ks : List (Key × V)} {ds : List PyData} {kvs : List (PyData × PyData)} : H a = some (.frz o (.dK ks)) → VaAll K H (ks.map (·.2)) ds → kvs = (ks.map fun p => kD p.1).zip ds → Va K H (.ref a) (dkD kvs)
  | dtf {a : Addr} {o : Obj} {ks : List (List Key × V)} {ds : List PyData} {kvs : List (PyData × PyData)} : H a = some (.frz o (.dT ks)) → VaAll K H (ks.map (·.2)) ds → kvs = (ks.map fun p => PyData.tuple (p.1.map kD)).zip ds → Va K H (.ref a) (dtD kvs)
inductive VaAll (K : PySem.W.Frag) (H : Hp) : List V → List PyData → Prop
  | nil : VaAll K H [] []
  | cons {v : V} {vs : List V} {d : PyData} {ds : List PyData} : Va K H v d → VaAll K H vs ds → VaAll K H (v :: vs) (d :: ds)
end
section
variable {K : PySem.W.Frag} {H H' : Hp}
theorem SqT.up {a : Addr} {xs : List V} (e : Same H H') (h : SqT K H a xs) : SqT K H' a xs := by
  rcases h with (h | ⟨o, h⟩) | h
  · exact .inl (.inl (e _ _ h))
  · exact .inl (.inr ⟨o, e _ _ h⟩)
  · exact .inr h
mutual
theorem Va.up (e : Same H H') : ∀ {v : V} {d : PyData}, Va K H v d → Va K H' v d
  | _, _, .non => .non
  | _, _, .bl b => .bl b
  | _, _, .int i => .int i
  | _, _, .str x => .str x
  | _, _, .lst h hs => .lst (e _ _ h) (VaAll.up e hs)
  | _, _, .tup h hs => .tup (SqT.up e h) (VaAll.up e hs)
  | _, _, .dct h => .dct (e _ _ h)
  | _, _, .ptr a => .ptr a
  | _, _, .ktp h hs => .ktp (e _ _ h) (VaAll.up e hs)
  | _, _, .dcf h hs q => .dcf (e _ _ h) (VaAll.up e hs) q
  | _, _, .dtf h hs q => .dtf (e _ _ h) (VaAll.up e hs) q
theorem VaAll.up (e : Same H H') : ∀ {vs : List V} {ds : List PyData}, VaAll K H vs ds → VaAll K H' vs ds
  | _, _, .nil => .nil
  | _, _, .cons h hs => .cons (Va.up e h) (VaAll.up e hs)
end
theorem VaAll.length : ∀ {vs : List V} {ds : List PyData}, VaAll K H vs ds → vs.length = ds.length
  | _, _, .nil => rfl
  | _, _, .cons _ hs => by rw [List.length_cons, List.length_cons, VaAll.length hs]
theorem VaAll.at : ∀ {vs : List V} {ds : List PyData} {i : Nat} {d : PyData}, VaAll K H vs ds → ds[i]? = some d → ∃ v, vs[i]? = some v ∧ Va K H v d
  | _, _, i, _, .nil, e => by simp at e
  | _, _, 0, _, .cons h _, e => by
    have e : _ = _ := Option.some.inj e
    subst e
    exact ⟨_, rfl, h⟩
  | _, _, i + 1, d, .cons _ hs, e => by
    obtain ⟨v, h1, h2⟩ := VaAll.at (i := i) (d := d) hs (by simpa using e)
    exact ⟨v, by simpa using h1, h2⟩
theorem VaAll.take : ∀ {vs : List V} {ds : List PyData} (n : Nat), VaAll K H vs ds → VaAll K H (vs.take n) (ds.take n)
  | _, _, 0, _ => .nil
  | _, _, _ + 1, .nil => .nil
  | _, _, n + 1, .cons h hs => .cons h (VaAll.take n hs)
theorem VaAll.ints : ∀ {vs : List V} {ns : List Int}, VaAll K H vs (ns.map PyData.int) → vs = ns.map V.int
  | _, [], h => by cases h; rfl
  | _, n :: ns, h => by
    cases h with
    | cons h hs => cases h; rw [VaAll.ints hs]; rfl
end
/-! ### the state: slots of data, local mutable objects, the world around -/
inductive DV where
  | no | d (x : PyData) | r (a : Addr)
inductive MO where
  | lst (ds : List PyData) | dK (kvs : List (Key × PyData)) | dT (kvs : List (List Key × PyData)) | ins (C : Addr) (fs : List (Str × PyData))
abbrev Mu := List (Addr × MO)
/-- H0: all that must stay; M: hidden objects (the callers' mutable ones); row: the draws' row, its script -/
structure Wd where
  H0 : Hp
  M : List Addr
  row : Option (Addr × Addr × List Int)
def RowC (H : Hp) (r scr : Addr) : Prop := ∃ i s q : Int, H r = some (.lst [.ref scr, .int i, .int s, .int q]) ∧ 0 ≤ i
def Wd.isRow (W : Wd) (a : Addr) : Prop := ∃ scr ns, W.row = some (a, scr, ns)
structure Fr (W : Wd) (H : Hp) : Prop where
  keep : ∀ a o, ¬ W.isRow a → W.H0 a = some o → H a = some o
  row : ∀ r scr ns, W.row = some (r, scr, ns) → RowC H r scr
/-- something stands at a, and it is no tuple -/
def NT (H : Hp) (a : Addr) : Prop := H a ≠ none ∧ ∀ xs, H a ≠ some (.tup xs)
structure WdOk (K : PySem.W.Frag) (W : Wd) : Prop where
  hid : ∀ a ∈ W.M, W.H0 a ≠ none
  row : ∀ r scr ns, W.row = some (r, scr, ns) → r ∈ W.M ∧ SqL K W.H0 scr (ns.map V.int) ∧ scr ≠ r ∧ ns.length ≤ 63
  nt : ∀ a ∈ W.M, ∀ xs, W.H0 a ≠ some (.tup xs)
def SltR (K : PySem.W.Frag) (H : Hp) : Option V → DV → Prop
  | _, .no => True
  | o, .d d => ∃ v, o = some v ∧ Va K H v d
  | o, .r a => o = some (.ref a)
structure Slots (K : PySem.W.Frag) (H : Hp) (σ : L2.St) (Γ : List DV) : Prop where
  len : σ.length = Γ.length
  at_ : ∀ (i : Nat) (dv : DV), Γ[i]? = some dv → ∃ o, σ[i]? = some o ∧ SltR K H o dv
def MOk (K : PySem.W.Frag) (Ho H : Hp) (a : Addr) : MO → Prop
  | .lst ds => ∃ xs, H a = some (.lst xs) ∧ VaAll K Ho xs ds
  | .dK kvs => ∃ ks : List (Key × V), H a = some (.dK ks) ∧ Paired (fun (p : Key × V) (q : Key × PyData) => p.1 = q.1 ∧ Va K Ho p.2 q.2) ks kvs
  | .dT kvs => ∃ ks : List (List Key × V), H a = some (.dT ks) ∧ Paired (fun (p : List Key × V) (q : List Key × PyData) => p.1 = q.1 ∧ Va K Ho p.2 q.2) ks kvs
  | .ins C fs => ∃ dx, ∃ gs : List (Str × V), H a = some (.ins C dx gs) ∧ Paired (fun (p : Str × V) (q : Str × PyData) => p.1 = q.1 ∧ Va K Ho p.2 q.2) gs fs
abbrev hd (W : Wd) (μ : Mu) : List Addr := W.M ++ μ.map (·.1)
structure Rep (K : PySem.W.Frag) (W : Wd) (Γ : List DV) (μ : Mu) (σ : L2.St) (H : Hp) : Prop where
  wd : WdOk K W
  fr : Fr W H
  sl : Slots K (off (hd W μ) H) σ Γ
  mu : ∀ p ∈ μ, W.H0 p.1 = none ∧ MOk K (off (hd W μ) H) H p.1 p.2
  nd : (μ.map (·.1)).Nodup
section
variable {K : PySem.W.Frag} {H H' Ho Ho' : Hp} {W : Wd} {Γ : List DV} {μ : Mu} {σ : L2.St}
theorem SltR.up (e : Same H H') {o : Option V} {dv : DV} (h : SltR K H o dv) : SltR K H' o dv := by
  cases dv with
  | no => trivial
  | d x => obtain ⟨v, e1, e2⟩ := h; exact ⟨v, e1, e2.up e⟩
  | r a => exact h
theorem Slots.up (e : Same H H') (h : Slots K H σ Γ) : Slots K H' σ Γ := ⟨h.len, fun i dv q => by
  obtain ⟨o, h1, h2⟩ := h.at_ i dv q
  exact ⟨o, h1, h2.up e⟩⟩
theorem Slots.set (h : Slots K H σ Γ) (i : Nat) {v : V} {d : PyData} (r : Va K H v d) : Slots K H (σ.set i (some v)) (Γ.set i (.d d)) := ⟨by rw [List.length_set, List.length_set, h.len], fun j dv q => by
  by_cases hj : j = i
  · subst hj
    have hl : j < Γ.length := by
      have := (List.getElem?_eq_some_iff.mp q).1
      simpa using this
    rw [List.getElem?_set_self hl] at q
    cases q
    exact ⟨_, List.getElem?_set_self (by rw [h.len]; exact hl), v, rfl, r⟩
  · rw [List.getElem?_set_ne (Ne.symm hj)] at q ⊢
    exact h.at_ j dv q⟩
theorem Slots.no (h : Slots K H σ Γ) (i : Nat) {x : Option V} : Slots K H (σ.set i x) (Γ.set i .no) := ⟨by rw [List.length_set, List.length_set, h.len], fun j dv q => by
  by_cases hj : j = i
  · subst hj
    have hl : j < Γ.length := by
      have := (List.getElem?_eq_some_iff.mp q).1
      simpa using this
    rw [List.getElem?_set_self hl] at q
    cases q
    exact ⟨_, List.getElem?_set_self (by rw [h.len]; exact hl), trivial⟩
  · rw [List.getElem?_set_ne (Ne.symm hj)] at q ⊢
    exact h.at_ j dv q⟩
theorem pmp {α β : Type} {F G : α → β → Prop} : ∀ {l₁ : List α} {l₂ : List β}, Paired F l₁ l₂ → (∀ a b, F a b → G a b) → Paired G l₁ l₂
  | _, _, .nil, _ => .nil
  | _, _, .cons r t, f => .cons (f _ _ r) (pmp t f)
theorem MOk.up (e : Same Ho Ho') {a : Addr} (e2 : ∀ o, H a = some o → H' a = some o) {m : MO} (h : MOk K Ho H a m) : MOk K Ho' H' a m := by
  cases m with
  | lst ds => obtain ⟨xs, h1, h2⟩ := h; exact ⟨xs, e2 _ h1, h2.up e⟩
  | dK kvs => obtain ⟨xs, h1, h2⟩ := h; exact ⟨xs, e2 _ h1, pmp h2 fun _ _ z => ⟨z.1, z.2.up e⟩⟩
  | dT kvs => obtain ⟨xs, h1, h2⟩ := h; exact ⟨xs, e2 _ h1, pmp h2 fun _ _ z => ⟨z.1, z.2.up e⟩⟩
  | ins C fs => obtain ⟨dx, gs, h1, h2⟩ := h; exact ⟨dx, gs, e2 _ h1, pmp h2 fun _ _ z => ⟨z.1, z.2.up e⟩⟩
theorem Fr.dom (h : Fr W H) {a : Addr} (q : W.H0 a ≠ none) : H a ≠ none := by
  by_cases hr : W.isRow a
  · obtain ⟨scr, ns, e⟩ := hr
    obtain ⟨i, s, q, e1, _⟩ := h.row _ _ _ e
    rw [e1]; simp
  · cases e : W.H0 a with
    | none => exact absurd e q
    | some o => rw [h.keep a o hr e]; simp
theorem MOk.nt {a : Addr} {m : MO} (h : MOk K Ho H a m) : ∀ xs, H a ≠ some (.tup xs) := by
  cases m with
  | lst ds => obtain ⟨xs, h1, h2⟩ := h; rw [h1]; intro xs e; cases e
  | dK kvs => obtain ⟨xs, h1, h2⟩ := h; rw [h1]; intro xs e; cases e
  | dT kvs => obtain ⟨xs, h1, h2⟩ := h; rw [h1]; intro xs e; cases e
  | ins C fs => obtain ⟨dx, gs, h1, h2⟩ := h; rw [h1]; intro xs e; cases e
theorem Fr.nt (h : Fr W H) {a : Addr} (q : W.H0 a ≠ none) (n : ∀ xs, W.H0 a ≠ some (.tup xs)) : ∀ xs, H a ≠ some (.tup xs) := by
  by_cases hr : W.isRow a
  · obtain ⟨scr, ns, e⟩ := hr
    obtain ⟨i, s, q, e1, _⟩ := h.row _ _ _ e
    rw [e1]
    intro xs e
    cases e
  · cases e : W.H0 a with
    | none => exact absurd e q
    | some o =>
      rw [h.keep a o hr e, ← e]
      exact n
/-- the world grows: what stands now must stay -/
structure Wle (W W' : Wd) : Prop where
  m : ∀ a ∈ W.M, a ∈ W'.M
  row : W'.row = W.row
  keep : ∀ a o, ¬ W.isRow a → W.H0 a = some o → W'.H0 a = some o
theorem Wle.isRow {W W' : Wd} (l : Wle W W') (a : Addr) : W'.isRow a ↔ W.isRow a := by
  unfold Wd.isRow
  rw [l.row]
theorem Wle.trans {W W1 W2 : Wd} (a : Wle W W1) (b : Wle W1 W2) : Wle W W2 :=
  ⟨fun x h => b.m x (a.m x h), b.row.trans a.row, fun x o n h => b.keep x o (fun q => n ((a.isRow x).mp q)) (a.keep x o n h)⟩
/-- the world as it stands: everything but the local objects and the row must stay -/
def Wd.now (W : Wd) (μ : Mu) (H : Hp) : Wd := { W with H0 := off (μ.map (·.1)) H }
theorem Rep.mu_new (R : Rep K W Γ μ σ H) {a : Addr} (h : W.H0 a ≠ none) : a ∉ μ.map (·.1) := fun q => by
  obtain ⟨p, hp, rfl⟩ := List.mem_map.mp q
  exact h (R.mu p hp).1
theorem SqL.up {a : Addr} {xs : List V} (e : ∀ o, H a = some o → H' a = some o) (h : SqL K H a xs) : SqL K H' a xs := by
  rcases h with (h | ⟨o, h⟩) | h
  · exact .inl (.inl (e _ h))
  · exact .inl (.inr ⟨o, e _ h⟩)
  · exact .inr h
theorem Rep.now_ok (R : Rep K W Γ μ σ H) : WdOk K (W.now μ H) := ⟨fun a ha => by
  show off (μ.map (·.1)) H a ≠ none
  rw [off_out (R.mu_new (R.wd.hid a ha))]
  exact R.fr.dom (R.wd.hid a ha), fun r scr ns q => by
  obtain ⟨h1, h2, h3, h4⟩ := R.wd.row r scr ns q
  refine ⟨h1, SqL.up (fun o e => ?_) h2, h3, h4⟩
  show off (μ.map (·.1)) H scr = some o
  rw [off_out (R.mu_new (by rw [e]; simp))]
  refine R.fr.keep scr o (fun ⟨s2, n2, z⟩ => ?_) e
  have q' : W.row = some (r, scr, ns) := q
  rw [q'] at z
  cases z
  exact h3 rfl, fun a ha => by
  show ∀ xs, off (μ.map (·.1)) H a ≠ some (.tup xs)
  rw [off_out (R.mu_new (R.wd.hid a ha))]
  exact R.fr.nt (R.wd.hid a ha) (R.wd.nt a ha)⟩
theorem Rep.now (R : Rep K W Γ μ σ H) : Rep K (W.now μ H) Γ μ σ H :=
  ⟨R.now_ok, ⟨fun a o n q => (off_some q).2, R.fr.row⟩, R.sl, fun p hp => ⟨off_in (List.mem_map.mpr ⟨p, hp, rfl⟩), (R.mu p hp).2⟩, R.nd⟩
end
end HW
set_option maxHeartbeats 4000000
namespace HW
open PySem PySem.Spec PyProof.Rows L2
/-! ### judgements -/
/-- what e wants -/
def wE (X : Cx) (e : Expr) : TE := fun σ H Q => ∀ (pins : List (Addr × Obj)) (s : Shared), Inv X pins σ H s → wpAny (model X.prog X.w) X.A (eval e X.env) (EP X pins σ Q) X.xe s
theorem _root_.L2.PE.w {X : Cx} {e : Expr} {t : TE} (h : PE X e t) {σ : L2.St} {H : Hp} {Q : VK} (q : t σ H Q) : wE X e σ H Q := fun pins s I => h.run pins s σ H Q I q
def wA (X : Cx) (es : List Expr) : TA := fun σ H Q => ∀ (pos : Pos) (pins : List (Addr × Obj)) (s : Shared), Inv X pins σ H s → wpAny (model X.prog X.w) X.A (spliced (backTo pos (starEach es X.env))) (AP X pins σ Q) X.xe s
theorem _root_.L2.PA.w {X : Cx} {es : List Expr} {t : TA} (h : PA X es t) {σ : L2.St} {H : Hp} {Q : List V → Hp → Prop} (q : t σ H Q) : wA X es σ H Q := fun pos pins s I => h.run pos pins s σ H Q I q
def wT (X : Cx) (e : Expr) : TT := fun σ H Q => ∀ (pins : List (Addr × Obj)) (s : Shared), Inv X pins σ H s → wpAny (model X.prog X.w) X.A (isTrue e X.env (eval e X.env)) (TP X pins σ Q) X.xe s
theorem wT.pt {X : Cx} {e : Expr} : PT X e (wT X e) := ⟨fun pins s _ _ _ I h => h pins s I⟩
theorem _root_.L2.PT.w {X : Cx} {e : Expr} {t : TT} (h : PT X e t) {σ : L2.St} {H : Hp} {Q : Bool → Hp → Prop} (q : t σ H Q) : wT X e σ H Q := fun pins s I => h.run pins s σ H Q I q
def wS (X : Cx) (st : Stmt) : TS := fun D σ H => ∀ (pins : List (Addr × Obj)) (s : Shared), Inv X pins σ H s → wpAny (model X.prog X.w) X.A (exec st X.env) (SP X pins D) X.xe s
theorem wS.ps {X : Cx} {st : Stmt} : PS X st (wS X st) := ⟨fun pins s _ _ _ I h => h pins s I⟩
theorem _root_.L2.PS.w {X : Cx} {st : Stmt} {t : TS} (h : PS X st t) {σ : L2.St} {H : Hp} {D : Ends} (q : t D σ H) : wS X st D σ H := fun pins s I => h.run pins s σ H D I q
def wSs (X : Cx) (sts : List Stmt) : TS := fun D σ H => ∀ (pins : List (Addr × Obj)) (s : Shared), Inv X pins σ H s → wpAny (model X.prog X.w) X.A (execs sts X.env) (SP X pins D) X.xe s
theorem wSs.ps {X : Cx} {sts : List Stmt} : PSs X sts (wSs X sts) := ⟨fun pins s _ _ _ I h => h pins s I⟩
theorem _root_.L2.PSs.w {X : Cx} {sts : List Stmt} {t : TS} (h : PSs X sts t) {σ : L2.St} {H : Hp} {D : Ends} (q : t D σ H) : wSs X sts D σ H := fun pins s I => h.run pins s σ H D I q
/-- e gives data with P -/
def Ev (X : Cx) (W : Wd) (Γ : List DV) (μ : Mu) (e : Expr) (P : PyData → Prop) : Prop :=
  ∀ σ H, Rep X.K W Γ μ σ H → ∀ Q : VK, (∀ v d H2, Rep X.K W Γ μ σ H2 → XT (hd W μ) H H2 → Va X.K (off (hd W μ) H2) v d → P d → Q v H2) → wE X e σ H Q
def Ed (X : Cx) (W : Wd) (Γ : List DV) (μ : Mu) (e : Expr) (d : PyData) : Prop :=
  ∀ σ H, Rep X.K W Γ μ σ H → ∀ Q : VK, (∀ v H2, Rep X.K W Γ μ σ H2 → XT (hd W μ) H H2 → Va X.K (off (hd W μ) H2) v d → Q v H2) → wE X e σ H Q
def EvA (X : Cx) (W : Wd) (Γ : List DV) (μ : Mu) (es : List Expr) (P : List PyData → Prop) : Prop :=
  ∀ σ H, Rep X.K W Γ μ σ H → ∀ Q : List V → Hp → Prop, (∀ vs ds H2, Rep X.K W Γ μ σ H2 → XT (hd W μ) H H2 → VaAll X.K (off (hd W μ) H2) vs ds → P ds → Q vs H2) → wA X es σ H Q
def EdA (X : Cx) (W : Wd) (Γ : List DV) (μ : Mu) (es : List Expr) (ds : List PyData) : Prop :=
  ∀ σ H, Rep X.K W Γ μ σ H → ∀ Q : List V → Hp → Prop, (∀ vs H2, Rep X.K W Γ μ σ H2 → XT (hd W μ) H H2 → VaAll X.K (off (hd W μ) H2) vs ds → Q vs H2) → wA X es σ H Q
/-- e as a test gives b; gives a b with P -/
def EdT (X : Cx) (W : Wd) (Γ : List DV) (μ : Mu) (e : Expr) (b : Bool) : Prop :=
  ∀ σ H, Rep X.K W Γ μ σ H → ∀ Q : Bool → Hp → Prop, (∀ H2, Rep X.K W Γ μ σ H2 → XT (hd W μ) H H2 → Q b H2) → wT X e σ H Q
def EvT (X : Cx) (W : Wd) (Γ : List DV) (μ : Mu) (e : Expr) (P : Bool → Prop) : Prop :=
  ∀ σ H, Rep X.K W Γ μ σ H → ∀ Q : Bool → Hp → Prop, (∀ b H2, Rep X.K W Γ μ σ H2 → XT (hd W μ) H H2 → P b → Q b H2) → wT X e σ H Q
/-- and, or: whatever the 'whole' is -/
def wW (X : Cx) (e : Expr) : TT := fun σ H Q => ∀ (whole : Sem Value) (pins : List (Addr × Obj)) (s : Shared), Inv X pins σ H s → wpAny (model X.prog X.w) X.A (isTrue e X.env whole) (TP X pins σ Q) X.xe s
theorem wW.pw {X : Cx} {e : Expr} : PW X e (wW X e) := ⟨fun whole pins s _ _ _ I h => h whole pins s I⟩
theorem _root_.L2.PW.w {X : Cx} {e : Expr} {t : TT} (h : PW X e t) {σ : L2.St} {H : Hp} {Q : Bool → Hp → Prop} (q : t σ H Q) : wW X e σ H Q := fun whole pins s I => h.run whole pins s σ H Q I q
def EdW (X : Cx) (W : Wd) (Γ : List DV) (μ : Mu) (e : Expr) (b : Bool) : Prop :=
  ∀ σ H, Rep X.K W Γ μ σ H → ∀ Q : Bool → Hp → Prop, (∀ H2, Rep X.K W Γ μ σ H2 → XT (hd W μ) H H2 → Q b H2) → wW X e σ H Q
def EvW (X : Cx) (W : Wd) (Γ : List DV) (μ : Mu) (e : Expr) (P : Bool → Prop) : Prop :=
  ∀ σ H, Rep X.K W Γ μ σ H → ∀ Q : Bool → Hp → Prop, (∀ b H2, Rep X.K W Γ μ σ H2 → XT (hd W μ) H H2 → P b → Q b H2) → wW X e σ H Q

section
variable {X : Cx} {W : Wd} {Γ : List DV} {μ : Mu} {e a b : Expr} {es : List Expr} {d x y z : PyData} {ds : List PyData} {P A B C : PyData → Prop} {pos : Pos}
theorem Ed.ev (h : Ed X W Γ μ e d) : Ev X W Γ μ e (fun z => z = d) := fun σ H R Q k => h σ H R Q fun v H2 R2 x2 r => k v d H2 R2 x2 r rfl
theorem Ev.imp (h : Ev X W Γ μ e A) (i : ∀ d, A d → B d) : Ev X W Γ μ e B := fun σ H R Q k => h σ H R Q fun v d H2 R2 x2 r p => k v d H2 R2 x2 r (i d p)
theorem Ed.to (h : Ed X W Γ μ e x) (q : x = y) : Ed X W Γ μ e y := q ▸ h
theorem EdA.ev {ds : List PyData} {P : List PyData → Prop} (h : EdA X W Γ μ es ds) (p : P ds) : EvA X W Γ μ es P := fun σ H R Q k => h σ H R Q fun v H2 R2 x2 r => k v ds H2 R2 x2 r p
theorem EdT.ev {b : Bool} {P : Bool → Prop} (h : EdT X W Γ μ e b) (p : P b) : EvT X W Γ μ e P := fun σ H R Q k => h σ H R Q fun H2 R2 x2 => k b H2 R2 x2 p
theorem EdT.to {b b' : Bool} (h : EdT X W Γ μ e b) (q : b = b') : EdT X W Γ μ e b' := q ▸ h
theorem EvT.imp {A B : Bool → Prop} (h : EvT X W Γ μ e A) (i : ∀ b, A b → B b) : EvT X W Γ μ e B := fun σ H R Q k => h σ H R Q fun b H2 R2 x2 p => k b H2 R2 x2 (i b p)

/-! ### names, constants -/
/-! ### two values -/
theorem OpR.to {f : Value → Value → Sem Value} {r r' : R2} (h : OpR X f r) (i : ∀ a b H Q, r' a b H Q → r a b H Q) : OpR X f r' := fun pins s σ H x y v u Q I rx ry q => h pins s σ H x y v u Q I rx ry (i _ _ _ _ q)
/-! ### tests -/
end
section
variable {X : Cx} {W : Wd} {Γ : List DV} {μ : Mu} {e a b : Expr} {rest : List Expr} {pos : Pos} {x y z : PyData} {k l : Bool}
theorem EdW.t (h : EdW X W Γ μ e k) : EdT X W Γ μ e k := fun σ H R Q q => wW.pw.pt.w (h σ H R Q q)
theorem EvW.t {P : Bool → Prop} (h : EvW X W Γ μ e P) : EvT X W Γ μ e P := fun σ H R Q q => wW.pw.pt.w (h σ H R Q q)
/-! ### arguments, calls -/
theorem CallR.to {f : Value} {r r' : List V → Hp → VK → Prop} (h : CallR X f r) (i : ∀ vs H Q, r' vs H Q → r vs H Q) : CallR X f r' := fun pins s σ H vs us Q I rv q => h pins s σ H vs us Q I rv (i _ _ _ q)
end
end HW
set_option maxHeartbeats 4000000
namespace HW
open PySem PySem.Spec PyProof.Rows L2
/-! ### walks -/
/-- J walks over the data ds, as long as the pool stands -/
structure WalkD (K : PySem.W.Frag) (pool : Hp) (J : It) (ds : List PyData) : Prop where
  go : ∀ (i : Nat) (H : Hp), i < ds.length → Same pool H → J.go i H
  yld : ∀ (i : Nat) (d : PyData) (H : Hp) (v : V) (H' : Hp) (L : List Addr), ds[i]? = some d → (∀ l ∈ L, NT H l) → Same pool (off L H) → J.yld i H v H' → Same H H' ∧ Va K (off L H') v d
  stop : ∀ (H : Hp), Same pool H → J.stop ds.length H
def IterV (X : Cx) (W : Wd) (Γ : List DV) (μ : Mu) {α : Type} (tg iter : Expr) (enc : α → PyData) (P : List α → Prop) : Prop :=
  ∃ wi : TI, PI X tg iter wi ∧ ∀ σ H, Rep X.K W Γ μ σ H → ∀ R : It → Hp → Prop, (∀ xs J H1, P xs → Rep X.K W Γ μ σ H1 → XT (hd W μ) H H1 → WalkD X.K (off (hd W μ) H1) J (xs.map enc) → R J H1) → wi σ H R
/-! ### comprehensions -/
abbrev blkOf (X : Cx) (scope : Scope) (s : Shared) (H : Hp) (C : Addr) (cl : List (Str × Addr)) (fp : List Addr) : Cx := X.blk s H scope (compEnvC scope cl C X.env) fp
def wTb (X : Cx) (scope : Scope) (e : Expr) : TT := fun σ H Q => ∀ s H0 C cl fp, wT (blkOf X scope s H0 C cl fp) e σ H Q
theorem wTb.pt {X : Cx} {scope : Scope} {e : Expr} (s : Shared) (H : Hp) (C : Addr) (cl : List (Str × Addr)) (fp : List Addr) : PT (blkOf X scope s H C cl fp) e (wTb X scope e) := ⟨fun pins st _ _ _ I h => h s H C cl fp pins st I⟩
section
variable {X : Cx} {W : Wd} {Γ : List DV} {μ : Mu} {α : Type} {tg iter elt t : Expr} {ifs : List Expr} {scope : Scope} {own : List (Str × Nat)} {pos : Pos} {enc : α → PyData} {P : List α → Prop} {g : TG} {ok : PyData → Prop} {put : PyData → List DV → List DV} {ks : List Nat} {c : α → Bool} {E : α → PyData → Prop}
theorem plen {α β : Type} {F : α → β → Prop} : ∀ {l₁ : List α} {l₂ : List β}, Paired F l₁ l₂ → l₁.length = l₂.length
  | _, _, .nil => rfl
  | _, _, .cons _ t => congrArg (· + 1) (plen t)
/-- a comprehension's judgement: the list's data with Z -/
structure LcEv (X : Cx) (W : Wd) (Γ : List DV) (μ : Mu) (elt tg iter : Expr) (ifs : List Expr) (scope : Scope) (Z : List PyData → Prop) : Prop where
  ex : ∃ (wi : TI) (g : TG) (tt : TT) (te : TE) (own : List (Str × Nat)), PI X tg iter wi ∧ BlkOk X.N X.env.scope scope own ∧ (∀ s H C cl fp, PG (blkOf X scope s H C cl fp) tg g) ∧ (∀ s H C cl fp, PTs (blkOf X scope s H C cl fp) ifs tt) ∧
    (∀ s H C cl fp, PE (blkOf X scope s H C cl fp) elt te) ∧ ∀ σ H, Rep X.K W Γ μ σ H → ∀ Q : VK, (∀ ys v H2, Z ys → Rep X.K W Γ μ σ H2 → XT (hd W μ) H H2 → Va X.K (off (hd W μ) H2) v (.list ys) → (∃ D, v = .ref D ∧ Rep X.K W Γ ((D, .lst ys) :: μ) σ H2 ∧ Same (off (hd W μ) H) (off (hd W ((D, .lst ys) :: μ)) H2)) → Q v H2) → tLc wi g tt te (own.map (·.2)) σ H Q
theorem LcEv.ev {Z : List PyData → Prop} (h : LcEv X W Γ μ elt tg iter ifs scope Z) (hN : X.N.Nodup) (hc : X.calm = true := by rfl) (hs : ∀ x, foldedSetIterable iter X.env x = pure x := by intro _; rfl) :
    Ev X W Γ μ (.ListComp elt [⟨tg, iter, ifs, 0⟩] scope pos) (fun z => ∃ ys, z = .list ys ∧ Z ys) := fun σ H R Q k => by
  obtain ⟨wi, g, tt, te, own, h1, h2, h3, h4, h5, h6⟩ := h.ex
  exact (pe_lc hc hN h1 h2 h3 h4 h5 hs).w (h6 σ H R Q fun ys v H2 z R2 x2 r _ => k v _ H2 R2 x2 r ⟨ys, rfl, z⟩)
end
section
variable {X : Cx} {W : Wd} {Γ : List DV} {μ : Mu} {α : Type} {tg iter elt t : Expr} {ifs : List Expr} {scope : Scope} {pos p : Pos} {enc : α → PyData} {xs : List α} {c : α → Bool} {f : α → PyData} {n : Str}
end
end HW
set_option maxHeartbeats 4000000
namespace HW
open PySem PySem.Spec PyProof.Rows L2
section
variable {X : Cx} {W : Wd} {Γ : List DV} {μ : Mu} {α : Type} {tg iter e a b : Expr} {pos p : Pos} {enc : α → PyData} {P : List α → Prop} {xs : List α}
theorem IterV.imp {Q' : List α → Prop} (h : IterV X W Γ μ tg iter enc P) (i : ∀ xs, P xs → Q' xs) : IterV X W Γ μ tg iter enc Q' := by
  obtain ⟨wi, h1, h2⟩ := h
  exact ⟨wi, h1, fun σ H R R' k => h2 σ H R R' fun xs J H1 px => k xs J H1 (i xs px)⟩
end
/-! ### for -/
section
variable {X : Cx} {W : Wd} {Γ : List DV} {μ : Mu} {α : Type} {tg iter : Expr} {body rest : List Stmt} {pos p : Pos} {enc : α → PyData} {P : List α → Prop} {g : TG} {ok : PyData → Prop} {put : PyData → List DV → List DV} {ks : List Nat} {D : Ends}
end
/-! ### defs -/
/-- a def of the text, ready to be called -/
structure Fd (P : Program) (w : World) (K : PySem.W.Frag) (mg : Str → Option Value) (base : Heap) (k : Nat) (x : Str) (ps : List Str) (sp : Sp) : Prop where
  ex : ∃ (f : Addr) (fd : FuncData), FnOk P w K mg base CX0 k f fd ps sp ∧ mg x = some (.ref f) ∧ PySem.W.keepIn K (.ref f) = true ∧ Binds K fd ps []
section
variable {P : Program} {w : World} {K : PySem.W.Frag} {mg : Str → Option Value} {base : Heap} {x qual : Str} {params : Arguments} {body : List Stmt} {scope : Scope} {f : Addr} {fd : FuncData} {N ps : List Str} {k : Nat}
end
/-! ### calls of defs -/
section
variable {X : Cx} {W : Wd} {Γ : List DV} {μ : Mu} {e : Expr} {es : List Expr} {pos p : Pos} {x : Str} {ps : List Str} {k : Nat} {d : PyData} {ds : List PyData}
end
end HW
set_option maxHeartbeats 4000000
namespace HW
open PySem PySem.Spec PyProof.Rows L2
open SX (S)
section
variable {X : Cx}
theorem IxR.to {r r' : R2} (h : IxR X r) (i : ∀ a b H Q, r' a b H Q → r a b H Q) : IxR X r' := fun e1 e2 pins s σ H x y v u Q I rx ry q hs => h e1 e2 pins s σ H x y v u Q I rx ry (i _ _ _ _ q) hs
theorem MtR.to {id : String} {r r' : V → List V → Hp → VK → Prop} (h : MtR X id r) (i : ∀ x vs H Q, r' x vs H Q → r x vs H Q) : MtR X id r' := fun pins s σ H x xs v us Q I rx rv q => h pins s σ H x xs v us Q I rx rv (i _ _ _ _ q)
/-! ### numbers -/
variable {i j : Int}
/-! ### any data -/
/-! ### texts -/
variable {l m : List Nat}
/-! ### lists, tuples -/
variable {ds es : List PyData} {d : PyData}
end
/-! ### methods of texts: sep.join -/
section
variable {X : Cx} {W : Wd} {Γ : List DV} {μ : Mu} {e o : Expr} {pos apos p : Pos} {l : List Nat} {ws : List (List Nat)}
/-! ### slices -/
theorem SlR.to {r r' : V → Option Int → Option Int → Hp → VK → Prop} (h : L2.SlR X r) (i : ∀ x l u H Q, r' x l u H Q → r x l u H Q) : L2.SlR X r' := fun pins s σ H x v vl vu lo hi sl Q I rx hs pl pu q => h pins s σ H x v vl vu lo hi sl Q I rx hs pl pu (i _ _ _ _ _ q)
end
section
variable {X : Cx} {l : List Nat} {ds : List PyData} {n m : Nat}
end
/-! ### isinstance -/
section
variable {X : Cx} {W : Wd} {Γ : List DV} {μ : Mu} {e : Expr} {d : PyData} {pos p p2 : Pos} {b : Bool}
end
end HW
set_option maxHeartbeats 4000000
namespace HW
open PySem PySem.Spec PyProof.Rows L2
open SX (S)
/-! ### what is gone through, in one shape -/
inductive Sc where
  | txt (x : Str) | lst (a : Addr) | tup (a : Addr)
def Sc.v : Sc → V
  | .txt x => .str x
  | .lst a => .ref a
  | .tup a => .ref a
def signsV (x : Str) : List V := x.cps.toList.map fun c => .str ⟨#[c]⟩
def Sc.xs (K : PySem.W.Frag) (H : Hp) : Sc → List V → Prop
  | .txt x, xs => xs = signsV x
  | .lst a, xs => SqL K H a xs
  | .tup a, xs => SqT K H a xs
def Sc.fp : Sc → List Addr
  | .txt _ => []
  | .lst a => [a]
  | .tup a => [a]
def Sc.it : Sc → Tok → Addr → Nat → Heap → Prop
  | .txt x, t, it, i, h => h.IsStrIter it (strIterType x) x t i
  | .lst a, _, it, i, h => h.IsListIter it a i
  | .tup a, _, it, i, h => h.IsTupleIter it a i
theorem Sc.at {k : Sc} {t : Tok} {it : Addr} {i : Nat} {h h' : Heap} (s : k.it t it i h) (e : ∀ o, h.get? it = some o → h'.get? it = some o) : k.it t it i h' := by
  cases k with
  | txt x => let ⟨o, ho, r⟩ := s; exact ⟨o, e o ho, r⟩
  | lst a => exact Heap.IsListIter.at s e
  | tup a => exact Heap.IsTupleIter.at s e
theorem Sc.obj {k : Sc} {t : Tok} {it : Addr} {i : Nat} {h : Heap} (s : k.it t it i h) : ∃ o, h.get? it = some o ∧ ∀ v, o.data ≠ .cell v := by
  cases k with
  | txt x => obtain ⟨o, e, c, d⟩ := s; exact ⟨o, e, fun v z => by rw [d] at z; cases z⟩
  | lst a => obtain ⟨o, e, c, d⟩ := s; exact ⟨o, e, fun v z => by rw [d] at z; cases z⟩
  | tup a => obtain ⟨o, e, c, d⟩ := s; exact ⟨o, e, fun v z => by rw [d] at z; cases z⟩
theorem Sc.inj {X : Cx} {pins : List (Addr × Obj)} {σ : L2.St} {H : Hp} {s : Shared} {k : Sc} {xs ys : List V} (I : Inv X pins σ H s) (h : k.xs X.K H xs) (h' : k.xs X.K H ys) : xs = ys := by
  cases k with
  | txt x => exact Eq.trans (show xs = signsV x from h) (show ys = signsV x from h').symm
  | lst a => exact I.list_inj h h'
  | tup a => exact I.tuple_inj h h'
/-! ### zip -/
/-! ### enumerate -/
/-! ### over data -/
section
variable {X : Cx} {W : Wd} {Γ : List DV} {μ : Mu} {α β : Type} {a b : Expr} {pos p tpos : Pos} {elts : List Expr} {kk : Nat} {d d2 : PyData} {enc : α → PyData} {enc2 : β → PyData} {xs : List α} {ys : List β}
end
end HW
set_option maxHeartbeats 4000000
namespace HW
open PySem PySem.Spec PyProof.Rows L2
open SX (S)
section
variable {X : Cx} {W : Wd} {Γ : List DV} {μ : Mu} {α : Type} {iter elt t : Expr} {scope : Scope} {pos p : Pos} {enc : α → PyData} {n : Str} {P : List α → Prop} {E : α → PyData → Prop}
end
section
variable {X : Cx} {W : Wd} {Γ : List DV} {μ : Mu} {e o : Expr} {pos apos : Pos}
end
/-! ### to forget -/
def wk : List DV → List DV → Prop
  | [], [] => True
  | a :: as, b :: bs => (b = .no ∨ b = a) ∧ wk as bs
  | _, _ => False
theorem wk.at : ∀ {Γ Γ' : List DV}, wk Γ Γ' → Γ.length = Γ'.length ∧ ∀ (i : Nat) (dv : DV), Γ'[i]? = some dv → dv = .no ∨ Γ[i]? = some dv
  | [], [], _ => ⟨rfl, fun i dv h => by simp at h⟩
  | a :: as, b :: bs, h => by
    obtain ⟨h1, h2⟩ := wk.at h.2
    refine ⟨by rw [List.length_cons, List.length_cons, h1], fun i dv e => ?_⟩
    cases i with
    | zero =>
      cases e
      exact h.1.imp id fun q => by rw [q]; rfl
    | succ i => exact h2 i dv (by simpa using e)
section
variable {X : Cx} {W : Wd} {Γ Γ' : List DV} {μ : Mu} {sts : List Stmt} {D : Ends}
end
/-! ### a law's beginning: its row of draws -/
section
variable {P : Program} {w : World} {K : PySem.W.Frag} {mg : Str → Option Value} {base : Heap} {qual : Str} {params : Arguments} {rest : List Stmt} {scope : Scope} {f : Addr} {fd : FuncData} {N : List Str} {k : Nat} {p0 p1 p2 p3 p4 p5 p6 : Pos} {j1 j2 j3 : Nat} {sd : Int}
end
end HW
set_option maxHeartbeats 4000000
namespace HW
open PySem PySem.Spec PyProof.Rows L2
open SX (S)
/-! ### shapes, for == -/
structure Shp (n : Nat) (d : PyData) : Prop where
  lay : d.canLay0 = true
  dep : d.depth ≤ n
theorem Shp.int {i : Int} : Shp 0 (.int i) := ⟨rfl, Nat.le_refl _⟩
theorem Shp.bl {i : Bool} : Shp 0 (.bool i) := ⟨rfl, Nat.le_refl _⟩
theorem Shp.non : Shp 0 .none := ⟨rfl, Nat.le_refl _⟩
theorem Shp.all {n : Nat} : ∀ {xs : List PyData}, (∀ x ∈ xs, Shp n x) → PyData.canLayAll0 xs = true ∧ PyData.depthAll xs ≤ n
  | [], _ => ⟨rfl, Nat.zero_le _⟩
  | x :: xs, h => by
    obtain ⟨h1, h2⟩ := Shp.all fun y hy => h y (List.mem_cons_of_mem _ hy)
    have h3 := h x List.mem_cons_self
    exact ⟨by rw [PyData.canLayAll0, h3.lay, h1]; rfl, by rw [PyData.depthAll]; exact Nat.max_le.mpr ⟨h3.dep, h2⟩⟩
theorem Shp.list {n : Nat} {xs : List PyData} (h : ∀ x ∈ xs, Shp n x) : Shp (n + 1) (.list xs) := ⟨by rw [PyData.canLay0]; exact (Shp.all h).1, by rw [PyData.depth]; exact Nat.succ_le_succ (Shp.all h).2⟩
theorem Shp.tup {n : Nat} {xs : List PyData} (h : ∀ x ∈ xs, Shp n x) : Shp (n + 1) (.tuple xs) := ⟨by rw [PyData.canLay0]; exact (Shp.all h).1, by rw [PyData.depth]; exact Nat.succ_le_succ (Shp.all h).2⟩
theorem Shp.up {n m : Nat} {d : PyData} (h : Shp n d) (l : n ≤ m) : Shp m d := ⟨h.lay, Nat.le_trans h.dep l⟩
theorem Shp.str {l : List Nat} (h : ∀ c ∈ l, c < 128) : Shp 0 (.str (S l)) := ⟨by
  show PyData.strOk (S l) = true
  unfold PyData.strOk
  simp only [S, List.all_toArray, List.all_eq_true, decide_eq_true_eq]
  exact fun c hc => Nat.lt_trans (h c hc) (by decide), Nat.le_refl _⟩
section
variable {X : Cx} {x y : PyData} {n : Nat}
end
end HW
set_option maxHeartbeats 4000000
namespace HW
open PySem PySem.Spec PyProof.Rows L2
open SX (S)
/-! the plain words -/
def maskB (m : List Nat) : Bool := decide (1 ≤ m.length) && decide (m.length ≤ 12) && m.all (fun c => decide (c ∈ [120, 46])) && decide (m[0]? = some 120) && decide (m.getLast? = some 120)
def seenL (m : List Nat) : List Nat := ((m.mapIdx Prod.mk).filter fun q => decide (q.2 = 120)).map Prod.fst
/-! ### the draws -/
section
variable {X : Cx} {σ : L2.St} {H : Hp} {a b : Expr} {x y z : V} {Q : VK} {pos : Pos}
end
/-! ### rings -/
def ringV (l ps : List Nat) : List (List Nat) := (List.range l.length).map fun p => ps.map fun a => l.getD ((p + a) % l.length) 0
/-! ### the law's own defs -/
def lowL (n : Nat) (l : List Nat) : Prop := ∀ c ∈ l, 97 ≤ c ∧ c < 97 + n
def openL (m : List Nat) : List Nat := (List.range m.length).filter fun i => decide (m.getD i 0 = 120)
section
variable {X : Cx} {W : Wd} {Γ : List DV} {μ : Mu} {a : Expr} {pos p p2 : Pos} {n : Str} {r scr : Addr} {ns : List Int} {k : Nat}
end
theorem EvA.imp {X : Cx} {W : Wd} {Γ : List DV} {μ : Mu} {es : List Expr} {A B : List PyData → Prop} (h : EvA X W Γ μ es A) (i : ∀ d, A d → B d) : EvA X W Γ μ es B := fun σ H R Q k => h σ H R Q fun v d H2 R2 x2 r p => k v d H2 R2 x2 r (i d p)

/-! ### the plain law -/
theorem mapIdx_range (m : List Nat) : m.mapIdx Prod.mk = (List.range m.length).map fun i => (i, m.getD i 0) := by
  apply List.ext_getElem?
  intro i
  rw [List.getElem?_mapIdx, List.getElem?_map]
  by_cases h : i < m.length
  · rw [List.getElem?_range h, List.getElem?_eq_getElem h]
    show some (i, m[i]) = some (i, m.getD i 0)
    rw [List.getD_eq_getElem?_getD, List.getElem?_eq_getElem h]
    rfl
  · rw [List.getElem?_eq_none (by omega), List.getElem?_eq_none (by simp; omega)]
    rfl
theorem open_seen (m : List Nat) : openL m = seenL m := by
  unfold seenL openL
  rw [mapIdx_range, List.filter_map, List.map_map]
  have e : (Prod.fst ∘ fun i => (i, m.getD i 0)) = (id : Nat → Nat) := rfl
  rw [e, List.map_id]
  rfl
theorem mem_open {m : List Nat} {a : Nat} (h : a ∈ openL m) : a < m.length := by
  have := (List.mem_filter.mp h).1
  simpa using this
end HW
set_option maxHeartbeats 4000000
namespace HW
open PySem PySem.Spec PyProof.Rows L2
open SX (S)
/-! ### views -/
def viewL (l m : List Nat) (p : Nat) : List Nat := (seenL m).map fun a => l.getD (p + a) 0
def viewsL (l m : List Nat) : List (List Nat) := (List.range (l.length + 1 - m.length)).map (viewL l m)
def tellsB (l m : List Nat) : Bool := decide (viewsL l m).Nodup
theorem viewsL_len (l m : List Nat) : (viewsL l m).length = l.length + 1 - m.length := by simp [viewsL]
theorem mem_seen {m : List Nat} {a : Nat} (h : a ∈ seenL m) : a < m.length := mem_open (open_seen m ▸ h)
theorem maskB_pos {m : List Nat} (h : maskB m = true) : 1 ≤ m.length := by
  unfold maskB at h
  simp only [Bool.and_eq_true, decide_eq_true_eq] at h
  exact h.1.1.1.1
def letL (n : Nat) : List Nat := [97, 98, 99, 100].take n
theorem mem_letL {n c : Nat} (hn : n ≤ 4) : c ∈ letL n ↔ 97 ≤ c ∧ c < 97 + n := by
  unfold letL
  match n, hn with
  | 0, _ => constructor <;> intro h <;> first | omega | simp at h
  | 1, _ => simp; omega
  | 2, _ => simp; omega
  | 3, _ => simp; omega
  | 4, _ => simp; omega
theorem letL_len {n : Nat} (hn : n ≤ 4) : (letL n).length = n := by simp [letL]; omega
theorem flat_len {α β : Type} (f : α → List β) (c : Nat) : ∀ l : List α, (∀ x ∈ l, (f x).length ≤ c) → (l.flatMap f).length ≤ l.length * c
  | [], _ => by simp
  | x :: l, h => by
    have h1 := h x List.mem_cons_self
    have h2 := flat_len f c l fun y hy => h y (List.mem_cons_of_mem _ hy)
    rw [List.flatMap_cons, List.length_append, List.length_cons, Nat.add_mul]
    omega

/-! ### draws in use -/
section
variable {X : Cx} {W : Wd} {Γ : List DV} {μ : Mu} {a b e i : Expr} {pos p p2 : Pos} {n : Str} {r scr : Addr} {ns : List Int} {k : Nat}
end
end HW
set_option maxHeartbeats 4000000
namespace HW
open PySem PySem.Spec PyProof.Rows L2
open SX (S)
section
variable {X : Cx} {W W0 : Wd} {Γ : List DV} {μ : Mu} {b : Expr} {rest : List Stmt} {D : Ends} {x y : PyData} {pos p p1 p2 pl : Pos} {n1 n2 : Str}
end
/-! ### the rows that are told, letter by letter -/
theorem getD_app {l : List Nat} {c i : Nat} (h : i < l.length) : (l ++ [c]).getD i 0 = l.getD i 0 := by
  rw [List.getD_eq_getElem?_getD, List.getD_eq_getElem?_getD, List.getElem?_append_left h]
theorem viewL_app {l m : List Nat} {c p : Nat} (h : p + m.length ≤ l.length) : viewL (l ++ [c]) m p = viewL l m p := by
  unfold viewL
  refine List.map_congr_left fun a ha => getD_app ?_
  have := mem_seen ha
  omega
theorem viewsL_snoc (l m : List Nat) (c : Nat) (hm : 1 ≤ m.length) : viewsL (l ++ [c]) m = if l.length + 1 < m.length then viewsL l m else viewsL l m ++ [viewL (l ++ [c]) m (l.length + 1 - m.length)] := by
  unfold viewsL
  rw [List.length_append, List.length_singleton]
  by_cases h : l.length + 1 < m.length
  · rw [if_pos h]
    have e1 : l.length + 1 + 1 - m.length = 0 := by omega
    have e2 : l.length + 1 - m.length = 0 := by omega
    rw [e1, e2]
    rfl
  · rw [if_neg h]
    have e1 : l.length + 1 + 1 - m.length = (l.length + 1 - m.length) + 1 := by omega
    rw [e1, List.range_succ, List.map_append]
    congr 1
    refine List.map_congr_left fun p hp => viewL_app ?_
    have := List.mem_range.mp hp
    omega
def okC (m r : List Nat) (c : Nat) : Bool := decide (r.length + 1 < m.length) || !decide (viewL (r ++ [c]) m (r.length + 1 - m.length) ∈ viewsL r m)
theorem tells_snoc (r m : List Nat) (c : Nat) (hm : 1 ≤ m.length) : tellsB (r ++ [c]) m = (tellsB r m && okC m r c) := by
  unfold tellsB okC
  rw [viewsL_snoc r m c hm]
  by_cases h : r.length + 1 < m.length
  · rw [if_pos h, decide_eq_true h]
    simp
  · rw [if_neg h, decide_eq_false h, Bool.false_or, Bool.eq_iff_iff]
    simp only [decide_eq_true_eq, Bool.and_eq_true, Bool.not_eq_true', decide_eq_false_iff_not]
    rw [List.nodup_append]
    constructor
    · rintro ⟨h1, _, h3⟩
      exact ⟨h1, fun q => h3 _ q _ (List.mem_singleton.mpr rfl) rfl⟩
    · rintro ⟨h1, h2⟩
      exact ⟨h1, by simp, fun a ha b hb => by rw [List.mem_singleton.mp hb]; rintro rfl; exact h2 ha⟩
def stepR (m : List Nat) (n : Nat) (r : List Nat) : List (List Nat) := ((letL n).filter (okC m r)).map fun c => r ++ [c]
def nextL (m : List Nat) (n : Nat) (rs : List (List Nat)) : List (List Nat) := rs.flatMap (stepR m n)
def lev (m : List Nat) (n : Nat) : Nat → List (List Nat)
  | 0 => [[]]
  | k + 1 => nextL m n (lev m n k)
theorem stepR_len (m : List Nat) {n : Nat} (hn : n ≤ 4) (r : List Nat) : (stepR m n r).length ≤ n := by
  unfold stepR
  rw [List.length_map]
  exact Nat.le_trans (List.length_filter_le ..) (by rw [letL_len hn]; exact Nat.le_refl _)
theorem lev_len (m : List Nat) {n : Nat} (hn : n ≤ 4) : ∀ k, (lev m n k).length ≤ n ^ k
  | 0 => by simp [lev]
  | k + 1 => by
    have h1 := flat_len (stepR m n) n (lev m n k) (fun r _ => stepR_len m hn r)
    have h2 := Nat.mul_le_mul_right n (lev_len m hn k)
    rw [← Nat.pow_succ] at h2
    exact Nat.le_trans h1 h2
theorem mem_lev {m : List Nat} {n : Nat} (hm : 1 ≤ m.length) (hn : n ≤ 4) : ∀ {k : Nat} {r : List Nat}, r ∈ lev m n k ↔ r.length = k ∧ lowL n r ∧ tellsB r m = true
  | 0, r => by
    constructor
    · intro h
      have e : r = [] := by simpa [lev] using h
      subst e
      refine ⟨rfl, (fun c hc => nomatch hc), ?_⟩
      unfold tellsB viewsL
      have : ([] : List Nat).length + 1 - m.length = 0 := by simp; omega
      rw [this]
      rfl
    · rintro ⟨h, _⟩
      have e : r = [] := List.length_eq_zero_iff.mp h
      subst e
      simp [lev]
  | k + 1, r => by
    show r ∈ (lev m n k).flatMap (stepR m n) ↔ _
    rw [List.mem_flatMap]
    constructor
    · rintro ⟨q, hq, hr⟩
      obtain ⟨h1, h2, h3⟩ := (mem_lev hm hn).mp hq
      unfold stepR at hr
      obtain ⟨c, hc, rfl⟩ := List.mem_map.mp hr
      obtain ⟨hc1, hc2⟩ := List.mem_filter.mp hc
      refine ⟨by simp [h1], fun x hx => ?_, by rw [tells_snoc q m c hm, h3, hc2]; rfl⟩
      rcases List.mem_append.mp hx with z | z
      · exact h2 x z
      · rw [List.mem_singleton.mp z]
        exact (mem_letL hn).mp hc1
    · rintro ⟨h1, h2, h3⟩
      have hne : r ≠ [] := by rintro rfl; simp at h1
      have er := List.dropLast_concat_getLast hne
      refine ⟨r.dropLast, (mem_lev hm hn).mpr ⟨by simp [h1], fun c hc => h2 c (List.dropLast_subset r hc), ?_⟩, ?_⟩
      · rw [← er, tells_snoc _ m _ hm, Bool.and_eq_true] at h3
        exact h3.1
      · unfold stepR
        refine List.mem_map.mpr ⟨r.getLast hne, List.mem_filter.mpr ⟨(mem_letL hn).mpr (h2 _ (List.getLast_mem hne)), ?_⟩, er⟩
        rw [← er, tells_snoc _ m _ hm, Bool.and_eq_true] at h3
        exact h3.2
/-! counting -/
theorem nodup_len {α : Type} [DecidableEq α] : ∀ (l D : List α), l.Nodup → (∀ x ∈ l, x ∈ D) → l.length ≤ D.length
  | [], _, _, _ => Nat.zero_le _
  | x :: l, D, h, s => by
    have h1 := List.nodup_cons.mp h
    have hx := s x List.mem_cons_self
    have ih := nodup_len l (D.erase x) h1.2 fun y hy => (List.mem_erase_of_ne (by rintro rfl; exact h1.1 hy)).mpr (s y (List.mem_cons_of_mem _ hy))
    rw [List.length_erase_of_mem hx] at ih
    have := List.length_pos_of_mem hx
    rw [List.length_cons]
    omega
def words (n : Nat) : Nat → List (List Nat)
  | 0 => [[]]
  | s + 1 => (words n s).flatMap fun v => (letL n).map fun c => v ++ [c]
theorem words_len {n : Nat} (hn : n ≤ 4) : ∀ s, (words n s).length ≤ n ^ s
  | 0 => by simp [words]
  | s + 1 => by
    have h1 := flat_len (fun v : List Nat => (letL n).map fun c => v ++ [c]) n (words n s) (fun v _ => by rw [List.length_map, letL_len hn]; exact Nat.le_refl _)
    have h2 := Nat.mul_le_mul_right n (words_len hn s)
    rw [← Nat.pow_succ] at h2
    exact Nat.le_trans h1 h2
theorem mem_words {n : Nat} (hn : n ≤ 4) : ∀ {s : Nat} {v : List Nat}, v.length = s → lowL n v → v ∈ words n s
  | 0, v, h, _ => by
    have e : v = [] := List.length_eq_zero_iff.mp h
    subst e
    simp [words]
  | s + 1, v, h, hl => by
    have hne : v ≠ [] := by rintro rfl; simp at h
    refine List.mem_flatMap.mpr ⟨v.dropLast, mem_words hn (by simp [h]) fun c hc => hl c (List.dropLast_subset v hc), ?_⟩
    exact List.mem_map.mpr ⟨v.getLast hne, (mem_letL hn).mpr (hl _ (List.getLast_mem hne)), List.dropLast_concat_getLast hne⟩
theorem viewL_low {l m : List Nat} {n p : Nat} (hl : lowL n l) (h : p + m.length ≤ l.length) : lowL n (viewL l m p) := by
  intro c hc
  unfold viewL at hc
  obtain ⟨a, ha, rfl⟩ := List.mem_map.mp hc
  have h1 := mem_seen ha
  have h2 : p + a < l.length := by omega
  rw [List.getD_eq_getElem?_getD, List.getElem?_eq_getElem h2]
  exact hl _ (List.getElem_mem h2)
theorem viewL_len (l m : List Nat) (p : Nat) : (viewL l m p).length = (seenL m).length := by simp [viewL]
/-- a told row has at most so many places -/
theorem told_bound {r m : List Nat} {n : Nat} (hm : 1 ≤ m.length) (hn : n ≤ 4) (hl : lowL n r) (ht : tellsB r m = true) : r.length + 1 - m.length ≤ n ^ (seenL m).length := by
  unfold tellsB at ht
  have h := nodup_len (viewsL r m) (words n (seenL m).length) (of_decide_eq_true ht) fun v hv => by
    unfold viewsL at hv
    obtain ⟨p, hp, rfl⟩ := List.mem_map.mp hv
    have := List.mem_range.mp hp
    exact mem_words hn (viewL_len _ _ _) (viewL_low hl (by omega))
  rw [viewsL_len] at h
  exact Nat.le_trans h (words_len hn _)
theorem lev_top {m : List Nat} {n k : Nat} (hm : 1 ≤ m.length) (hn : n ≤ 4) (h : lev m n k ≠ []) : k + 1 ≤ n ^ (seenL m).length + m.length := by
  obtain ⟨r, hr⟩ := List.exists_mem_of_ne_nil _ h
  obtain ⟨h1, h2, h3⟩ := (mem_lev hm hn).mp hr
  have := told_bound hm hn h2 h3
  omega
/-- small enough -/
structure Small (m : List Nat) (n : Nat) : Prop where
  mask : maskB m = true
  lo : 1 ≤ n
  hi : n ≤ 4
  wide : m.length ≤ [12, 8, 5, 4].getD (n - 1) 0
  seen : (seenL m).length ≤ [12, 4, 2, 1].getD (n - 1) 0
theorem Small.bound {m : List Nat} {n : Nat} (h : Small m n) : n ^ (n ^ (seenL m).length + m.length - 1) ≤ 8388608 ∧ n ^ (seenL m).length ≤ 16 := by
  obtain ⟨_, lo, hi, wide, seen⟩ := h
  match n, lo, hi with
  | 1, _, _ => simp
  | 2, _, _ =>
    have w : m.length ≤ 8 := wide
    have s : (seenL m).length ≤ 4 := seen
    have h1 : 2 ^ (seenL m).length ≤ 2 ^ 4 := Nat.pow_le_pow_right (by decide) s
    refine ⟨Nat.le_trans (Nat.pow_le_pow_right (by decide) (show _ ≤ 23 by omega)) (by decide), h1⟩
  | 3, _, _ =>
    have w : m.length ≤ 5 := wide
    have s : (seenL m).length ≤ 2 := seen
    have h1 : 3 ^ (seenL m).length ≤ 3 ^ 2 := Nat.pow_le_pow_right (by decide) s
    refine ⟨Nat.le_trans (Nat.pow_le_pow_right (by decide) (show _ ≤ 13 by omega)) (by decide), by omega⟩
  | 4, _, _ =>
    have w : m.length ≤ 4 := wide
    have s : (seenL m).length ≤ 1 := seen
    have h1 : 4 ^ (seenL m).length ≤ 4 ^ 1 := Nat.pow_le_pow_right (by decide) s
    refine ⟨Nat.le_trans (Nat.pow_le_pow_right (by decide) (show _ ≤ 7 by omega)) (by decide), by omega⟩
theorem Small.pos {m : List Nat} {n : Nat} (h : Small m n) : 1 ≤ m.length := maskB_pos h.mask
theorem Small.top {m : List Nat} {n k : Nat} (h : Small m n) (hk : lev m n k ≠ []) : k + 1 ≤ 16 + m.length := by
  have := lev_top h.pos h.hi hk
  have := h.bound.2
  omega
theorem Small.len {m : List Nat} {n : Nat} (h : Small m n) (k : Nat) : (lev m n k).length ≤ 8388608 := by
  by_cases e : lev m n k = []
  · rw [e]; exact Nat.zero_le _
  · have h1 := lev_top h.pos h.hi e
    exact Nat.le_trans (lev_len m h.hi k) (Nat.le_trans (Nat.pow_le_pow_right h.lo (by omega)) h.bound.1)
/-! as data -/
end HW
set_option maxHeartbeats 4000000
namespace HW
open PySem PySem.Spec PyProof.Rows L2
open SX (S)
/-! ### comprehensions with two for -/
/-- what a walked thing wants -/
def wI (X : Cx) (tg iter : Expr) : TI := fun σ H R => ∀ (pins : List (Addr × Obj)) (s : Shared), Inv X pins σ H s → wpAny (model X.prog X.w) X.A (eval iter X.env) (fun v s1 => wpAny (model X.prog X.w) X.A (pyIter v) (PIE X pins σ tg R) X.xe s1) X.xe s
theorem _root_.L2.PI.w {X : Cx} {tg iter : Expr} {t : TI} (h : PI X tg iter t) {σ : L2.St} {H : Hp} {R : It → Hp → Prop} (q : t σ H R) : wI X tg iter σ H R := fun pins s I => h.run pins s σ H R I q
section
variable {X : Cx} {W : Wd} {Γ : List DV} {μ : Mu} {α β : Type} {tg iter tg1 iter1 elt : Expr} {scope : Scope} {enc : α → PyData} {enc1 : β → PyData} {xs : List α} {ys : α → List β} {f : α → β → PyData} {k1 k2 : Nat}
end
section
variable {X : Cx} {W : Wd} {Γ : List DV} {μ : Mu} {α β : Type} {iter iter1 elt : Expr} {scope : Scope} {pos p1 p2 : Pos} {enc : α → PyData} {enc1 : β → PyData} {xs : List α} {n1 n2 : Str}
end
end HW
set_option maxHeartbeats 4000000
namespace HW
open PySem PySem.Spec PyProof.Rows L2
open SX (S)
section
variable {X : Cx} {i : Nat} {xs : List Nat}
end
/-! ### unlike -/
/-! ### the law's small masks -/
theorem open_get {m : List Nat} {i : Nat} : i ∈ openL m ↔ i < m.length ∧ m[i]? = some 120 := by
  unfold openL
  rw [List.mem_filter, List.mem_range, decide_eq_true_eq, List.getD_eq_getElem?_getD]
  constructor
  · rintro ⟨h1, h2⟩
    rw [List.getElem?_eq_getElem h1] at h2 ⊢
    exact ⟨h1, congrArg some h2⟩
  · rintro ⟨h1, h2⟩
    rw [h2]
    exact ⟨h1, rfl⟩
end HW
set_option maxHeartbeats 4000000
namespace HW
open PySem PySem.Spec PyProof.Rows L2
open SX (S)
/-! ### what it is to be told -/
theorem nodup_range {α : Type} (f : Nat → α) (n : Nat) : ((List.range n).map f).Nodup ↔ ∀ p q, p < q → q < n → f p ≠ f q := by
  induction n with
  | zero => simp
  | succ n ih =>
    rw [List.range_succ, List.map_append, List.nodup_append, ih]
    constructor
    · rintro ⟨h1, _, h3⟩ p q hpq hq
      by_cases e : q = n
      · subst e
        exact h3 _ (List.mem_map.mpr ⟨p, List.mem_range.mpr hpq, rfl⟩) _ (by simp)
      · exact h1 p q hpq (by omega)
    · intro h
      refine ⟨fun p q hpq hq => h p q hpq (by omega), by simp, fun x hx y hy e => ?_⟩
      obtain ⟨p, hp, rfl⟩ := List.mem_map.mp hx
      have hp' := List.mem_range.mp hp
      have ey : y = f n := by simpa using hy
      subst ey
      exact h p n hp' (Nat.lt_succ_self n) e
theorem seen_get {m : List Nat} {i : Nat} : i ∈ seenL m ↔ i < m.length ∧ m[i]? = some 120 := by rw [← open_seen]; exact open_get
theorem map_ne {α : Type} {f g : Nat → α} {l : List Nat} : l.map f ≠ l.map g ↔ ∃ a ∈ l, f a ≠ g a := by
  constructor
  · intro h
    apply Classical.byContradiction
    intro hn
    refine h (List.map_congr_left fun a ha => ?_)
    apply Classical.byContradiction
    intro h2
    exact hn ⟨a, ha, h2⟩
  · rintro ⟨a, ha, hne⟩ e
    exact hne (List.map_inj_left.mp e a ha)
theorem tells_iff {l m : List Nat} : tellsB l m = true ↔ ∀ p q, p < q → q + m.length ≤ l.length → ∃ a, a < m.length ∧ m[a]? = some 120 ∧ l.getD (p + a) 0 ≠ l.getD (q + a) 0 := by
  unfold tellsB viewsL
  rw [decide_eq_true_iff, nodup_range]
  constructor
  · intro h p q h1 h2
    obtain ⟨a, ha, hne⟩ := map_ne.mp (h p q h1 (by omega))
    obtain ⟨h3, h4⟩ := seen_get.mp ha
    exact ⟨a, h3, h4, hne⟩
  · intro h p q h1 h2
    obtain ⟨a, h3, h4, h5⟩ := h p q h1 (by omega)
    exact map_ne.mpr ⟨a, seen_get.mpr ⟨h3, h4⟩, h5⟩
theorem ring_iff {l m : List Nat} : (ringV l (seenL m)).Nodup ↔ ∀ p q, p < q → q < l.length → ∃ a, a < m.length ∧ m[a]? = some 120 ∧ l.getD ((p + a) % l.length) 0 ≠ l.getD ((q + a) % l.length) 0 := by
  unfold ringV
  rw [nodup_range]
  constructor
  · intro h p q h1 h2
    obtain ⟨a, ha, hne⟩ := map_ne.mp (h p q h1 h2)
    obtain ⟨h3, h4⟩ := seen_get.mp ha
    exact ⟨a, h3, h4, hne⟩
  · intro h p q h1 h2
    obtain ⟨a, h3, h4, h5⟩ := h p q h1 h2
    exact map_ne.mpr ⟨a, seen_get.mpr ⟨h3, h4⟩, h5⟩
theorem ring_tells {l m : List Nat} (hm : 1 ≤ m.length) (h : (ringV l (seenL m)).Nodup) : tellsB l m = true := by
  rw [ring_iff] at h
  rw [tells_iff]
  intro p q h1 h2
  obtain ⟨a, h3, h4, h5⟩ := h p q h1 (by omega)
  rw [Nat.mod_eq_of_lt (by omega), Nat.mod_eq_of_lt (by omega)] at h5
  exact ⟨a, h3, h4, h5⟩

/-! ### distances -/
end HW
set_option maxHeartbeats 4000000
namespace HW
open PySem PySem.Spec PyProof.Rows L2
open SX (S)
/-! ### turns that carry a fact -/
section
variable {X : Cx} {W : Wd} {Γ Γ' : List DV} {μ μ' : Mu} {α : Type} {iter a b : Expr} {body rest : List Stmt} {pos p : Pos} {enc : α → PyData} {D : Ends} {n : Str} {c : Expr}
end
/-! ### rings -/
theorem Small.power {m : List Nat} {n : Nat} (h : Small m n) : 1 ≤ n ^ (seenL m).length ∧ n ^ (seenL m).length ≤ 16 := ⟨Nat.one_le_pow _ _ h.lo, h.bound.2⟩
theorem Small.words {m : List Nat} {n k : Nat} (h : Small m n) (hk : k ≤ n ^ (seenL m).length) : (words n k).length ≤ 8388608 := by
  have h1 := h.pos
  exact Nat.le_trans (words_len h.hi k) (Nat.le_trans (Nat.pow_le_pow_right h.lo (by omega)) h.bound.1)
end HW
set_option maxHeartbeats 4000000
namespace HW
open PySem PySem.Spec PyProof.Rows L2
open SX (S)
/-! ### sets whose table can be walked -/
/-- the table's places rise, and their order is the table's own -/
def WalkT (w : World) (t : SetTable) : Prop := Ris t.place.toList ∧ (w.params.followText "set-order" = true ∨ t.led = true)
theorem WalkT.off {w : World} {t : SetTable} (h : WalkT w t) : WalkT w { t with plain := false } := h
theorem WalkT.lay {w : World} {t : SetTable} (g : WalkT w t) (es : Array (Int × Value)) (h : Int) (x : Value) : WalkT w (layNew t es h x).2.1 := ⟨layNew_ris t es h x g.1, g.2.imp id fun e => (layNew_led t es h x).trans e⟩
section
variable {prog : Program} {w : World} {K : Type} [DecidableEq K] (knd : KeyKind prog w K)
/-- the elements es are the n keys of S -/
structure HasK (S : K → Bool) (n : Nat) (es : Array (Int × Value)) (t : SetTable) : Prop where
  els : ElemsOf knd es.toList
  mem : ∀ k, S k = true ↔ ∃ e ∈ es.toList, knd.is k e.2 = true
  few : es.size < scanBound
  fits : t.fits es.size = true
  num : es.size = n
  walk : WalkT w t
def SetG (h : Heap) (a : Addr) (S : K → Bool) (n : Nat) : Prop := ∃ o es ep t, h.get? a = some o ∧ o.ExactSet ∧ o.data = .set es ep t ∧ HasK knd S n es t
variable {knd}
theorem SetG.keep {h h' : Heap} {a : Addr} {S : K → Bool} {n : Nat} (g : SetG knd h a S n) (k : ∀ o, h.get? a = some o → h'.get? a = some o) : SetG knd h' a S n :=
  let ⟨o, es, ep, t, ho, r⟩ := g; ⟨o, es, ep, t, k o ho, r⟩
theorem SetG.eq {h : Heap} {a : Addr} {S S' : K → Bool} {n n' : Nat} (g : SetG knd h a S n) (e : ∀ k, S k = S' k) (en : n = n') : SetG knd h a S' n' := by
  have : S = S' := funext e
  subst this
  subst en
  exact g
section
variable {A : Around} {E : Value → Shared → Prop} {s : Shared} {a : Addr} {S : K → Bool} {n : Nat}
end
end
section
variable {prog : Program} {w : World} {K : Type} [DecidableEq K] {knd : KeyKind prog w K} {A : Around} {R : Result → Shared → Prop} {I : Addr} {fp wr : List Addr} {G : Array GenState → Array GenState → Prop} {n : Nat} {P : Nat → Value → Prop} {St : Nat → Shared → Prop}
end
section
variable {prog : Program} {w : World} {K : Type} [DecidableEq K] {knd : KeyKind prog w K} {A : Around} {E : Value → Shared → Prop} {s : Shared}
end
end HW
set_option maxHeartbeats 4000000
namespace HW
open PySem PySem.Spec PyProof.Rows L2
open SX (S)
open PySem.W (dataLt AlikeAll AllAlike Sortable EachIs dataLe alike)
/-! ### sorted(set(texts)) -/
section
variable {prog : Program} {w : World} {A : Around} {E : Value → Shared → Prop} {s : Shared}
theorem EachIs.find {R : Value → List Nat → Prop} : ∀ {vs : List Value} {bs : List (List Nat)}, EachIs R vs bs → ∀ v ∈ vs, ∃ b ∈ bs, R v b
  | _, _, .nil, v, h => nomatch h
  | _, _, .cons h t, v, hv => by
    rcases List.mem_cons.mp hv with e | hv
    · exact ⟨_, List.mem_cons_self, e ▸ h⟩
    · obtain ⟨b, hb, q⟩ := EachIs.find t v hv
      exact ⟨b, List.mem_cons_of_mem _ hb, q⟩
theorem EachIs.len {R : Value → List Nat → Prop} : ∀ {vs : List Value} {bs : List (List Nat)}, EachIs R vs bs → vs.length = bs.length
  | _, _, .nil => rfl
  | _, _, .cons _ t => congrArg (· + 1) (EachIs.len t)
end
section
variable {X : Cx} {W : Wd} {Γ : List DV} {μ : Mu} {a : Expr} {p p2 q pos : Pos} {ws : List (List Nat)}
end
end HW
set_option maxHeartbeats 4000000
namespace HX
open PySem PySem.Spec PyProof.Rows L2 He
/-! the head's Hook with the model's own table of statics -/
def asS (g : Addr → Option Obj) (n : Nat) : List Addr := asD g n ++ [cStatics]
def obsS (n : Nat) (fa : List Fa) (fn : List DefD) (ex : PySem.W.Frag → Bool) (g : Addr → Option Obj) : AlE := (obsD fa fn (frG g (asS g n)), ex (frG g (asS g n)))
def hookS (n : Nat) (fa : List Fa) (fn : List DefD) (ex : PySem.W.Frag → Bool) : PySem.W.Hook where
  α := AlE
  obs := fun s => obsS n fa fn ex s.heap.get?
  val := fun _ => (valD fn, true)
  says := fun _ h => ∃ K : PySem.W.Frag, K.In h ∧ SaysD fa fn K ∧ ex K = true
  of := fun _ _ e => ⟨_, frG_in, congrArg (fun z : AlE => z.1) e, congrArg (fun z : AlE => z.2) e⟩
  keeps := fun _ _ _ ⟨K, hK, c⟩ k => ⟨K, PySem.W.Frag.In.keeps hK k, c⟩
theorem obsS_eq {n : Nat} {fa : List Fa} {fn : List DefD} {ex : PySem.W.Frag → Bool} {g : Addr → Option Obj} {s : Shared} (h : ∀ a, g a = s.heap.get? a) : obsS n fa fn ex g = (hookS n fa fn ex).obs s := by
  have e : g = s.heap.get? := funext h
  rw [e] <;> rfl
end HX
namespace HW
open PySem PySem.Spec PyProof.Rows L2
open SX (S)
/-! ### exception classes of the program -/
/-- the j-th statement of a class -/
def clsM (st : Stmt) (j : Nat) : Stmt := match st with
  | .ClassDef _ _ _ body _ _ _ _ _ _ _ => body.getD j (.Pass ⟨0, 0, 0, 0⟩)
  | s => s
def oexB (K : PySem.W.Frag) (C : Addr) : Bool := match K.lookup C with
  | some ⟨.type "type", _, .cls cd, sl⟩ => (match cd.mro, sl.toList with
    | .ref C' :: bm, [_, _, _, _, some (.builtin n), _] => C' == C && n == "ValueError.__new__" && !cd.hasDel && cd.hasDict && PySem.HandSPX.refsVE bm
    | _, _ => false)
  | _ => false
def exfB (x : Str) (K : PySem.W.Frag) : Bool := He.eqO (PySem.W.nsIn K mainGlobals x) (some (some (.ref (He.ga K x)))) && (oexB K (He.ga K x) && (He.eqO (PySem.W.findIn K (.ref (He.ga K x)) "__setattr__") (some (some (.builtin "object.__setattr__"))) && (decide (PySem.W.subIn K (.ref (He.ga K x)) (.type "BaseException") = some true) &&
  (decide (PySem.W.typeIn K (.ref (He.ga K x)) = some (.type "type")) && (PySem.W.keepIn K (.ref (He.ga K x)) && (He.eqO (PySem.W.findIn K (.ref (He.ga K x)) "__init__") (some (some (.ref (He.ma K (He.ga K x) "__init__")))) && (decide (PySem.W.typeIn K (.ref (He.ma K (He.ga K x) "__init__")) = some (.type "function")) && xfB K (He.ga K x))))))))
def baseB (x : Str) (K : PySem.W.Frag) : Bool := He.eqO (PySem.W.nsIn K mainGlobals x) (some (some (.ref (He.ga K x)))) && (PySem.W.readsIn K (He.ga K x) (.type "type") && (He.eqO (PySem.W.specialIn K (.ref (He.ga K x)) "__getattribute__") (some (some (.builtin "type.__getattribute__"))) &&
  (match PySem.W.findCls K (.ref (He.ga K x)) (.type "type") "__init__" with
    | some (.val (.builtin n)) => n == "ValueError.__init__"
    | _ => false)))
/-! ### Base.__init__(self, ..) -/
section
variable {X : Cx} {e : Expr} {es : List Expr} {ta : TA} {p1 p2 pos : Pos} {x : Str}
end
/-! ### the promises of __init__ -/
section
variable {P : Program} {w : World} {K : PySem.W.Frag} {mg : Str → Option Value} {base : Heap} {x qual : Str} {params : Arguments} {scope : Scope} {f : Addr} {fd : FuncData} {k : Nat} {C : Addr}
end
end HW
set_option maxHeartbeats 4000000
namespace HW
open PySem PySem.Spec PyProof.Rows L2
open SX (S)
/-! ### raise -/
/-- what an exception is known by: its class, its field -/
def XO (K : PySem.W.Frag) (L : List Addr) (H0 H' : Hp) (x : Str) (fo : Option (Str × PyData)) (cls : Value) (d : Option Addr) : Prop := cls = .ref (He.ga K x) ∧ Same H0 H' ∧ match fo with
  | none => d = none
  | some (f, y) => ∃ dd v, d = some dd ∧ H0 dd = none ∧ H' dd = some (.xd [(f, v)]) ∧ Va K (off L H') v y
/-- a def that raises -/
def spX (K : PySem.W.Frag) (R : List PyData → Str → Option (Str × PyData) → Prop) : Sp := fun vs H Q E => ∃ (L : List Addr) (ds : List PyData) (x : Str) (fo : Option (Str × PyData)), (∀ a ∈ L, NT H a) ∧ VaAll K (off L H) vs ds ∧ R ds x fo ∧ ∀ cls d H', XO K L H H' x fo cls d → E cls d H'
structure FdX (P : Program) (w : World) (K : PySem.W.Frag) (mg : Str → Option Value) (base : Heap) (k : Nat) (x : Str) (ps : List Str) (R : List PyData → Str → Option (Str × PyData) → Prop) : Prop where
  ex : ∃ (f : Addr) (fd : FuncData), FnOk P w K mg base (L2.CX P w) k f fd ps (spX K R) ∧ mg x = some (.ref f) ∧ PySem.W.keepIn K (.ref f) = true ∧ Binds K fd ps []
section
variable {X : Cx} {W : Wd} {Γ : List DV} {μ : Mu} {a : Expr} {rest : List Stmt} {D : Ends} {y : PyData} {x fld : Str} {k : Nat} {p pos pos2 : Pos} {W0 : WX}
end
section
variable {P : Program} {w : World} {K : PySem.W.Frag} {mg : Str → Option Value} {base : Heap} {x qual : Str} {params : Arguments} {body : List Stmt} {scope : Scope} {f : Addr} {fd : FuncData} {N ps : List Str} {k : Nat}
end
end HW
set_option maxHeartbeats 4000000
namespace HW
open PySem PySem.Spec PyProof.Rows L2
open SX (S)
/-! ### calls that raise, try -/
section
variable {X : Cx} {W : Wd} {Γ : List DV} {μ : Mu} {e : Expr} {es : List Expr} {rest : List Stmt} {D : Ends} {ds : List PyData} {x f : Str} {fo : Option (Str × PyData)} {ps : List Str} {k : Nat} {p pos : Pos} {W0 : WX} {R : List PyData → Str → Option (Str × PyData) → Prop}
end
/-! ### try: .. except x as n: m = e -/
section
variable {X : Cx} {W : Wd} {Γ : List DV} {μ : Mu} {rest body : List Stmt} {D : Ends} {x xr n nm : Str} {fo : Option (Str × PyData)} {np pos pos' q1 q2 : Pos} {e0 : Expr} {y0 : PyData} {W0 : WX}
/-- what is known of the exception in its suite -/
structure Caught (X : Cx) (W W1 : Wd) (Γ : List DV) (μ : Mu) (xr : Str) (fo : Option (Str × PyData)) (a : Addr) (oe : Obj) (cls : Value) (d : Option Addr) : Prop where
  le : Wle W W1
  z : Zc cls d oe
  fields : ∃ vs, oe.data = .fields vs
  cls : cls = .ref (He.ga X.K xr)
  fld : match fo with
    | none => d = none
    | some (f, y) => ∃ dd v, d = some dd ∧ (∀ σ H (Γ' : List DV) (μ' : Mu), Rep X.K W1 Γ' μ' σ H → H dd = some (.xd [(f, v)]) ∧ Va X.K (off (hd W1 μ') H) v y)
end
end HW
set_option maxHeartbeats 4000000
namespace HW
open PySem PySem.Spec PyProof.Rows L2
open SX (S)
/-! ### try: of all clauses, with `as` and without, the one that takes the exception -/
section
variable {X : Cx} {body : List Stmt} {h0 : ExceptHandler} {hds : List ExceptHandler} {pos : Pos} {tb : WX → TS} {cr : Value} {o : Option Nat} {b0 : Stmt} {st : List Stmt} {ts : Addr → Option Addr → TS}
end
/-! ### .. over a state of data -/
section
variable {X : Cx} {W : Wd} {Γ : List DV} {μ : Mu} {rest body : List Stmt} {D : Ends} {xr nm : Str} {fo : Option (Str × PyData)} {h0 : ExceptHandler} {hds : List ExceptHandler} {pos q1 q2 : Pos} {e0 : Expr} {y0 : PyData} {o : Option Nat}
end
/-! ### f(..), f any expression that gives a def -/
section
variable {X : Cx} {W : Wd} {Γ : List DV} {μ : Mu} {fe e : Expr} {es : List Expr} {ds : List PyData} {d : PyData} {x : Str} {ps : List Str} {k : Nat} {f : Addr} {fd : FuncData} {pos : Pos} {CX : CXT} {sp : Sp} {E : L2.St → XK} {t : TA} {tf : TE}
end
section
variable {X : Cx} {W : Wd} {Γ : List DV} {μ : Mu} {fe e : Expr} {es : List Expr} {ds : List PyData} {d : PyData} {x y : Str} {fo : Option (Str × PyData)} {ps : List Str} {k : Nat} {f : Addr} {pos : Pos} {W0 : WX}
theorem FdX.at {P : Program} {w : World} {K : PySem.W.Frag} {mg : Str → Option Value} {base : Heap} {R : List PyData → Str → Option (Str × PyData) → Prop} (F : FdX P w K mg base k x ps R) : ∃ f, mg x = some (.ref f) := by
  obtain ⟨f, _, _, h, _⟩ := F.ex
  exact ⟨f, h⟩
theorem Fd.at {P : Program} {w : World} {K : PySem.W.Frag} {mg : Str → Option Value} {base : Heap} {sp : Sp} (F : Fd P w K mg base k x ps sp) : ∃ f, mg x = some (.ref f) := by
  obtain ⟨f, _, _, h, _⟩ := F.ex
  exact ⟨f, h⟩
end
end HW
set_option maxHeartbeats 4000000
namespace HW
open PySem PySem.Spec PyProof.Rows L2
open SX (S)
/-! ### sets of tuples, whatever kind of key the items are (fewer than 64 of them) -/
section
variable {pr : Program} {wo : World} {κ : Type} [DecidableEq κ] {kd : PySem.KeyKind pr wo κ} {A : Around} {Er : Value → Shared → Prop} {st : Shared}
abbrev hT (kd : PySem.KeyKind pr wo κ) (ks : List κ) : Int := tupleKeyHash kd ks
/-! ### the set -/
def entL (kd : PySem.KeyKind pr wo κ) (L : List (Addr × List κ)) : List (Int × Value) := L.map fun p => (hT kd p.2, Value.ref p.1)
abbrev hsL (kd : PySem.KeyKind pr wo κ) (L : List (Addr × List κ)) : List Int := L.map fun p => hT kd p.2
structure TSet (kd : PySem.KeyKind pr wo κ) (h : Heap) (a : Addr) (L : List (Addr × List κ)) (es : Array (Int × Value)) (ep : Nat) (t : SetTable) : Prop where
  obj : ∃ o, h.get? a = some o ∧ o.ExactSet ∧ o.data = .set es ep t
  ents : es.toList = entL kd L
  tab : TabOk t (hsL kd L)
  uniq : (L.map (·.2)).Nodup
  keys : ∀ p ∈ L, IsTupleKey kd h p.2 p.1
  room : L.length * 5 < t.mask * 3
  few : L.length < 64
variable {a : Addr} {L : List (Addr × List κ)} {es : Array (Int × Value)} {ep : Nat} {t : SetTable}
theorem ent_len {es : Array (Int × Value)} {L : List (Addr × List κ)} (h : es.toList = entL kd L) : es.size = L.length := by
  have z := congrArg List.length h
  rw [Array.length_toList, entL, List.length_map] at z
  exact z
theorem fits_of {es : Array (Int × Value)} {t : SetTable} (h1 : t.place.size = es.size) (h2 : t.dummies = #[]) (h3 : es.size ≤ t.mask) : t.fits es.size = true := by
  rw [SetTable.fits, SetTable.fill, h2, Bool.and_eq_true, beq_iff_eq, decide_eq_true_eq]
  exact ⟨h1, by show t.place.size + 0 ≤ t.mask; omega⟩
theorem TSet.size (R : TSet kd st.heap a L es ep t) : es.size = L.length := ent_len R.ents
theorem TSet.plen (R : TSet kd st.heap a L es ep t) : t.place.size = L.length := by rw [R.tab.sz, List.length_map]
theorem TSet.fits (R : TSet kd st.heap a L es ep t) : t.fits es.size = true := by
  have h1 := R.plen
  have h2 := R.size
  have h3 := R.room
  exact fits_of (by omega) R.tab.dm (by omega)
end
section
variable {pr : Program} {wo : World} {κ : Type} [DecidableEq κ] {kd : PySem.KeyKind pr wo κ} {A : Around} {Er : Value → Shared → Prop} {st : Shared} {a : Addr} {L : List (Addr × List κ)} {es : Array (Int × Value)} {ep : Nat} {t : SetTable}
end
section
variable {pr : Program} {wo : World} {κ : Type} [DecidableEq κ] {kd : PySem.KeyKind pr wo κ} {A : Around} {Er : Value → Shared → Prop} {st : Shared}
end
/-! ### len(set(xs)), xs a list of fewer than 64 tuples of texts -/
section
variable {X : Cx} {W : Wd} {Γ : List DV} {μ : Mu} {a : Expr} {p p2 q pos : Pos} {ts : List (List (List Nat))}
end
end HW
set_option maxHeartbeats 4000000
namespace HW
open PySem PySem.Spec PyProof.Rows L2
open SX (S)
/-! ### expressions that change or make local objects -/
def EvM (X : Cx) (W : Wd) (Γ : List DV) (μ : Mu) (e : Expr) (P : PyData → Mu → Prop) : Prop := ∀ σ H, Rep X.K W Γ μ σ H → ∀ Q : VK, (∀ v d μ' H2, Rep X.K W Γ μ' σ H2 → Same (off (hd W μ) H) (off (hd W μ') H2) → Va X.K (off (hd W μ') H2) v d → P d μ' → Q v H2) → wE X e σ H Q
def EvAM (X : Cx) (W : Wd) (Γ : List DV) (μ : Mu) (es : List Expr) (P : List PyData → Mu → Prop) : Prop := ∀ σ H, Rep X.K W Γ μ σ H → ∀ Q : List V → Hp → Prop, (∀ vs ds μ' H2, Rep X.K W Γ μ' σ H2 → Same (off (hd W μ) H) (off (hd W μ') H2) → VaAll X.K (off (hd W μ') H2) vs ds → P ds μ' → Q vs H2) → wA X es σ H Q
def EvTM (X : Cx) (W : Wd) (Γ : List DV) (μ : Mu) (e : Expr) (P : Bool → Mu → Prop) : Prop := ∀ σ H, Rep X.K W Γ μ σ H → ∀ Q : Bool → Hp → Prop, (∀ b μ' H2, Rep X.K W Γ μ' σ H2 → Same (off (hd W μ) H) (off (hd W μ') H2) → P b μ' → Q b H2) → wT X e σ H Q
def EvWM (X : Cx) (W : Wd) (Γ : List DV) (μ : Mu) (e : Expr) (P : Bool → Mu → Prop) : Prop := ∀ σ H, Rep X.K W Γ μ σ H → ∀ Q : Bool → Hp → Prop, (∀ b μ' H2, Rep X.K W Γ μ' σ H2 → Same (off (hd W μ) H) (off (hd W μ') H2) → P b μ' → Q b H2) → wW X e σ H Q
section
variable {X : Cx} {W W0 : Wd} {Γ : List DV} {μ : Mu} {e a b : Expr} {es : List Expr} {rest : List Stmt} {D : Ends} {pos p p1 p2 p3 : Pos} {n n1 n2 n3 : Str} {P A : PyData → Mu → Prop} {l : Addr}
theorem Ev.m {Q : PyData → Prop} (h : Ev X W Γ μ e Q) : EvM X W Γ μ e (fun d μ' => Q d ∧ μ' = μ) := fun σ H R q k => h σ H R q fun v d H2 R2 e2 r p => k v d μ H2 R2 e2 r ⟨p, rfl⟩
theorem Ed.m {d : PyData} (h : Ed X W Γ μ e d) : EvM X W Γ μ e (fun z μ' => z = d ∧ μ' = μ) := Ev.m h.ev
theorem EvM.imp (h : EvM X W Γ μ e A) (i : ∀ d μ', A d μ' → P d μ') : EvM X W Γ μ e P := fun σ H R q k => h σ H R q fun v d μ' H2 R2 e2 r p => k v d μ' H2 R2 e2 r (i d μ' p)
/-- where the local objects stay as they are -/
theorem EvM.ev {Q : PyData → Prop} (h : EvM X W Γ μ e (fun d μ' => Q d ∧ μ' = μ)) : Ev X W Γ μ e Q := fun σ H R q k => h σ H R q fun v d μ' H2 R2 e2 r ⟨p, eq⟩ => by
  subst eq
  exact k v d H2 R2 e2 r p
theorem EvT.m {Q : Bool → Prop} (h : EvT X W Γ μ e Q) : EvTM X W Γ μ e (fun d μ' => Q d ∧ μ' = μ) := fun σ H R q k => h σ H R q fun b H2 R2 e2 p => k b μ H2 R2 e2 ⟨p, rfl⟩
theorem EdT.m {k : Bool} (h : EdT X W Γ μ e k) : EvTM X W Γ μ e (fun z μ' => z = k ∧ μ' = μ) := EvT.m (h.ev (P := fun z => z = k) rfl)
theorem EvTM.imp {P A : Bool → Mu → Prop} (h : EvTM X W Γ μ e A) (i : ∀ d μ', A d μ' → P d μ') : EvTM X W Γ μ e P := fun σ H R q k => h σ H R q fun b μ' H2 R2 e2 p => k b μ' H2 R2 e2 (i b μ' p)
theorem EvAM.imp {P A : List PyData → Mu → Prop} (h : EvAM X W Γ μ es A) (i : ∀ d μ', A d μ' → P d μ') : EvAM X W Γ μ es P := fun σ H R q k => h σ H R q fun v d μ' H2 R2 e2 r p => k v d μ' H2 R2 e2 r (i d μ' p)
theorem EvWM.t {P : Bool → Mu → Prop} (h : EvWM X W Γ μ e P) : EvTM X W Γ μ e P := fun σ H R q k => wW.pw.pt.w (h σ H R q k)
end
end HW
set_option maxHeartbeats 4000000
namespace HW
open PySem PySem.Spec PyProof.Rows L2
open SX (S)
/-! ### instances of a class of the program -/
abbrev FvR (K : PySem.W.Frag) (H : Hp) (gs : List (Str × V)) (fs : List (Str × PyData)) : Prop := Paired (fun (p : Str × V) (q : Str × PyData) => p.1 = q.1 ∧ Va K H p.2 q.2) gs fs
section
variable {K : PySem.W.Frag} {H H' : Hp} {gs : List (Str × V)} {fs : List (Str × PyData)}
theorem FvR.up (e : Same H H') (h : FvR K H gs fs) : FvR K H' gs fs := pmp h fun _ _ z => ⟨z.1, z.2.up e⟩
end
section
variable {P : Program} {w : World} {K : PySem.W.Frag} {mg : Str → Option Value} {base : Heap} {x qual : Str} {params : Arguments} {body : List Stmt} {scope : Scope} {f : Addr} {fd : FuncData} {N ps : List Str} {k : Nat}
end
section
variable {X : Cx} {W W0 : Wd} {Γ : List DV} {μ : Mu} {e value : Expr} {es : List Expr} {rest : List Stmt} {D : Ends} {pos p p1 p2 pos' apos : Pos} {n m fn : Str} {a C : Addr} {fs : List (Str × PyData)} {ds : List PyData} {d : PyData} {k : Nat} {ps : List Str}
end
end HW
set_option maxHeartbeats 4000000
namespace HW
open PySem PySem.Spec PyProof.Rows L2
open SX (S)
/-! ### isinstance of a caught exception, with or without a dict -/
/-- the exception's dict, where it has one -/
def DxOk (d : Option Addr) (H : Hp) : Prop := d = none ∨ ∃ dd fs, d = some dd ∧ H dd = some (.xd fs)
section
variable {X : Cx} {a D : Addr} {oe : Obj} {pn : List (Addr × Obj)} {d : Option Addr}
end
section
variable {X : Cx} {W W1 : Wd} {Γ Γ' : List DV} {μ : Mu} {xr c c1 c2 n : Str} {fo : Option (Str × PyData)} {a : Addr} {oe : Obj} {pn : List (Addr × Obj)} {cls : Value} {d : Option Addr} {pos p q1 q2 q3 pt : Pos} {b : Bool}
theorem Caught.dx {X : Cx} {W W1 : Wd} {Γ Γ' : List DV} {μ μ' : Mu} {xr : Str} {fo : Option (Str × PyData)} {a : Addr} {oe : Obj} {cls : Value} {d : Option Addr} {σ : L2.St} {H : Hp} (c : Caught X W W1 Γ μ xr fo a oe cls d) (R : Rep X.K W1 Γ' μ' σ H) : DxOk d H := by
  have h := c.fld
  cases fo with
  | none => exact .inl h
  | some fy =>
    obtain ⟨dd, v, e1, e2⟩ := h
    exact .inr ⟨dd, _, e1, (e2 σ H Γ' μ' R).1⟩
end
end HW
set_option maxHeartbeats 4000000
namespace HW
open PySem PySem.Spec PyProof.Rows L2
open SX (S)
/-! ### rows of looks in any order: the levels -/
abbrev Lk := List (List Nat)
abbrev Lv := List (List Nat × List Lk)
/-- no empty ones -/
def fullL (L : Lv) : Prop := ∀ q ∈ L, q.2 ≠ []
/-- how many -/
def numL (L : Lv) : Nat := (L.map fun q => q.2.length).sum
theorem len_num {L : Lv} (h : fullL L) : L.length ≤ numL L := by
  unfold numL
  induction L with
  | nil => simp
  | cons q L ih =>
    have h1 := h q List.mem_cons_self
    have h2 := ih fun y hy => h y (List.mem_cons_of_mem _ hy)
    rw [List.length_cons, List.map_cons, List.sum_cons]
    have : 1 ≤ q.2.length := by
      cases e : q.2 with
      | nil => exact absurd e h1
      | cons a l => simp
    omega
/-! ### all orders -/
end HW
set_option maxHeartbeats 4000000
namespace HW
open PySem PySem.Spec PyProof.Rows L2
open SX (S)
open PySem.W (dataLt AlikeAll AllAlike Sortable EachIs dataLe alike)
/-! ### list(text) -/
/-! ### turns whose local objects are known by a fact -/
section
variable {X : Cx} {W : Wd} {Γ Γ' : List DV} {μ : Mu} {α : Type} {iter : Expr} {body rest : List Stmt} {pos p : Pos} {enc : α → PyData} {D : Ends} {n : Str}
end
/-! ### how many, on the way -/
structure PartOk (L : Lv) (c : Nat) : Prop where
  nd : (L.map (·.1)).Nodup
  full : fullL L
  num : numL L ≤ c
theorem PartOk.len {L : Lv} {c : Nat} (h : PartOk L c) : L.length ≤ c := Nat.le_trans (len_num h.full) h.num
/-! ### the words of law 17 -/
/-! ### what rows agree in -/
/-! ### the law's dict -/
section
variable {X : Cx} {W : Wd} {Γ : List DV} {μ : Mu} {pos p p2 : Pos} {n : Str} {a : Addr} {ws : List (List Nat)}
end
end HW
set_option maxHeartbeats 0
namespace Tx
open PySem PySem.Spec PyProof.Rows L2
def top (i : Nat) : Stmt := PySem.Challenge.pw_holedwindows_k24_known_windows.main.body.getD i (.Pass ⟨0, 0, 0, 0⟩)
abbrev s__wall : Stmt := top 0
abbrev s_is_from : Stmt := top 18
abbrev s_is_mask : Stmt := top 19
abbrev s_need_mask : Stmt := top 20
abbrev s_is_row : Stmt := top 21
abbrev s_need_row : Stmt := top 22
abbrev s_need_letters : Stmt := top 23
abbrev s_seen_by : Stmt := top 24
abbrev s_seen : Stmt := top 25
abbrev s_all_masks : Stmt := top 26
abbrev s_together : Stmt := top 27
abbrev s_view_by : Stmt := top 30
abbrev s_views_of : Stmt := top 31
abbrev s_views : Stmt := top 32
abbrev s_tells_by : Stmt := top 33
abbrev s_tells : Stmt := top 34
abbrev s_alike : Stmt := top 35
abbrev s_groups : Stmt := top 36
abbrev s_unlike : Stmt := top 37
abbrev s_distance_of : Stmt := top 38
abbrev s_distance : Stmt := top 39
abbrev s_stands : Stmt := top 40
abbrev s_need_small : Stmt := top 44
abbrev s_longer : Stmt := top 45
abbrev s_levels_of : Stmt := top 46
abbrev s_longest : Stmt := top 47
abbrev s_longest_rows : Stmt := top 48
abbrev s_count_rows : Stmt := top 49
abbrev s_need_row_in : Stmt := top 50
abbrev s_next_letters : Stmt := top 51
abbrev s_farthest : Stmt := top 52
abbrev s_best_masks : Stmt := top 55
abbrev s_least_masks : Stmt := top 56
abbrev s_is_view : Stmt := top 59
abbrev s_misses : Stmt := top 60
abbrev s_find : Stmt := top 61
abbrev s_near : Stmt := top 62
abbrev s_steps_needed : Stmt := top 63
abbrev s_need_views : Stmt := top 66
abbrev s_laid : Stmt := top 67
abbrev s_clash_of : Stmt := top 68
abbrev s_joined : Stmt := top 69
abbrev s_first_clash : Stmt := top 70
abbrev s_orders_of : Stmt := top 71
abbrev s_rows_from : Stmt := top 72
abbrev s_sure_from : Stmt := top 73
abbrev s_mend : Stmt := top 76
abbrev s_weak_letters : Stmt := top 77
abbrev s_need_ring : Stmt := top 79
abbrev s_ring_views_of : Stmt := top 80
abbrev s_ring_views : Stmt := top 81
abbrev s_ring_tells : Stmt := top 82
abbrev s_all_rings : Stmt := top 83
abbrev s_power : Stmt := top 84
abbrev s_longest_ring : Stmt := top 85
abbrev s_full_rings : Stmt := top 86
abbrev s__law_taken : Stmt := top 90
abbrev s__law_turned : Stmt := top 91
abbrev s__law_viewed : Stmt := top 92
abbrev s__law_long : Stmt := top 93
abbrev s__law_joined : Stmt := top 94
abbrev s_law : Stmt := top 95
def d__wall : He.DefD := ⟨("_wall", none), "_wall", "_wall", defArgs s__wall, defBody s__wall, defScope s__wall, [], []⟩
def d_is_from : He.DefD := ⟨("is_from", none), "is_from", "is_from", defArgs s_is_from, defBody s_is_from, defScope s_is_from, [], []⟩
def d_is_mask : He.DefD := ⟨("is_mask", none), "is_mask", "is_mask", defArgs s_is_mask, defBody s_is_mask, defScope s_is_mask, [], []⟩
def d_need_mask : He.DefD := ⟨("need_mask", none), "need_mask", "need_mask", defArgs s_need_mask, defBody s_need_mask, defScope s_need_mask, [], []⟩
def d_is_row : He.DefD := ⟨("is_row", none), "is_row", "is_row", defArgs s_is_row, defBody s_is_row, defScope s_is_row, [], []⟩
def d_need_row : He.DefD := ⟨("need_row", none), "need_row", "need_row", defArgs s_need_row, defBody s_need_row, defScope s_need_row, [], []⟩
def d_need_letters : He.DefD := ⟨("need_letters", none), "need_letters", "need_letters", defArgs s_need_letters, defBody s_need_letters, defScope s_need_letters, [], []⟩
def d_seen_by : He.DefD := ⟨("seen_by", none), "seen_by", "seen_by", defArgs s_seen_by, defBody s_seen_by, defScope s_seen_by, [], []⟩
def d_seen : He.DefD := ⟨("seen", none), "seen", "seen", defArgs s_seen, defBody s_seen, defScope s_seen, [], []⟩
def d_all_masks : He.DefD := ⟨("all_masks", none), "all_masks", "all_masks", defArgs s_all_masks, defBody s_all_masks, defScope s_all_masks, [], []⟩
def d_together : He.DefD := ⟨("together", none), "together", "together", defArgs s_together, defBody s_together, defScope s_together, [], []⟩
def d_view_by : He.DefD := ⟨("view_by", none), "view_by", "view_by", defArgs s_view_by, defBody s_view_by, defScope s_view_by, [], []⟩
def d_views_of : He.DefD := ⟨("views_of", none), "views_of", "views_of", defArgs s_views_of, defBody s_views_of, defScope s_views_of, [], []⟩
def d_views : He.DefD := ⟨("views", none), "views", "views", defArgs s_views, defBody s_views, defScope s_views, [], []⟩
def d_tells_by : He.DefD := ⟨("tells_by", none), "tells_by", "tells_by", defArgs s_tells_by, defBody s_tells_by, defScope s_tells_by, [], []⟩
def d_tells : He.DefD := ⟨("tells", none), "tells", "tells", defArgs s_tells, defBody s_tells, defScope s_tells, [], []⟩
def d_alike : He.DefD := ⟨("alike", none), "alike", "alike", defArgs s_alike, defBody s_alike, defScope s_alike, [], []⟩
def d_groups : He.DefD := ⟨("groups", none), "groups", "groups", defArgs s_groups, defBody s_groups, defScope s_groups, [], []⟩
def d_unlike : He.DefD := ⟨("unlike", none), "unlike", "unlike", defArgs s_unlike, defBody s_unlike, defScope s_unlike, [], []⟩
def d_distance_of : He.DefD := ⟨("distance_of", none), "distance_of", "distance_of", defArgs s_distance_of, defBody s_distance_of, defScope s_distance_of, [], []⟩
def d_distance : He.DefD := ⟨("distance", none), "distance", "distance", defArgs s_distance, defBody s_distance, defScope s_distance, [], []⟩
def d_stands : He.DefD := ⟨("stands", none), "stands", "stands", defArgs s_stands, defBody s_stands, defScope s_stands, [], []⟩
def d_need_small : He.DefD := ⟨("need_small", none), "need_small", "need_small", defArgs s_need_small, defBody s_need_small, defScope s_need_small, [], []⟩
def d_longer : He.DefD := ⟨("longer", none), "longer", "longer", defArgs s_longer, defBody s_longer, defScope s_longer, [], []⟩
def d_levels_of : He.DefD := ⟨("levels_of", none), "levels_of", "levels_of", defArgs s_levels_of, defBody s_levels_of, defScope s_levels_of, [], []⟩
def d_longest : He.DefD := ⟨("longest", none), "longest", "longest", defArgs s_longest, defBody s_longest, defScope s_longest, [], []⟩
def d_longest_rows : He.DefD := ⟨("longest_rows", none), "longest_rows", "longest_rows", defArgs s_longest_rows, defBody s_longest_rows, defScope s_longest_rows, [], []⟩
def d_count_rows : He.DefD := ⟨("count_rows", none), "count_rows", "count_rows", defArgs s_count_rows, defBody s_count_rows, defScope s_count_rows, [], []⟩
def d_need_row_in : He.DefD := ⟨("need_row_in", none), "need_row_in", "need_row_in", defArgs s_need_row_in, defBody s_need_row_in, defScope s_need_row_in, [], []⟩
def d_next_letters : He.DefD := ⟨("next_letters", none), "next_letters", "next_letters", defArgs s_next_letters, defBody s_next_letters, defScope s_next_letters, [], []⟩
def d_farthest : He.DefD := ⟨("farthest", none), "farthest", "farthest", defArgs s_farthest, defBody s_farthest, defScope s_farthest, [], []⟩
def d_best_masks : He.DefD := ⟨("best_masks", none), "best_masks", "best_masks", defArgs s_best_masks, defBody s_best_masks, defScope s_best_masks, [], []⟩
def d_least_masks : He.DefD := ⟨("least_masks", none), "least_masks", "least_masks", defArgs s_least_masks, defBody s_least_masks, defScope s_least_masks, [], []⟩
def d_is_view : He.DefD := ⟨("is_view", none), "is_view", "is_view", defArgs s_is_view, defBody s_is_view, defScope s_is_view, [], []⟩
def d_misses : He.DefD := ⟨("misses", none), "misses", "misses", defArgs s_misses, defBody s_misses, defScope s_misses, [], []⟩
def d_find : He.DefD := ⟨("find", none), "find", "find", defArgs s_find, defBody s_find, defScope s_find, [], []⟩
def d_near : He.DefD := ⟨("near", none), "near", "near", defArgs s_near, defBody s_near, defScope s_near, [], []⟩
def d_steps_needed : He.DefD := ⟨("steps_needed", none), "steps_needed", "steps_needed", defArgs s_steps_needed, defBody s_steps_needed, defScope s_steps_needed, [], []⟩
def d_need_views : He.DefD := ⟨("need_views", none), "need_views", "need_views", defArgs s_need_views, defBody s_need_views, defScope s_need_views, [], []⟩
def d_laid : He.DefD := ⟨("laid", none), "laid", "laid", defArgs s_laid, defBody s_laid, defScope s_laid, [], []⟩
def d_clash_of : He.DefD := ⟨("clash_of", none), "clash_of", "clash_of", defArgs s_clash_of, defBody s_clash_of, defScope s_clash_of, [], []⟩
def d_joined : He.DefD := ⟨("joined", none), "joined", "joined", defArgs s_joined, defBody s_joined, defScope s_joined, [], []⟩
def d_first_clash : He.DefD := ⟨("first_clash", none), "first_clash", "first_clash", defArgs s_first_clash, defBody s_first_clash, defScope s_first_clash, [], []⟩
def d_orders_of : He.DefD := ⟨("orders_of", none), "orders_of", "orders_of", defArgs s_orders_of, defBody s_orders_of, defScope s_orders_of, [], []⟩
def d_rows_from : He.DefD := ⟨("rows_from", none), "rows_from", "rows_from", defArgs s_rows_from, defBody s_rows_from, defScope s_rows_from, [], []⟩
def d_sure_from : He.DefD := ⟨("sure_from", none), "sure_from", "sure_from", defArgs s_sure_from, defBody s_sure_from, defScope s_sure_from, [], []⟩
def d_mend : He.DefD := ⟨("mend", none), "mend", "mend", defArgs s_mend, defBody s_mend, defScope s_mend, [], []⟩
def d_weak_letters : He.DefD := ⟨("weak_letters", none), "weak_letters", "weak_letters", defArgs s_weak_letters, defBody s_weak_letters, defScope s_weak_letters, [], []⟩
def d_need_ring : He.DefD := ⟨("need_ring", none), "need_ring", "need_ring", defArgs s_need_ring, defBody s_need_ring, defScope s_need_ring, [], []⟩
def d_ring_views_of : He.DefD := ⟨("ring_views_of", none), "ring_views_of", "ring_views_of", defArgs s_ring_views_of, defBody s_ring_views_of, defScope s_ring_views_of, [], []⟩
def d_ring_views : He.DefD := ⟨("ring_views", none), "ring_views", "ring_views", defArgs s_ring_views, defBody s_ring_views, defScope s_ring_views, [], []⟩
def d_ring_tells : He.DefD := ⟨("ring_tells", none), "ring_tells", "ring_tells", defArgs s_ring_tells, defBody s_ring_tells, defScope s_ring_tells, [], []⟩
def d_all_rings : He.DefD := ⟨("all_rings", none), "all_rings", "all_rings", defArgs s_all_rings, defBody s_all_rings, defScope s_all_rings, [], []⟩
def d_power : He.DefD := ⟨("power", none), "power", "power", defArgs s_power, defBody s_power, defScope s_power, [], []⟩
def d_longest_ring : He.DefD := ⟨("longest_ring", none), "longest_ring", "longest_ring", defArgs s_longest_ring, defBody s_longest_ring, defScope s_longest_ring, [], []⟩
def d_full_rings : He.DefD := ⟨("full_rings", none), "full_rings", "full_rings", defArgs s_full_rings, defBody s_full_rings, defScope s_full_rings, [], []⟩
def d__law_taken : He.DefD := ⟨("_law_taken", none), "_law_taken", "_law_taken", defArgs s__law_taken, defBody s__law_taken, defScope s__law_taken, [], []⟩
def d__law_turned : He.DefD := ⟨("_law_turned", none), "_law_turned", "_law_turned", defArgs s__law_turned, defBody s__law_turned, defScope s__law_turned, [], []⟩
def d__law_viewed : He.DefD := ⟨("_law_viewed", none), "_law_viewed", "_law_viewed", defArgs s__law_viewed, defBody s__law_viewed, defScope s__law_viewed, [], []⟩
def d__law_long : He.DefD := ⟨("_law_long", none), "_law_long", "_law_long", defArgs s__law_long, defBody s__law_long, defScope s__law_long, [], []⟩
def d__law_joined : He.DefD := ⟨("_law_joined", none), "_law_joined", "_law_joined", defArgs s__law_joined, defBody s__law_joined, defScope s__law_joined, [], []⟩
def d_law : He.DefD := ⟨("law", none), "law", "law", defArgs s_law, defBody s_law, defScope s_law, [], []⟩
abbrev m_BadView : Stmt := HW.clsM (top 5) 0
def i_BadView : He.DefD := ⟨("BadView", some "__init__"), "__init__", "BadView.__init__", defArgs m_BadView, defBody m_BadView, defScope m_BadView, [], []⟩
abbrev mm_Tracker___init__ : Stmt := HW.clsM (top 88) 0
def im_Tracker___init__ : He.DefD := ⟨("Tracker", some "__init__"), "__init__", "Tracker.__init__", defArgs mm_Tracker___init__, defBody mm_Tracker___init__, defScope mm_Tracker___init__, [], []⟩
abbrev mm_Tracker_starts : Stmt := HW.clsM (top 88) 4
def im_Tracker_starts : He.DefD := ⟨("Tracker", some "starts"), "starts", "Tracker.starts", defArgs mm_Tracker_starts, defBody mm_Tracker_starts, defScope mm_Tracker_starts, [], []⟩
abbrev mm_Tracker_places : Stmt := HW.clsM (top 88) 5
def im_Tracker_places : He.DefD := ⟨("Tracker", some "places"), "places", "Tracker.places", defArgs mm_Tracker_places, defBody mm_Tracker_places, defScope mm_Tracker_places, [], []⟩
abbrev mm_Tracker_see : Stmt := HW.clsM (top 88) 6
def im_Tracker_see : He.DefD := ⟨("Tracker", some "see"), "see", "Tracker.see", defArgs mm_Tracker_see, defBody mm_Tracker_see, defScope mm_Tracker_see, [], []⟩
abbrev mm_Tracker_undo : Stmt := HW.clsM (top 88) 7
def im_Tracker_undo : He.DefD := ⟨("Tracker", some "undo"), "undo", "Tracker.undo", defArgs mm_Tracker_undo, defBody mm_Tracker_undo, defScope mm_Tracker_undo, [], []⟩
abbrev mm_Tracker___len__ : Stmt := HW.clsM (top 88) 9
def im_Tracker___len__ : He.DefD := ⟨("Tracker", some "__len__"), "__len__", "Tracker.__len__", defArgs mm_Tracker___len__, defBody mm_Tracker___len__, defScope mm_Tracker___len__, [], []⟩
def fn0 : List He.DefD := [d__wall, d_is_from, d_is_mask, d_need_mask, d_is_row, d_need_row, d_need_letters, d_seen_by, d_seen, d_all_masks, d_together, d_view_by, d_views_of, d_views, d_tells_by, d_tells, d_alike, d_groups, d_unlike, d_distance_of, d_distance, d_stands, d_need_small, d_longer, d_levels_of]
def fn1 : List He.DefD := [d_longest, d_longest_rows, d_count_rows, d_need_row_in, d_next_letters, d_farthest, d_best_masks, d_least_masks, d_is_view, d_misses, d_find, d_near, d_steps_needed, d_need_views, d_laid, d_clash_of, d_joined, d_first_clash, d_orders_of, d_rows_from, d_sure_from, d_mend, d_weak_letters, d_need_ring, d_ring_views_of]
def fn2 : List He.DefD := [d_ring_views, d_ring_tells, d_all_rings, d_power, d_longest_ring, d_full_rings, d__law_taken, d__law_turned, d__law_viewed, d__law_long, d__law_joined, d_law, i_BadView, im_Tracker___init__, im_Tracker_starts, im_Tracker_places, im_Tracker_see, im_Tracker_undo, im_Tracker___len__]
def fn : List He.DefD := fn0 ++ fn1 ++ fn2
def fa0 : List He.Fa := [.glo "_wall", .glo "is_from", .glo "is_mask", .glo "need_mask", .glo "is_row", .glo "need_row", .glo "need_letters", .glo "seen_by", .glo "seen", .glo "all_masks", .glo "together", .glo "view_by", .glo "views_of", .glo "views", .glo "tells_by", .glo "tells", .glo "alike", .glo "groups", .glo "unlike", .glo "distance_of", .glo "distance", .glo "stands", .glo "need_small", .glo "longer", .glo "levels_of"]
def fa1 : List He.Fa := [.glo "longest", .glo "longest_rows", .glo "count_rows", .glo "need_row_in", .glo "next_letters", .glo "farthest", .glo "best_masks", .glo "least_masks", .glo "is_view", .glo "misses", .glo "find", .glo "near", .glo "steps_needed", .glo "need_views", .glo "laid", .glo "clash_of", .glo "joined", .glo "first_clash", .glo "orders_of", .glo "rows_from", .glo "sure_from", .glo "mend", .glo "weak_letters", .glo "need_ring", .glo "ring_views_of"]
def fa2 : List He.Fa := [.glo "ring_views", .glo "ring_tells", .glo "all_rings", .glo "power", .glo "longest_ring", .glo "full_rings", .glo "_law_taken", .glo "_law_turned", .glo "_law_viewed", .glo "_law_long", .glo "_law_joined", .glo "law", .free "all", .free "bool", .free "enumerate", .free "int", .free "isinstance", .free "len", .free "list", .free "max", .free "min", .free "property", .free "range", .free "set", .free "sorted"]
def fa3 : List He.Fa := [.free "str", .free "tuple", .free "zip", .free "any", .free "dict", .free "abs", .free "sum", .glo "Tracker", .cls "Tracker", .mkr "Tracker", .meth "Tracker" "starts", .meth "Tracker" "places", .meth "Tracker" "see", .meth "Tracker" "undo", .meth "Tracker" "__len__", .noat "Tracker" "line", .noat "Tracker" "shape", .noat "Tracker" "told", .noat "Tracker" "stood", .str "SEEN" "x", .str "HOLE" ".", .str "LETTERS" "abcd", .int "MOST_MASK" 12, .int "MOST_ROW" 60, .int "MOST_WRONG" 12]
def fa4 : List He.Fa := [.int "MOST_ASKED" 9, .str "OPEN" "?", .int "MOST_VIEWS" 7, .int "MOST_MENDED" 8]
def fa : List He.Fa := fa0 ++ fa1 ++ fa2 ++ fa3 ++ fa4
def names0 : List PySem.Str := ["__name__", "SEEN", "HOLE", "LETTERS", "MOST_MASK", "MOST_ROW", "MOST_WRONG", "MOST_WIDTHS", "MOST_SEEN", "MOST_ASKED", "OPEN", "MOST_VIEWS", "MOST_MENDED", "WindowError", "BadMask", "BadRow", "BadView", "BadViews", "BadLetters", "BadNumber", "TooGreat", "TooLong", "TooMany", "Tracker", "_wall"]
def names1 : List PySem.Str := ["is_from", "is_mask", "need_mask", "is_row", "need_row", "need_letters", "seen_by", "seen", "all_masks", "together", "view_by", "views_of", "views", "tells_by", "tells", "alike", "groups", "unlike", "distance_of", "distance", "stands", "need_small", "longer", "levels_of", "longest"]
def names2 : List PySem.Str := ["longest_rows", "count_rows", "need_row_in", "next_letters", "farthest", "best_masks", "least_masks", "is_view", "misses", "find", "near", "steps_needed", "need_views", "laid", "clash_of", "joined", "first_clash", "orders_of", "rows_from", "sure_from", "mend", "weak_letters", "need_ring", "ring_views_of", "ring_views"]
def names3 : List PySem.Str := ["ring_tells", "all_rings", "power", "longest_ring", "full_rings", "_law_taken", "_law_turned", "_law_viewed", "_law_long", "_law_joined"]
def names : List PySem.Str := names0 ++ names1 ++ names2 ++ names3
abbrev R : PySem.W.OpenRow := PySem.W.OpenLaw.row PySem.Challenge.rw_holedwindows_k24_known_windows
def ex (K : PySem.W.Frag) : Bool := HW.exfB "BadView" K && HW.baseB "WindowError" K && HX.tupI "MOST_WIDTHS" [12, 8, 5, 4] K && HX.tupI "MOST_SEEN" [12, 4, 2, 1] K && true
abbrev hk : PySem.W.Hook := HX.hookS 4 fa fn ex
def ob (s : PySem.W.SharedT) : HX.AlE := HX.obsS 4 fa fn ex (HandSHeadRun.getT s)
theorem ob_eq (s : PySem.W.SharedT) : ob s = hk.obs s.abs := HX.obsS_eq (HandSHeadRun.getT_eq s)
theorem run (w : World) : HandSHeadRun.RunEq R (PySem.W.view R.prog [95]) hk ob 9000 names w := by
  intro os
  kernel_rfl
end Tx
set_option maxHeartbeats 4000000
namespace HX
open PySem PySem.Spec PyProof.Rows L2 He
/-! the head's Hook with one more question ex -/
theorem vals_intV : ∀ {us : List Value} {ns : List Int}, us.map intV = ns.map some → Vals (ns.map V.int) us
  | [], [], _ => .nil
  | [], _ :: _, h => nomatch h
  | _ :: _, [], h => nomatch h
  | u :: us, n :: ns, h => by
    rw [List.map_cons, List.map_cons] at h
    have h1 := (List.cons.inj h).1
    have h2 := (List.cons.inj h).2
    refine .cons ?_ (vals_intV h2)
    cases u with
    | int i t =>
      have e : i = n := Option.some.inj h1
      subst e
      exact ⟨t, rfl⟩
    | _ => cases h1
abbrev gTup (K : PySem.W.Frag) (mg : Str → Option Value) (x : Str) (ns : List Int) : Prop := ∃ a, mg x = some (.ref a) ∧ ∀ H : Hp, SqT K H a (ns.map V.int)
theorem tupI_ok {K : PySem.W.Frag} {h : Heap} {mg : Str → Option Value} {x : Str} {ns : List Int} (X : K.In h) (G : h.Ns mainGlobals mg) (c : tupI x ns K = true) : gTup K mg x ns := by
  unfold tupI at c
  cases e : PySem.W.nsIn K mainGlobals x with
  | none => rw [e] at c; cases c
  | some o =>
    cases o with
    | none => rw [e] at c; cases c
    | some v =>
      cases v with
      | ref a =>
        rw [e] at c
        refine ⟨a, PySem.W.mg_of X G e, fun H => ?_⟩
        cases q : K.lookup a with
        | none =>
          simp only [q] at c
          cases c
        | some ob =>
          simp only [q] at c
          obtain ⟨cls, dd, dt, sl⟩ := ob
          cases cls with
          | type T =>
            cases dt with
            | seq its n =>
              simp only [Bool.and_eq_true, decide_eq_true_eq] at c
              obtain ⟨⟨c1, c2⟩, c3⟩ := c
              subst c1
              exact .inr ⟨_, its, n, q, rfl, rfl, Nat.le_trans c3 (by decide), vals_intV c2⟩
            | _ => cases c
          | _ => cases c
      | _ => rw [e] at c; cases c
end HX
set_option maxHeartbeats 4000000
/-! A layer of my own over HandS: expressions that evaluate to plain data, statements over a state of data. -/
namespace HW
open PySem PySem.Spec PyProof.Rows L2
/-! ### heaps -/
theorem XT.refl {L : List Addr} {H : Hp} : XT L H H := fun _ _ h => h
theorem XT.same {L : List Addr} {H H' : Hp} (e : Same H H') : XT L H H' := fun a o h => by
  obtain ⟨h1, h2⟩ := off_some h
  rw [off_out h1]
  exact e a o h2
theorem same_off {L : List Addr} {H : Hp} : Same (off L H) H := fun _ _ h => (off_some h).2
theorem same_offs {L L' : List Addr} {H : Hp} (h : ∀ a ∈ L', a ∈ L) : Same (off L H) (off L' H) := fun a o e => by
  obtain ⟨h1, h2⟩ := off_some e
  rw [off_out (fun q => h1 (h a q))]
  exact h2

/-! ### data -/
mutual
/-- no dict within -/
def nod : PyData → Bool
  | .dict _ => false
  | .list xs => nodAll xs
  | .tuple xs => nodAll xs
  | _ => true
def nodAll : List PyData → Bool
  | [] => true
  | x :: xs => nod x && nodAll xs
end
theorem nodAll_iff : ∀ {xs : List PyData}, nodAll xs = true ↔ ∀ x ∈ xs, nod x = true
  | [] => by simp [nodAll]
  | x :: xs => by simp [nodAll, nodAll_iff (xs := xs)]
theorem nodAll_map {α : Type} {f : α → PyData} (h : ∀ x, nod (f x) = true) (l : List α) : nodAll (l.map f) = true := nodAll_iff.mpr fun y hy => by
  obtain ⟨x, _, rfl⟩ := List.mem_map.mp hy
  exact h x
mutual
theorem nod_of_lay : ∀ {d : PyData}, d.canLay0 = true → nod d = true
  | .none, _ => rfl
  | .bool _, _ => rfl
  | .int _, _ => rfl
  | .str _, _ => rfl
  | .list xs, h => nodAll_of_lay (xs := xs) h
  | .tuple xs, h => nodAll_of_lay (xs := xs) h
  | .dict _, h => nomatch h
theorem nodAll_of_lay : ∀ {xs : List PyData}, PyData.canLayAll0 xs = true → nodAll xs = true
  | [], _ => rfl
  | x :: xs, h => by
    have q : x.canLay0 = true ∧ PyData.canLayAll0 xs = true := by simpa [PyData.canLayAll0] using h
    show (nod x && nodAll xs) = true
    rw [nod_of_lay q.1, nodAll_of_lay q.2]
    rfl
end
/-- an object of which only the place is told -/
abbrev ptD (a : Addr) : PyData := .dict [(.int a, .none)]
/-- a tuple that is known as one of its own: it can be a key -/
abbrev ktD (ds : List PyData) : PyData := .dict [(.bool false, .tuple ds)]
section
variable {K : PySem.W.Frag} {H H' : Hp}
mutual
theorem Va.dp : ∀ {v : V} {d : PyData}, Va K H v d → nod d = true → Dp K H v d
  | _, _, .non, _ => .non
  | _, _, .bl b, _ => .bl b
  | _, _, .int i, _ => .int i
  | _, _, .str x, _ => .str x
  | _, _, .lst h hs, n => .lst (SqL.of h) (VaAll.dp hs n)
  | _, _, .tup h hs, n => .tup h (VaAll.dp hs n)
  | _, _, .dct _, n => nomatch n
  | _, _, .ptr _, n => nomatch n
  | _, _, .ktp _ _, n => nomatch n
  | _, _, .dcf _ _ _, n => nomatch n
  | _, _, .dtf _ _ _, n => nomatch n
theorem VaAll.dp : ∀ {vs : List V} {ds : List PyData}, VaAll K H vs ds → nodAll ds = true → DpAll K H vs ds
  | _, _, .nil, _ => .nil
  | _, _, .cons h hs, n => by
    obtain ⟨n1, n2⟩ := Bool.and_eq_true_iff.mp n
    exact .cons (Va.dp h n1) (VaAll.dp hs n2)
end
theorem VaAll.get : ∀ {vs : List V} {ds : List PyData} {i : Nat} {v : V}, VaAll K H vs ds → vs[i]? = some v → ∃ d, ds[i]? = some d ∧ Va K H v d
  | _, _, i, _, .nil, e => by simp at e
  | _, _, 0, _, .cons h _, e => by
    have e : _ = _ := Option.some.inj e
    subst e
    exact ⟨_, rfl, h⟩
  | _, _, i + 1, v, .cons _ hs, e => by
    obtain ⟨d, h1, h2⟩ := VaAll.get (i := i) (v := v) hs (by simpa using e)
    exact ⟨d, by simpa using h1, h2⟩
theorem VaAll.app : ∀ {vs ws : List V} {ds es : List PyData}, VaAll K H vs ds → VaAll K H ws es → VaAll K H (vs ++ ws) (ds ++ es)
  | _, _, _, _, .nil, s => s
  | _, _, _, _, .cons h hs, s => .cons h (VaAll.app hs s)
theorem VaAll.drop : ∀ {vs : List V} {ds : List PyData} (n : Nat), VaAll K H vs ds → VaAll K H (vs.drop n) (ds.drop n)
  | _, _, 0, r => r
  | _, _, _ + 1, .nil => .nil
  | _, _, n + 1, .cons _ hs => VaAll.drop n hs
theorem VaAll.bls : ∀ {vs : List V} {bs : List Bool}, VaAll K H vs (bs.map PyData.bool) → vs = bs.map V.bl
  | _, [], h => by cases h; rfl
  | _, n :: ns, h => by
    cases h with
    | cons h hs => cases h; rw [VaAll.bls hs]; rfl
theorem VaAll.strs : ∀ {vs : List V} {xs : List Str}, VaAll K H vs (xs.map PyData.str) → vs = xs.map V.str
  | _, [], h => by cases h; rfl
  | _, n :: ns, h => by
    cases h with
    | cons h hs => cases h; rw [VaAll.strs hs]; rfl
end
/-! ### the state: slots of data, local mutable objects, the world around -/
section
variable {K : PySem.W.Frag} {H H' Ho Ho' : Hp} {W : Wd} {Γ : List DV} {μ : Mu} {σ : L2.St}
theorem Slots.setr (h : Slots K H σ Γ) (i : Nat) {a : Addr} : Slots K H (σ.set i (some (.ref a))) (Γ.set i (.r a)) := ⟨by rw [List.length_set, List.length_set, h.len], fun j dv q => by
  by_cases hj : j = i
  · subst hj
    have hl : j < Γ.length := by
      have := (List.getElem?_eq_some_iff.mp q).1
      simpa using this
    rw [List.getElem?_set_self hl] at q
    cases q
    exact ⟨_, List.getElem?_set_self (by rw [h.len]; exact hl), rfl⟩
  · rw [List.getElem?_set_ne (Ne.symm hj)] at q ⊢
    exact h.at_ j dv q⟩
theorem MOk.ne {a : Addr} {m : MO} (h : MOk K Ho H a m) : H a ≠ none := by
  cases m with
  | lst ds => obtain ⟨xs, h1, h2⟩ := h; rw [h1]; simp
  | dK kvs => obtain ⟨xs, h1, h2⟩ := h; rw [h1]; simp
  | dT kvs => obtain ⟨xs, h1, h2⟩ := h; rw [h1]; simp
  | ins C fs => obtain ⟨dx, gs, h1, h2⟩ := h; rw [h1]; simp
theorem Fr.same (h : Fr W H) (e : Same H H') : Fr W H' := ⟨fun a o n q => e a o (h.keep a o n q), fun r scr ns q => by
  obtain ⟨i, s, z, e1, e2⟩ := h.row r scr ns q
  exact ⟨i, s, z, e _ _ e1, e2⟩⟩
theorem Rep.ne (R : Rep K W Γ μ σ H) : ∀ a ∈ hd W μ, H a ≠ none := fun a ha => by
  rcases List.mem_append.mp ha with h | h
  · exact R.fr.dom (R.wd.hid a h)
  · obtain ⟨p, hp, rfl⟩ := List.mem_map.mp h
    exact (R.mu p hp).2.ne
theorem Rep.nts (R : Rep K W Γ μ σ H) : ∀ a ∈ hd W μ, NT H a := fun a ha => ⟨R.ne a ha, by
  rcases List.mem_append.mp ha with h | h
  · exact R.fr.nt (R.wd.hid a h) (R.wd.nt a h)
  · obtain ⟨p, hp, rfl⟩ := List.mem_map.mp h
    exact (R.mu p hp).2.nt⟩
/-- all is kept -/
theorem Rep.same (R : Rep K W Γ μ σ H) (e : Same H H') : Rep K W Γ μ σ H' :=
  ⟨R.wd, R.fr.same e, R.sl.up (XT.same e), fun p hp => ⟨(R.mu p hp).1, (R.mu p hp).2.up (XT.same e) (e _)⟩, R.nd⟩
/-- a new object is no hidden one -/
theorem new_out {L : List Addr} (hL : ∀ a ∈ L, H a ≠ none) {p : Addr} (hp : H p = none) : p ∉ L := fun q => hL p q hp
theorem same_new {p : Addr} {o : HO} (hp : H p = none) : Same H (upd H p o) := fun b u e => by
  rw [upd_ne (ne_of_none e hp)]
  exact e
theorem off_upd {L : List Addr} {p : Addr} {o : HO} (h : p ∉ L) : off L (upd H p o) p = some o := by rw [off_out h, upd_same]

theorem Wle.refl {W : Wd} : Wle W W := ⟨fun _ h => h, rfl, fun _ _ _ h => h⟩
theorem Fr.down {W W' : Wd} (l : Wle W W') (h : Fr W' H) : Fr W H :=
  ⟨fun a o n q => h.keep a o (fun z => n ((l.isRow a).mp z)) (l.keep a o n q), fun r scr ns q => h.row r scr ns (l.row.trans q)⟩
/-- from the grown world back, where the local objects are new to the smaller one -/
theorem Rep.down {W W' : Wd} (l : Wle W W') (ok : WdOk K W) (hm : ∀ p ∈ μ, W.H0 p.1 = none) (R : Rep K W' Γ μ σ H) : Rep K W Γ μ σ H := by
  have e : Same (off (hd W' μ) H) (off (hd W μ) H) := same_offs fun a ha => by
    rcases List.mem_append.mp ha with h | h
    · exact List.mem_append_left _ (l.m a h)
    · exact List.mem_append_right _ h
  exact ⟨ok, R.fr.down l, R.sl.up e, fun p hp => ⟨hm p hp, (R.mu p hp).2.up e fun _ z => z⟩, R.nd⟩
theorem Rep.now_le (R : Rep K W Γ μ σ H) : Wle W (W.now μ H) := ⟨fun _ h => h, rfl, fun a o n h => by
  have q : a ∉ μ.map (·.1) := R.mu_new (by rw [h]; simp)
  show off (μ.map (·.1)) H a = some o
  rw [off_out q]
  exact R.fr.keep a o n h⟩
end
end HW
set_option maxHeartbeats 4000000
namespace HW
open PySem PySem.Spec PyProof.Rows L2
/-! ### judgements -/
theorem wE.pe {X : Cx} {e : Expr} : PE X e (wE X e) := ⟨fun pins s _ _ _ I h => h pins s I⟩
theorem wA.pa {X : Cx} {es : List Expr} : PA X es (wA X es) := ⟨fun pos pins s _ _ _ I h => h pos pins s I⟩
/-- one statement, then the rest -/
theorem wSs_cons {X : Cx} {st : Stmt} {rest : List Stmt} {σ : L2.St} {H : Hp} {D : Ends} (h : wS X st { D with nx := wSs X rest D } σ H) : wSs X (st :: rest) D σ H := (pss_cons wS.ps wSs.ps).w h

section
variable {X : Cx} {W : Wd} {Γ : List DV} {μ : Mu} {e a b : Expr} {es : List Expr} {d x y z : PyData} {ds : List PyData} {P A B C : PyData → Prop} {pos : Pos}
theorem Ed.evP (h : Ed X W Γ μ e d) (p : P d) : Ev X W Γ μ e P := fun σ H R Q k => h σ H R Q fun v H2 R2 x2 r => k v d H2 R2 x2 r p
theorem Ev.ed (h : Ev X W Γ μ e (fun z => z = d)) : Ed X W Γ μ e d := fun σ H R Q k => h σ H R Q fun v d' H2 R2 x2 r e => k v H2 R2 x2 (e ▸ r)
/-! ### names, constants -/
/-- a local name -/
theorem vr (i : Nat) {n : Str} (hd_ : Γ[i]? = some (.d d) := by rfl) (hN : X.N[i]? = some n := by rfl) (hv : Vis X.env.scope n := by first | exact Or.inl rfl | exact Or.inr (Or.inl rfl) | exact Or.inr (Or.inr rfl))
    (h1 : (n == ("__debug__" : Str)) = false := by decide) (h2 : (n == ("__classdict__" : Str)) = false := by decide) : Ed X W Γ μ (.Name n pos) d := fun σ H R Q k => by
  obtain ⟨o, e1, v, e2, r⟩ := R.sl.at_ i _ hd_
  subst e2
  exact (pe_var hN hv h1 h2).w ⟨v, e1, k v H R XT.refl r⟩
theorem ed_c {v : V} (h : PE X e (tC v)) (r : ∀ H, Va X.K H v d) : Ed X W Γ μ e d := fun σ H R Q k => h.w (k v H R XT.refl (r _))
theorem ed_int {i : Int} {j p} : Ed X W Γ μ (.Constant (.int i) j p) (.int i) := ed_c pe_int fun _ => .int i
theorem ed_bl {i : Bool} {j p} : Ed X W Γ μ (.Constant (.bool i) j p) (.bool i) := ed_c pe_bl fun _ => .bl i
theorem ed_non {j p} : Ed X W Γ μ (.Constant .none j p) .none := ed_c pe_non fun _ => .non
theorem ed_str {i : Str} {j p} : Ed X W Γ μ (.Constant (.str i) j p) (.str i) := ed_c pe_str fun _ => .str i
/-- a constant of the module -/
theorem ed_gstr {n z : Str} (hm : ∃ t, X.mg n = some (.str z t)) (hg : Gl X n := by rfl) (h1 : (n == ("__debug__" : Str)) = false := by decide) : Ed X W Γ μ (.Name n pos) (.str z) := by
  obtain ⟨t, hm⟩ := hm
  exact ed_c (pe_glob hg hm (v := .str z) ⟨t, rfl⟩ h1) fun _ => .str z
theorem ed_gint {n : Str} {z : Int} (hm : ∃ t, X.mg n = some (.int z t)) (hg : Gl X n := by rfl) (h1 : (n == ("__debug__" : Str)) = false := by decide) : Ed X W Γ μ (.Name n pos) (.int z) := by
  obtain ⟨t, hm⟩ := hm
  exact ed_c (pe_glob hg hm (v := .int z) ⟨t, rfl⟩ h1) fun _ => .int z

/-! ### two values -/
/-- on the data x and y, z comes -/
def rD (K : PySem.W.Frag) (x y z : PyData) : R2 := fun a b H Q => ∃ L : List Addr, (∀ l ∈ L, H l ≠ none) ∧ Va K (off L H) a x ∧ Va K (off L H) b y ∧ ∀ v H2, Same H H2 → Va K (off L H2) v z → Q v H2
def OpD (X : Cx) (f : Value → Value → Sem Value) (x y z : PyData) : Prop := OpR X f (rD X.K x y z)
theorem bin_ev {r : V → V → Hp → VK → Prop} (ha : Ev X W Γ μ a A) (hb : Ev X W Γ μ b B) (hz : ∀ x y, A x → B y → ∃ z, C z ∧ ∀ va vb H Q, rD X.K x y z va vb H Q → r va vb H Q) {σ : L2.St} {H : Hp} (R : Rep X.K W Γ μ σ H) {Q : VK}
    (k : ∀ v d H2, Rep X.K W Γ μ σ H2 → XT (hd W μ) H H2 → Va X.K (off (hd W μ) H2) v d → C d → Q v H2) :
    wE X a σ H fun va H1 => wE X b σ H1 fun vb H2 => r va vb H2 Q := by
  refine ha σ H R _ fun va x H1 R1 e1 r1 p1 => hb σ H1 R1 _ fun vb y H2 R2 e2 r2 p2 => ?_
  obtain ⟨z, pz, hr⟩ := hz x y p1 p2
  exact hr _ _ _ _ ⟨hd W μ, R2.ne, r1.up e2, r2, fun v H3 e3 r3 => k v z H3 (R2.same e3) ((e1.trans e2).trans (XT.same e3)) r3 pz⟩
def rAny (X : Cx) (f : Value → Value → Sem Value) : R2 := fun va vb H Q => ∃ x y z, OpD X f x y z ∧ rD X.K x y z va vb H Q
theorem rAny.ok {f : Value → Value → Sem Value} : OpR X f (rAny X f) := fun pins s σ H x y v u Q I rx ry ⟨_, _, _, o, q⟩ => o pins s σ H x y v u Q I rx ry q
def IxD (X : Cx) (x y z : PyData) : Prop := IxR X (rD X.K x y z)
def rAnyI (X : Cx) : R2 := fun va vb H Q => ∃ x y z, IxD X x y z ∧ rD X.K x y z va vb H Q
theorem rAnyI.ok : IxR X (rAnyI X) := fun e1 e2 pins s σ H x y v u Q I rx ry ⟨_, _, _, o, q⟩ hs => o e1 e2 pins s σ H x y v u Q I rx ry q hs
theorem ev_op {op : Operator} (ha : Ev X W Γ μ a A) (hb : Ev X W Γ μ b B) (hz : ∀ x y, A x → B y → ∃ z, C z ∧ OpD X (binaryOp op) x y z) : Ev X W Γ μ (.BinOp a op b pos) C := fun σ H R Q k => by
  refine (pe_op (rAny.ok (X := X)) wE.pe wE.pe).w ?_
  exact bin_ev (r := rAny X (binaryOp op)) ha hb (fun x y px py => (hz x y px py).imp fun z h => ⟨h.1, fun va vb H Q q => ⟨x, y, z, h.2, q⟩⟩) R k
theorem ed_op {op : Operator} (ha : Ed X W Γ μ a x) (hb : Ed X W Γ μ b y) (hz : OpD X (binaryOp op) x y z) : Ed X W Γ μ (.BinOp a op b pos) z :=
  (ev_op (C := fun w => w = z) ha.ev hb.ev fun _ _ e1 e2 => ⟨z, rfl, by rw [e1, e2]; exact hz⟩).ed
theorem ev_cmp {op : CmpOp} (ha : Ev X W Γ μ a A) (hb : Ev X W Γ μ b B) (hz : ∀ x y, A x → B y → ∃ z, C z ∧ OpD X (compareOp op) x y z) (hm : behindInMarks op b = false := by first | exact nomark _ | rfl) : Ev X W Γ μ (.Compare a [op] [b] pos) C := fun σ H R Q k => by
  refine (pe_cmpR (rAny.ok (X := X)) wE.pe wE.pe hm).w ?_
  exact bin_ev (r := rAny X (compareOp op)) ha hb (fun x y px py => (hz x y px py).imp fun z h => ⟨h.1, fun va vb H Q q => ⟨x, y, z, h.2, q⟩⟩) R k
theorem ed_cmp {op : CmpOp} (ha : Ed X W Γ μ a x) (hb : Ed X W Γ μ b y) (hz : OpD X (compareOp op) x y z) (hm : behindInMarks op b = false := by first | exact nomark _ | rfl) : Ed X W Γ μ (.Compare a [op] [b] pos) z :=
  (ev_cmp (C := fun w => w = z) ha.ev hb.ev (fun _ _ e1 e2 => ⟨z, rfl, by rw [e1, e2]; exact hz⟩) hm).ed
/-- a subscript -/
theorem ev_ix (ha : Ev X W Γ μ a A) (hb : Ev X W Γ μ b B) (hz : ∀ x y, A x → B y → ∃ z, C z ∧ IxD X x y z) (hs : PlainIx b := by exact fun _ _ => rfl) : Ev X W Γ μ (.Subscript a b pos) C := fun σ H R Q k => by
  refine (pe_ix (rAnyI.ok (X := X)) wE.pe wE.pe hs).w ?_
  exact bin_ev (r := rAnyI X) ha hb (fun x y px py => (hz x y px py).imp fun z h => ⟨h.1, fun va vb H Q q => ⟨x, y, z, h.2, q⟩⟩) R k
theorem ed_ix (ha : Ed X W Γ μ a x) (hb : Ed X W Γ μ b y) (hz : IxD X x y z) (hs : PlainIx b := by exact fun _ _ => rfl) : Ed X W Γ μ (.Subscript a b pos) z :=
  (ev_ix (C := fun w => w = z) ha.ev hb.ev (fun _ _ e1 e2 => ⟨z, rfl, by rw [e1, e2]; exact hz⟩) hs).ed

/-! ### tests -/
theorem et_val {k : Bool} (h : Ed X W Γ μ e (.bool k)) (he : ∀ whole, isTrue e X.env whole = (do let v ← whole; standAt e.pos; holding [v] (truthy v)) := by intro _; rfl) : EdT X W Γ μ e k := fun σ H R Q q => by
  refine (pt_val wE.pe he).w ?_
  refine h σ H R _ fun v H2 R2 e2 r => ?_
  cases r
  exact ⟨k, rfl, q H2 R2 e2⟩
end
section
variable {X : Cx} {W : Wd} {Γ : List DV} {μ : Mu} {e a b : Expr} {rest : List Expr} {pos : Pos} {x y z : PyData} {k l : Bool}
theorem tc_ev {e : Expr} {P : Bool → Prop} {A B : PyData → Prop} {op : CmpOp} (ha : Ev X W Γ μ a A) (hb : Ev X W Γ μ b B) (hz : ∀ x y, A x → B y → ∃ k, P k ∧ OpD X (compareOp op) x y (.bool k)) (hm : behindInMarks op b = false := by first | exact nomark _ | rfl) : EvT X W Γ μ (.Compare a [op] [b] pos) P := fun σ H R Q q => by
  refine (pt_cmpR (rAny.ok (X := X)) wE.pe wE.pe hm).w ?_
  refine bin_ev (r := rAny X (compareOp op)) (C := fun z => ∃ k, z = .bool k ∧ P k) ha hb (fun x y px py => ?_) R fun v d H2 R2 e2 r p => ?_
  · obtain ⟨k, pk, o⟩ := hz x y px py
    exact ⟨.bool k, ⟨k, rfl, pk⟩, fun va vb H Q q => ⟨x, y, _, o, q⟩⟩
  · obtain ⟨k, rfl, pk⟩ := p
    cases r
    exact ⟨k, rfl, q k H2 R2 e2 pk⟩
/-- a comparison as a test -/
theorem tc {op : CmpOp} (ha : Ed X W Γ μ a x) (hb : Ed X W Γ μ b y) (hz : OpD X (compareOp op) x y (.bool k)) (hm : behindInMarks op b = false := by first | exact nomark _ | rfl) : EdT X W Γ μ (.Compare a [op] [b] pos) k := fun σ H R Q q =>
  tc_ev (e := a) (P := fun z => z = k) ha.ev hb.ev (fun _ _ e1 e2 => ⟨k, rfl, by rw [e1, e2]; exact hz⟩) hm σ H R Q fun b' H2 R2 e2 p => p ▸ q H2 R2 e2
theorem t_not (h : EdT X W Γ μ a k) : EdT X W Γ μ (.UnaryOp .Not a pos) (!k) := fun σ H R Q q => (pt_not wT.pt).w (h σ H R _ fun H2 R2 e2 => q H2 R2 e2)
theorem tw_and1 (h : EdT X W Γ μ a k) : EdW X W Γ μ (.BoolOp .And [a] pos) k := fun σ H R Q q => (pw_and1 wT.pt).w (h σ H R Q q)
theorem tw_or1 (h : EdT X W Γ μ a k) : EdW X W Γ μ (.BoolOp .Or [a] pos) k := fun σ H R Q q => (pw_or1 wT.pt).w (h σ H R Q q)
theorem tw_and (h : EdT X W Γ μ a k) (h2 : k = true → EdW X W Γ μ (.BoolOp .And (b :: rest) pos) l) : EdW X W Γ μ (.BoolOp .And (a :: b :: rest) pos) (k && l) := fun σ H R Q q => (pw_and wT.pt wW.pw).w (h σ H R _ fun H2 R2 e2 => by
  cases k with
  | true => exact iteT (h2 rfl σ H2 R2 Q fun H3 R3 e3 => q H3 R3 (e2.trans e3))
  | false => exact iteF (q H2 R2 e2))
theorem tw_or (h : EdT X W Γ μ a k) (h2 : k = false → EdW X W Γ μ (.BoolOp .Or (b :: rest) pos) l) : EdW X W Γ μ (.BoolOp .Or (a :: b :: rest) pos) (k || l) := fun σ H R Q q => (pw_or wT.pt wW.pw).w (h σ H R _ fun H2 R2 e2 => by
  cases k with
  | true => exact iteT (q H2 R2 e2)
  | false => exact iteF (h2 rfl σ H2 R2 Q fun H3 R3 e3 => q H3 R3 (e2.trans e3)))
theorem t_and (h : EdT X W Γ μ a k) (h2 : k = true → EdT X W Γ μ b l) : EdT X W Γ μ (.BoolOp .And [a, b] pos) (k && l) := (tw_and h fun e => tw_and1 (h2 e)).t
theorem t_or (h : EdT X W Γ μ a k) (h2 : k = false → EdT X W Γ μ b l) : EdT X W Γ μ (.BoolOp .Or [a, b] pos) (k || l) := (tw_or h fun e => tw_or1 (h2 e)).t
/-- .. as values -/
theorem ed_one {op} (h : Ed X W Γ μ a x) : Ed X W Γ μ (.BoolOp op [a] pos) x := fun σ H R Q q => (pe_one wE.pe).w (h σ H R Q q)
theorem ed_and (h : Ed X W Γ μ a (.bool k)) (h2 : k = true → Ed X W Γ μ (.BoolOp .And (b :: rest) pos) (.bool l)) : Ed X W Γ μ (.BoolOp .And (a :: b :: rest) pos) (.bool (k && l)) := fun σ H R Q q => (pe_and wE.pe wE.pe).w (h σ H R _ fun v H2 R2 e2 r => by
  cases r
  refine ⟨k, rfl, ?_⟩
  cases k with
  | true => exact iteT (h2 rfl σ H2 R2 Q fun v H3 R3 e3 r3 => q v H3 R3 (e2.trans e3) r3)
  | false => exact iteF (q _ H2 R2 e2 (.bl false)))
theorem ed_or (h : Ed X W Γ μ a (.bool k)) (h2 : k = false → Ed X W Γ μ (.BoolOp .Or (b :: rest) pos) (.bool l)) : Ed X W Γ μ (.BoolOp .Or (a :: b :: rest) pos) (.bool (k || l)) := fun σ H R Q q => (pe_or wE.pe wE.pe).w (h σ H R _ fun v H2 R2 e2 r => by
  cases r
  refine ⟨k, rfl, ?_⟩
  cases k with
  | true => exact iteT (q _ H2 R2 e2 (.bl true))
  | false => exact iteF (h2 rfl σ H2 R2 Q fun v H3 R3 e3 r3 => q v H3 R3 (e2.trans e3) r3))
theorem ed_not (h : Ed X W Γ μ a (.bool k)) : Ed X W Γ μ (.UnaryOp .Not a pos) (.bool (!k)) := fun σ H R Q q => (pe_not wE.pe).w (h σ H R _ fun v H2 R2 e2 r => by
  cases r
  exact ⟨k, rfl, q _ H2 R2 e2 (.bl _)⟩)
theorem ed_if {c : Expr} (h : EdT X W Γ μ c k) (h1 : k = true → Ed X W Γ μ a x) (h2 : k = false → Ed X W Γ μ b y) : Ed X W Γ μ (.IfExp c a b pos) (if k = true then x else y) := fun σ H R Q q => (pe_ifExp wT.pt wE.pe wE.pe).w (h σ H R _ fun H2 R2 e2 => by
  cases k with
  | true =>
    rw [if_pos rfl] at q
    exact iteT (h1 rfl σ H2 R2 Q fun v H3 R3 e3 r3 => q v H3 R3 (e2.trans e3) r3)
  | false =>
    rw [if_neg Bool.false_ne_true] at q
    exact iteF (h2 rfl σ H2 R2 Q fun v H3 R3 e3 r3 => q v H3 R3 (e2.trans e3) r3))
theorem ed_chain {c : Expr} {op op' : CmpOp} {w : PyData} (ha : Ed X W Γ μ a x) (hb : Ed X W Γ μ b y) (hc : k = true → Ed X W Γ μ c w) (hz : OpD X (compareOp op) x y (.bool k)) (hz' : OpD X (compareOp op') y w (.bool l)) (hm : lastMarks [op, op'] [b, c] = false := by with_unfolding_all rfl) :
    Ed X W Γ μ (.Compare a [op, op'] [b, c] pos) (.bool (k && l)) := fun σ H R Q q => (pe_chain hz hz' wE.pe wE.pe wE.pe hm).w (ha σ H R _ fun v H2 R2 e2 r2 => hb σ H2 R2 _ fun u H3 R3 e3 r3 => ⟨hd W μ, R3.ne, r2.up e3, r3, fun t H4 e4 r4 => by
  cases r4
  refine ⟨k, rfl, ?_⟩
  have R4 := R3.same e4
  cases k with
  | true =>
    refine iteT (hc rfl σ H4 R4 _ fun t H5 R5 e5 r5 => ⟨hd W μ, R5.ne, (r3.up (XT.same e4)).up e5, r5, fun t' H6 e6 r6 => q t' H6 (R5.same e6) ((((e2.trans e3).trans (XT.same e4)).trans e5).trans (XT.same e6)) r6⟩)
  | false => exact iteF (q _ H4 R4 ((e2.trans e3).trans (XT.same e4)) (.bl false))⟩)

theorem tc_chain {c : Expr} {op op' : CmpOp} {w : PyData} (ha : Ed X W Γ μ a x) (hb : Ed X W Γ μ b y) (hc : k = true → Ed X W Γ μ c w) (hz : OpD X (compareOp op) x y (.bool k)) (hz' : OpD X (compareOp op') y w (.bool l)) (hm : lastMarks [op, op'] [b, c] = false := by with_unfolding_all rfl) :
    EdT X W Γ μ (.Compare a [op, op'] [b, c] pos) (k && l) := fun σ H R Q q => (pt_chain hz hz' wE.pe wE.pe wE.pe hm).w (ha σ H R _ fun v H2 R2 e2 r2 => hb σ H2 R2 _ fun u H3 R3 e3 r3 => ⟨hd W μ, R3.ne, r2.up e3, r3, fun t H4 e4 r4 => by
  cases r4
  refine ⟨k, rfl, ?_⟩
  have R4 := R3.same e4
  cases k with
  | true =>
    refine iteT (hc rfl σ H4 R4 _ fun t H5 R5 e5 r5 => ⟨hd W μ, R5.ne, (r3.up (XT.same e4)).up e5, r5, fun t' H6 e6 r6 => ?_⟩)
    cases r6
    exact ⟨l, rfl, q H6 (R5.same e6) ((((e2.trans e3).trans (XT.same e4)).trans e5).trans (XT.same e6))⟩
  | false => exact iteF ⟨false, rfl, q H4 R4 ((e2.trans e3).trans (XT.same e4))⟩⟩)

/-! ### arguments, calls -/
theorem ea_nil : EdA X W Γ μ [] [] := fun σ H R Q q => pa_nil.w (q [] H R XT.refl .nil)
theorem ea_cons {es : List Expr} {ds : List PyData} (h : Ed X W Γ μ e x) (hr : EdA X W Γ μ es ds) (hs : starEach (e :: es) X.env = (false, eval e X.env) :: starEach es X.env := by rfl) : EdA X W Γ μ (e :: es) (x :: ds) := fun σ H R Q q =>
  (pa_cons wE.pe wA.pa hs).w (h σ H R _ fun v H2 R2 e2 r2 => hr σ H2 R2 _ fun vs H3 R3 e3 r3 => q _ H3 R3 (e2.trans e3) (.cons (r2.up e3) r3))
theorem eva_cons {es : List Expr} {A : PyData → Prop} {As : List PyData → Prop} (h : Ev X W Γ μ e A) (hr : EvA X W Γ μ es As) (hs : starEach (e :: es) X.env = (false, eval e X.env) :: starEach es X.env := by rfl) : EvA X W Γ μ (e :: es) (fun l => ∃ x r, l = x :: r ∧ A x ∧ As r) := fun σ H R Q q =>
  (pa_cons wE.pe wA.pa hs).w (h σ H R _ fun v d H2 R2 e2 r2 p2 => hr σ H2 R2 _ fun vs ds H3 R3 e3 r3 p3 => q _ _ H3 R3 (e2.trans e3) (.cons (r2.up e3) r3) ⟨_, _, rfl, p2, p3⟩)
theorem eva_nil : EvA X W Γ μ [] (fun l => l = []) := fun σ H R Q q => pa_nil.w (q [] [] H R XT.refl .nil rfl)
/-- a tuple, a list displayed -/
theorem ed_tup {es : List Expr} {ds : List PyData} {x1} (h : EdA X W Γ μ es ds) (hl : ds.length ≤ 1000) : Ed X W Γ μ (.Tuple es x1 pos) (.tuple ds) := fun σ H R Q q =>
  (pe_tup wA.pa).w (h σ H R _ fun vs H2 R2 e2 r2 => ⟨by rw [r2.length]; exact Nat.le_trans hl (by decide), fun p hp => by
    have s := same_new (o := .tup vs) hp
    exact q _ _ (R2.same s) (e2.trans (XT.same s)) (.tup (.inl (.inl (off_upd (new_out R2.ne hp)))) (r2.up (XT.same s)))⟩)
theorem ed_lst {es : List Expr} {ds : List PyData} (h : EdA X W Γ μ es ds) (hl : ds.length ≤ 1000) : Ed X W Γ μ (.List es pos) (.list ds) := fun σ H R Q q =>
  (pe_lst wA.pa).w (h σ H R _ fun vs H2 R2 e2 r2 => ⟨by rw [r2.length]; exact Nat.le_trans hl (by decide), fun p hp => by
    have s := same_new (o := .lst vs) hp
    exact q _ _ (R2.same s) (e2.trans (XT.same s)) (.lst (off_upd (new_out R2.ne hp)) (r2.up (XT.same s)))⟩)
/-- a built-in function on data -/
def rDc (K : PySem.W.Frag) (ds : List PyData) (z : PyData) : List V → Hp → VK → Prop := fun vs H Q => ∃ L : List Addr, (∀ l ∈ L, H l ≠ none) ∧ VaAll K (off L H) vs ds ∧ ∀ v H2, Same H H2 → Va K (off L H2) v z → Q v H2
def CallD (X : Cx) (f : Value) (ds : List PyData) (z : PyData) : Prop := CallR X f (rDc X.K ds z)
theorem ev_callB {n : Str} {id : String} {es : List Expr} {As : List PyData → Prop} {C : PyData → Prop} {p : Pos} (hm : X.mg n = none) (hv : bootBuiltins n = some (.builtin id)) (ha : EvA X W Γ μ (e :: es) As) (hz : ∀ ds, As ds → ∃ z, C z ∧ CallD X (.builtin id) ds z) (hg : Gl X n := by rfl)
    (hn : n ≠ "__name__" := by decide) (hdb : (n == ("__debug__" : Str)) = false := by decide)
    (he : starEach (e :: es) X.env = (false, eval e X.env) :: starEach es X.env := by rfl) (hpl : (backTo pos (starEach es X.env)).any (·.1) = false := by rfl) : Ev X W Γ μ (.Call (.Name n p) (e :: es) [] pos) C := fun σ H R Q q =>
  (pe_callB (r := fun vs H Q => ∃ ds z, CallD X (.builtin id) ds z ∧ rDc X.K ds z vs H Q) (fun pins s σ H vs us Q I rv ⟨_, _, o, q⟩ => o pins s σ H vs us Q I rv q) hg hm hv wA.pa hn hdb he hpl).w
    (ha σ H R _ fun vs ds H2 R2 e2 r2 p2 => by
      obtain ⟨z, pz, o⟩ := hz ds p2
      exact ⟨ds, z, o, hd W μ, R2.ne, r2, fun v H3 e3 r3 => q v z H3 (R2.same e3) (e2.trans (XT.same e3)) r3 pz⟩)
theorem ed_callB {n : Str} {id : String} {es : List Expr} {ds : List PyData} {p : Pos} (hm : X.mg n = none) (hv : bootBuiltins n = some (.builtin id)) (ha : EdA X W Γ μ (e :: es) ds) (hz : CallD X (.builtin id) ds z) (hg : Gl X n := by rfl)
    (hn : n ≠ "__name__" := by decide) (hdb : (n == ("__debug__" : Str)) = false := by decide)
    (he : starEach (e :: es) X.env = (false, eval e X.env) :: starEach es X.env := by rfl) (hpl : (backTo pos (starEach es X.env)).any (·.1) = false := by rfl) : Ed X W Γ μ (.Call (.Name n p) (e :: es) [] pos) z :=
  (ev_callB (C := fun w => w = z) hm hv (ha.ev (P := fun l => l = ds) rfl) (fun _ e => ⟨z, rfl, e ▸ hz⟩) hg hn hdb he hpl).ed
theorem ev_callT {n : Str} {id : String} {es : List Expr} {As : List PyData → Prop} {C : PyData → Prop} {p : Pos} (hm : X.mg n = none) (hv : bootBuiltins n = some (.type id)) (ha : EvA X W Γ μ (e :: es) As) (hz : ∀ ds, As ds → ∃ z, C z ∧ CallD X (.type id) ds z) (hg : Gl X n := by rfl)
    (hn : n ≠ "__name__" := by decide) (hdb : (n == ("__debug__" : Str)) = false := by decide)
    (he : starEach (e :: es) X.env = (false, eval e X.env) :: starEach es X.env := by rfl) (hpl : (backTo pos (starEach es X.env)).any (·.1) = false := by rfl) : Ev X W Γ μ (.Call (.Name n p) (e :: es) [] pos) C := fun σ H R Q q =>
  (pe_callTy (r := fun vs H Q => ∃ ds z, CallD X (.type id) ds z ∧ rDc X.K ds z vs H Q) (fun pins s σ H vs us Q I rv ⟨_, _, o, q⟩ => o pins s σ H vs us Q I rv q) hg hm hv wA.pa hn hdb he hpl).w
    (ha σ H R _ fun vs ds H2 R2 e2 r2 p2 => by
      obtain ⟨z, pz, o⟩ := hz ds p2
      exact ⟨ds, z, o, hd W μ, R2.ne, r2, fun v H3 e3 r3 => q v z H3 (R2.same e3) (e2.trans (XT.same e3)) r3 pz⟩)
theorem ed_callT {n : Str} {id : String} {es : List Expr} {ds : List PyData} {p : Pos} (hm : X.mg n = none) (hv : bootBuiltins n = some (.type id)) (ha : EdA X W Γ μ (e :: es) ds) (hz : CallD X (.type id) ds z) (hg : Gl X n := by rfl)
    (hn : n ≠ "__name__" := by decide) (hdb : (n == ("__debug__" : Str)) = false := by decide)
    (he : starEach (e :: es) X.env = (false, eval e X.env) :: starEach es X.env := by rfl) (hpl : (backTo pos (starEach es X.env)).any (·.1) = false := by rfl) : Ed X W Γ μ (.Call (.Name n p) (e :: es) [] pos) z :=
  (ev_callT (C := fun w => w = z) hm hv (ha.ev (P := fun l => l = ds) rfl) (fun _ e => ⟨z, rfl, e ▸ hz⟩) hg hn hdb he hpl).ed

end
end HW
set_option maxHeartbeats 4000000
namespace HW
open PySem PySem.Spec PyProof.Rows L2
/-! ### a local object is hidden, and told again -/
section
variable {K : PySem.W.Frag} {H H' : Hp} {W W' : Wd} {Γ Γ' : List DV} {μ : Mu} {σ σ' : L2.St} {D : Addr} {m : MO}
def Wd.park (W : Wd) (μ : Mu) (D : Addr) (H : Hp) : Wd := ⟨off (μ.map (·.1)) H, D :: W.M, W.row⟩
theorem mem_park {a : Addr} : a ∈ hd (W.park μ D H) μ ↔ a ∈ hd W ((D, m) :: μ) := by
  unfold Wd.park hd
  simp only [List.mem_append, List.mem_cons, List.map_cons]
  constructor
  · rintro ((h | h) | h)
    · exact .inr (.inl h)
    · exact .inl h
    · exact .inr (.inr h)
  · rintro (h | h | h)
    · exact .inl (.inr h)
    · exact .inl (.inl h)
    · exact .inr h
theorem off_cong {L L' : List Addr} (h : ∀ a, a ∈ L ↔ a ∈ L') : off L H = off L' H := by
  funext a
  unfold off
  by_cases q : a ∈ L
  · rw [if_pos q, if_pos ((h a).mp q)]
  · rw [if_neg q, if_neg (fun z => q ((h a).mpr z))]
theorem Rep.isRow_M (wd : WdOk K W) {a : Addr} (h : W.isRow a) : a ∈ W.M := by
  obtain ⟨scr, ns, e⟩ := h
  exact (wd.row _ _ _ e).1
theorem Rep.park (R : Rep K W Γ ((D, m) :: μ) σ H) : Rep K (W.park μ D H) Γ μ σ H := by
  have hD : W.H0 D = none ∧ MOk K (off (hd W ((D, m) :: μ)) H) H D m := R.mu (D, m) List.mem_cons_self
  have nd : D ∉ μ.map (·.1) ∧ (μ.map (·.1)).Nodup := by
    have := R.nd
    rw [List.map_cons] at this
    exact List.nodup_cons.mp this
  have nmu : ∀ a, W.H0 a ≠ none → a ∉ μ.map (·.1) := fun a h q => by
    obtain ⟨p, hp, rfl⟩ := List.mem_map.mp q
    exact h (R.mu p (List.mem_cons_of_mem _ hp)).1
  have oc : off (hd W ((D, m) :: μ)) H = off (hd (W.park μ D H) μ) H := off_cong fun a => (mem_park (m := m)).symm
  refine ⟨⟨fun a ha => ?_, fun r scr ns q => ?_, fun a ha => ?_⟩, ⟨fun a o n q => (off_some q).2, R.fr.row⟩, oc ▸ R.sl, fun p hp => ⟨off_in (List.mem_map.mpr ⟨p, hp, rfl⟩), oc ▸ (R.mu p (List.mem_cons_of_mem _ hp)).2⟩, nd.2⟩
  · show off (μ.map (·.1)) H a ≠ none
    rcases List.mem_cons.mp ha with h | h
    · rw [h, off_out nd.1]
      exact hD.2.ne
    · rw [off_out (nmu a (R.wd.hid a h))]
      exact R.fr.dom (R.wd.hid a h)
  · obtain ⟨h1, h2, h3, h4⟩ := R.wd.row r scr ns q
    refine ⟨List.mem_cons_of_mem _ h1, SqL.up (fun o e => ?_) h2, h3, h4⟩
    show off (μ.map (·.1)) H scr = some o
    rw [off_out (nmu scr (by rw [e]; simp))]
    refine R.fr.keep scr o (fun ⟨s2, n2, z⟩ => ?_) e
    have q' : W.row = some (r, scr, ns) := q
    rw [q'] at z
    cases z
    exact h3 rfl
  · show ∀ xs, off (μ.map (·.1)) H a ≠ some (.tup xs)
    rcases List.mem_cons.mp ha with h | h
    · rw [h, off_out nd.1]
      exact hD.2.nt
    · rw [off_out (nmu a (R.wd.hid a h))]
      exact R.fr.nt (R.wd.hid a h) (R.wd.nt a h)
/-- what stood off the hidden objects stands -/
theorem park_xt (R : Rep K W Γ ((D, m) :: μ) σ H) (R' : Rep K (W.park μ D H) Γ' μ σ' H') : XT (hd W ((D, m) :: μ)) H H' := fun a o e => by
  obtain ⟨h1, h2⟩ := off_some e
  rw [off_out h1]
  refine R'.fr.keep a o (fun q => h1 ((mem_park (m := m)).mp (List.mem_append_left _ (Rep.isRow_M R'.wd q)))) ?_
  show off (μ.map (·.1)) H a = some o
  rw [off_out (fun q => h1 (List.mem_append_right _ (by rw [List.map_cons]; exact List.mem_cons_of_mem _ q)))]
  exact h2
theorem Rep.unpark (R : Rep K W Γ ((D, m) :: μ) σ H) (R' : Rep K (W.park μ D H) Γ' μ σ' H') : Rep K W Γ' ((D, m) :: μ) σ' H' := by
  have hD : W.H0 D = none ∧ MOk K (off (hd W ((D, m) :: μ)) H) H D m := R.mu (D, m) List.mem_cons_self
  have oc : off (hd (W.park μ D H) μ) H' = off (hd W ((D, m) :: μ)) H' := off_cong fun a => mem_park (m := m)
  have xt := park_xt R R'
  have nd : D ∉ μ.map (·.1) ∧ (μ.map (·.1)).Nodup := by
    have := R.nd
    rw [List.map_cons] at this
    exact List.nodup_cons.mp this
  have nrow : ¬ (W.park μ D H).isRow D := fun ⟨scr, ns, e⟩ => (R.wd.hid D (R.wd.row _ _ _ e).1) hD.1
  have keepD : ∀ o, H D = some o → H' D = some o := fun o e => R'.fr.keep D o nrow (by
    show off (μ.map (·.1)) H D = some o
    rw [off_out nd.1]
    exact e)
  have nmu : ∀ a, W.H0 a ≠ none → a ∉ μ.map (·.1) := fun a h q => by
    obtain ⟨p, hp, rfl⟩ := List.mem_map.mp q
    exact h (R.mu p (List.mem_cons_of_mem _ hp)).1
  refine ⟨R.wd, ⟨fun a o n q => ?_, R'.fr.row⟩, oc ▸ R'.sl, fun p hp => ?_, R.nd⟩
  · refine R'.fr.keep a o n ?_
    show off (μ.map (·.1)) H a = some o
    rw [off_out (nmu a (by rw [q]; simp))]
    exact R.fr.keep a o n q
  · rcases List.mem_cons.mp hp with h | h
    · rw [h]
      exact ⟨hD.1, hD.2.up xt keepD⟩
    · exact ⟨(R.mu p hp).1, oc ▸ (R'.mu p h).2⟩
theorem park_le (R : Rep K W Γ ((D, m) :: μ) σ H) : Wle W (W.park μ D H) := ⟨fun a h => List.mem_cons_of_mem _ h, rfl, fun a o n h => by
  show off (μ.map (·.1)) H a = some o
  rw [off_out fun q => by
    obtain ⟨p, hp, z⟩ := List.mem_map.mp q
    have := (R.mu p (List.mem_cons_of_mem _ hp)).1
    rw [z, h] at this
    cases this]
  exact R.fr.keep a o n h⟩
/-- a new local object -/
theorem Rep.born (R : Rep K W Γ μ σ H) {o : HO} (hp : H D = none) (hm : MOk K (off (hd W μ) H) (upd H D o) D m) : Rep K W Γ ((D, m) :: μ) σ (upd H D o) := by
  have s := same_new (o := o) hp
  have nD : D ∉ hd W μ := new_out R.ne hp
  have sub : Same (off (hd W μ) H) (off (hd W ((D, m) :: μ)) (upd H D o)) := fun a u e => by
    obtain ⟨h1, h2⟩ := off_some e
    have na : a ≠ D := fun q => by rw [q, hp] at h2; cases h2
    rw [off_out (fun q => by
      rcases List.mem_append.mp q with z | z
      · exact h1 (List.mem_append_left _ z)
      · rw [List.map_cons] at z
        rcases List.mem_cons.mp z with z | z
        · exact na z
        · exact h1 (List.mem_append_right _ z)), upd_ne na]
    exact h2
  have h0 : W.H0 D = none := by
    cases e : W.H0 D with
    | none => rfl
    | some u => exact absurd hp (R.fr.dom (by rw [e]; simp))
  refine ⟨R.wd, R.fr.same s, R.sl.up sub, fun p hp' => ?_, ?_⟩
  · rcases List.mem_cons.mp hp' with h | h
    · rw [h]
      exact ⟨h0, hm.up sub fun _ z => z⟩
    · exact ⟨(R.mu p h).1, (R.mu p h).2.up sub fun u e => s _ _ e⟩
  · rw [List.map_cons]
    exact List.nodup_cons.mpr ⟨fun q => nD (List.mem_append_right _ q), R.nd⟩
/-- a local object changes -/
theorem Rep.chg {j : Nat} {m' : MO} (R : Rep K W Γ μ σ H) {o : HO} (hj : μ[j]? = some (D, m)) (hm : MOk K (off (hd W μ) H) (upd H D o) D m') : Rep K W Γ (μ.set j (D, m')) σ (upd H D o) := by
  have hmem : (D, m) ∈ μ := List.mem_of_getElem? hj
  have h0 : W.H0 D = none := (R.mu _ hmem).1
  have keys : (μ.set j (D, m')).map (·.1) = μ.map (·.1) := by
    rw [List.map_set]
    obtain ⟨hl, he⟩ := List.getElem?_eq_some_iff.mp hj
    apply List.ext_getElem (by simp)
    intro i h1 h2
    by_cases q : i = j
    · subst q
      simp [he]
    · rw [List.getElem_set_ne (Ne.symm q)]
  have hh : hd W (μ.set j (D, m')) = hd W μ := by unfold hd; rw [keys]
  have inD : D ∈ hd W μ := List.mem_append_right _ (List.mem_map.mpr ⟨_, hmem, rfl⟩)
  have oe : off (hd W μ) (upd H D o) = off (hd W μ) H := by
    funext a
    unfold off
    by_cases q : a ∈ hd W μ
    · rw [if_pos q, if_pos q]
    · rw [if_neg q, if_neg q, upd_ne (fun (z : a = D) => q (by rw [z]; exact inD))]
  have nrow : ¬ W.isRow D := fun ⟨scr, ns, e⟩ => (R.wd.hid D (R.wd.row _ _ _ e).1) h0
  refine ⟨R.wd, ⟨fun a u n e => ?_, fun r scr ns e => ?_⟩, ?_, fun p hp => ?_, by rw [keys]; exact R.nd⟩
  · rw [upd_ne (fun z => by rw [z, h0] at e; cases e)]
    exact R.fr.keep a u n e
  · obtain ⟨i, s, q, e1, e2⟩ := R.fr.row r scr ns e
    refine ⟨i, s, q, ?_, e2⟩
    rw [upd_ne (fun (z : r = D) => nrow ⟨scr, ns, by rw [← z]; exact e⟩)]
    exact e1
  · rw [hh, oe]
    exact R.sl
  · rw [hh, oe]
    obtain ⟨i, hi⟩ := List.getElem?_of_mem hp
    by_cases q : i = j
    · subst q
      rw [List.getElem?_set_self (List.getElem?_eq_some_iff.mp hj).1] at hi
      cases hi
      exact ⟨h0, hm⟩
    · rw [List.getElem?_set_ne (Ne.symm q)] at hi
      have hp' : p ∈ μ := List.mem_of_getElem? hi
      have ne : p.1 ≠ D := fun z => by
        have n := R.nd
        have e1 : (μ.map (·.1))[i]? = some D := by rw [List.getElem?_map, hi]; exact congrArg some z
        have e2 : (μ.map (·.1))[j]? = some D := by rw [List.getElem?_map, hj]; rfl
        exact q (nd_ix n e1 e2)
      refine ⟨(R.mu p hp').1, (R.mu p hp').2.up (Same.refl _) fun u e => ?_⟩
      rw [upd_ne ne]
      exact e
end
/-! ### statements -/
/-- the state is one of Φ, in the world W -/
def StP (K : PySem.W.Frag) (W : Wd) (Φ : List DV → Mu → Prop) : L2.St → Hp → Prop := fun σ H => ∃ Γ μ, Φ Γ μ ∧ Rep K W Γ μ σ H
def Run (X : Cx) (W : Wd) (Γ : List DV) (μ : Mu) (sts : List Stmt) (D : Ends) : Prop := ∀ σ H, Rep X.K W Γ μ σ H → wSs X sts D σ H
/-- what a def hands back: data with P, all else as it was -/
def RetP (K : PySem.W.Frag) (W : Wd) (P : PyData → Prop) : VK := fun v H => Fr W H ∧ ∃ d, P d ∧ Va K (off W.M H) v d
section
variable {X : Cx} {W W0 : Wd} {Γ : List DV} {μ : Mu} {e c : Expr} {rest sts a b : List Stmt} {D : Ends} {d : PyData} {P : PyData → Prop} {pos p : Pos}
theorem run_nil (h : ∀ σ H, Rep X.K W Γ μ σ H → D.nx σ H) : Run X W Γ μ [] D := fun σ H R => pss_nil.w (h σ H R)
/-- x = e -/
theorem run_setP (i : Nat) {n : Str} (he : Ev X W Γ μ e P) (h : ∀ d, P d → Run X W (Γ.set i (.d d)) μ rest D) (nd : X.N.Nodup) (hN : X.N[i]? = some n := by rfl) (hx : Loc X.env.scope n := by first | exact Or.inl rfl | exact Or.inr rfl)
    (hs : swapsWith e (some (.Name n p)) pos.line X.env = pure false := by rfl) (hf : X.fn n = true ∨ X.env.scope.names.lookup n = some .local := by first | exact .inr rfl | exact .inl rfl) : Run X W Γ μ (.Assign [.Name n p] e pos :: rest) D := fun σ H R =>
  wSs_cons ((ps_set nd hN hx wE.pe hs hf).w (he σ H R _ fun v d H2 R2 e2 r p => h d p _ _ ⟨R2.wd, R2.fr, R2.sl.set i r, R2.mu, R2.nd⟩))
theorem run_set (i : Nat) {n : Str} (he : Ed X W Γ μ e d) (h : Run X W (Γ.set i (.d d)) μ rest D) (nd : X.N.Nodup) (hN : X.N[i]? = some n := by rfl) (hx : Loc X.env.scope n := by first | exact Or.inl rfl | exact Or.inr rfl)
    (hs : swapsWith e (some (.Name n p)) pos.line X.env = pure false := by rfl) (hf : X.fn n = true ∨ X.env.scope.names.lookup n = some .local := by first | exact .inr rfl | exact .inl rfl) : Run X W Γ μ (.Assign [.Name n p] e pos :: rest) D :=
  run_setP i he.ev (fun _ q => q ▸ h) nd hN hx hs hf
/-- x = [] : a local list -/
theorem run_newL (i : Nat) {n : Str} {p2 : Pos} (h : ∀ l, Run X W (Γ.set i (.r l)) ((l, .lst []) :: μ) rest D) (nd : X.N.Nodup) (hN : X.N[i]? = some n := by rfl) (hx : Loc X.env.scope n := by first | exact Or.inl rfl | exact Or.inr rfl)
    (hs : swapsWith (.List [] p2) (some (.Name n p)) pos.line X.env = pure false := by rfl) (hf : X.fn n = true ∨ X.env.scope.names.lookup n = some .local := by first | exact .inr rfl | exact .inl rfl) : Run X W Γ μ (.Assign [.Name n p] (.List [] p2) pos :: rest) D := fun σ H R =>
  wSs_cons ((ps_set nd hN hx (pe_lst pa_nil) hs hf).w ⟨Nat.zero_le _, fun l hl => h l _ _ (by
    have R1 := R.born (m := .lst []) (o := .lst []) hl ⟨[], upd_same, .nil⟩
    exact ⟨R1.wd, R1.fr, R1.sl.setr i, R1.mu, R1.nd⟩)⟩)
/-- l.append(e) -/
theorem run_appP (i j : Nat) {n : Str} {l : Addr} {ys : List PyData} {p1 p2 p3 : Pos} (he : Ev X W Γ μ e P) (hl : ys.length < 16777216) (h : ∀ d, P d → Run X W Γ (μ.set j (l, .lst (ys ++ [d]))) rest D)
    (hi : Γ[i]? = some (.r l) := by rfl) (hj : μ[j]? = some (l, .lst ys) := by rfl) (hN : X.N[i]? = some n := by rfl) (hv : Vis X.env.scope n := by first | exact Or.inl rfl | exact Or.inr (Or.inl rfl) | exact Or.inr (Or.inr rfl))
    (h1 : (n == ("__debug__" : Str)) = false := by decide) (h2 : (n == ("__classdict__" : Str)) = false := by decide)
    (hbase : attributeBase (.Name n p1) "append" X.env (eval (.Name n p1) X.env) = eval (.Name n p1) X.env := by rfl)
    (hfew : ((backTo p3 (starEach [e] X.env)).all (fun x => !x.1) && (backToKw p3 (keywordEach [] X.env)).all (fun x => x.1.isSome)
      && decide ([e].length + ([] : List Keyword).length + (if ([] : List Keyword).isEmpty then 0 else 1) < 30)) = true := by rfl)
    (hline : (p2.endLine == p3.line) = true := by rfl) (hs : starEach [e] X.env = (false, eval e X.env) :: starEach [] X.env := by rfl) (hplain : (backTo p3 (starEach [] X.env)).any (·.1) = false := by rfl)
    (hsw : swapsWith (.Call (.Attribute (.Name n p1) "append" p2) [e] [] p3) none pos.line X.env = pure false := by rfl) :
    Run X W Γ μ (.Expr (.Call (.Attribute (.Name n p1) "append" p2) [e] [] p3) pos :: rest) D := fun σ H R => by
  refine wSs_cons ((ps_expr (pe_bm PySem.F.plainAttrs_list PySem.F.slot_list_append PySem.F.type_list_append mt_append (pe_var hN hv h1 h2) (pa_cons wE.pe pa_nil hs) hbase hfew hline hs hplain) hsw).w ?_)
  obtain ⟨o, e1, e2⟩ := R.sl.at_ i _ hi
  have e2' : o = some (.ref l) := e2
  subst e2'
  have hmem : (l, MO.lst ys) ∈ μ := List.mem_of_getElem? hj
  obtain ⟨xs, hx, _⟩ := (R.mu _ hmem).2
  refine ⟨_, e1, .inl ⟨rfl, _, SqL.of hx⟩, ?_⟩
  refine he σ H R _ fun v d H2 R2 e2 r p => ?_
  obtain ⟨xs2, hx2, hv2⟩ := (R2.mu _ hmem).2
  refine ⟨l, xs2, v, rfl, rfl, hx2, by rw [hv2.length]; exact hl, ?_⟩
  exact h d p _ _ (R2.chg hj ⟨xs2 ++ [v], upd_same, hv2.app (.cons r .nil)⟩)
theorem run_app (i j : Nat) {n : Str} {l : Addr} {ys : List PyData} {p1 p2 p3 : Pos} (he : Ed X W Γ μ e d) (hl : ys.length < 16777216) (h : Run X W Γ (μ.set j (l, .lst (ys ++ [d]))) rest D)
    (hi : Γ[i]? = some (.r l) := by rfl) (hj : μ[j]? = some (l, .lst ys) := by rfl) (hN : X.N[i]? = some n := by rfl) (hv : Vis X.env.scope n := by first | exact Or.inl rfl | exact Or.inr (Or.inl rfl) | exact Or.inr (Or.inr rfl))
    (h1 : (n == ("__debug__" : Str)) = false := by decide) (h2 : (n == ("__classdict__" : Str)) = false := by decide)
    (hbase : attributeBase (.Name n p1) "append" X.env (eval (.Name n p1) X.env) = eval (.Name n p1) X.env := by rfl)
    (hfew : ((backTo p3 (starEach [e] X.env)).all (fun x => !x.1) && (backToKw p3 (keywordEach [] X.env)).all (fun x => x.1.isSome)
      && decide ([e].length + ([] : List Keyword).length + (if ([] : List Keyword).isEmpty then 0 else 1) < 30)) = true := by rfl)
    (hline : (p2.endLine == p3.line) = true := by rfl) (hs : starEach [e] X.env = (false, eval e X.env) :: starEach [] X.env := by rfl) (hplain : (backTo p3 (starEach [] X.env)).any (·.1) = false := by rfl)
    (hsw : swapsWith (.Call (.Attribute (.Name n p1) "append" p2) [e] [] p3) none pos.line X.env = pure false := by rfl) :
    Run X W Γ μ (.Expr (.Call (.Attribute (.Name n p1) "append" p2) [e] [] p3) pos :: rest) D :=
  run_appP i j he.ev hl (fun _ q => q ▸ h) hi hj hN hv h1 h2 hbase hfew hline hs hplain hsw
/-- a local list is from now on data -/
theorem Rep.freeze {K : PySem.W.Frag} {H : Hp} {σ : L2.St} {l : Addr} {ys : List PyData} (R : Rep K W Γ ((l, .lst ys) :: μ) σ H) : ∃ xs, H l = some (.lst xs) ∧ VaAll K (off (hd W μ) H) xs ys ∧ l ∉ hd W μ ∧ Slots K (off (hd W μ) H) σ Γ := by
  obtain ⟨h0, xs, hx, hv⟩ := R.mu _ List.mem_cons_self
  have sub : Same (off (hd W ((l, .lst ys) :: μ)) H) (off (hd W μ) H) := same_offs fun a ha => by
    rcases List.mem_append.mp ha with z | z
    · exact List.mem_append_left _ z
    · exact List.mem_append_right _ (by rw [List.map_cons]; exact List.mem_cons_of_mem _ z)
  have nd := R.nd
  rw [List.map_cons] at nd
  refine ⟨xs, hx, hv.up sub, fun q => ?_, R.sl.up sub⟩
  rcases List.mem_append.mp q with z | z
  · exact R.wd.hid l z h0
  · exact (List.nodup_cons.mp nd).1 z
/-- the i-th slot's local list becomes data -/
theorem run_fix (i : Nat) {l : Addr} {ys : List PyData} (h : Run X W (Γ.set i (.d (.list ys))) μ sts D) (hi : Γ[i]? = some (.r l) := by rfl) : Run X W Γ ((l, .lst ys) :: μ) sts D := fun σ H R => by
  obtain ⟨xs, hx, hv, nl, sl⟩ := R.freeze
  obtain ⟨o, e1, e2⟩ := R.sl.at_ i _ hi
  have e2' : o = some (.ref l) := e2
  subst e2'
  have s2 := sl.set i (Va.lst (off_out nl |>.trans hx) hv)
  have es : σ.set i (some (.ref l)) = σ := by
    apply List.ext_getElem? 
    intro k
    by_cases q : k = i
    · subst q
      have hl := (List.getElem?_eq_some_iff.mp e1).1
      rw [List.getElem?_set_self hl, e1]
    · rw [List.getElem?_set_ne (Ne.symm q)]
  rw [es] at s2
  have nd := R.nd
  rw [List.map_cons] at nd
  refine h σ H ⟨R.wd, R.fr, s2, fun p hp => ⟨(R.mu p (List.mem_cons_of_mem _ hp)).1, (R.mu p (List.mem_cons_of_mem _ hp)).2.up (same_offs fun a ha => ?_) fun _ z => z⟩, (List.nodup_cons.mp nd).2⟩
  rcases List.mem_append.mp ha with z | z
  · exact List.mem_append_left _ z
  · exact List.mem_append_right _ (by rw [List.map_cons]; exact List.mem_cons_of_mem _ z)
/-- return e -/
theorem run_retP (he : Ev X W Γ μ e P) (hD : ∀ v d H, P d → Fr W H → Va X.K (off W.M H) v d → D.rt v H) : Run X W Γ μ (.Return (some e) pos :: rest) D := fun σ H R =>
  wSs_cons ((ps_ret wE.pe).w (he σ H R _ fun v d H2 R2 e2 r p => hD v d H2 p R2.fr (r.up (same_offs fun a ha => List.mem_append_left _ ha))))
theorem run_ret {P : PyData → Prop} {nx bk ct : L2.St → Hp → Prop} (he : Ed X W Γ μ e d) (hp : P d) (hW : Wle W0 W := by first | exact Wle.refl | assumption) : Run X W Γ μ (.Return (some e) pos :: rest) ⟨nx, RetP X.K W0 P, bk, ct⟩ :=
  run_retP he.ev fun v d' H p f r => ⟨f.down hW, d', by rw [p]; exact hp, r.up (same_offs fun a ha => hW.m a ha)⟩
/-- return a local list -/
theorem run_retL {P : PyData → Prop} {nx bk ct : L2.St → Hp → Prop} (i : Nat) {n : Str} {l : Addr} {ys : List PyData} (hp : P (.list ys)) (hW : Wle W0 W := by first | exact Wle.refl | assumption)
    (hi : Γ[i]? = some (.r l) := by rfl) (hN : X.N[i]? = some n := by rfl) (hv : Vis X.env.scope n := by first | exact Or.inl rfl | exact Or.inr (Or.inl rfl) | exact Or.inr (Or.inr rfl))
    (h1 : (n == ("__debug__" : Str)) = false := by decide) (h2 : (n == ("__classdict__" : Str)) = false := by decide) (hl : i < Γ.length := by decide) : Run X W Γ ((l, .lst ys) :: μ) (.Return (some (.Name n p)) pos :: rest) ⟨nx, RetP X.K W0 P, bk, ct⟩ :=
  run_fix i (run_ret (P := P) (vr i (by rw [List.getElem?_set_self hl]) hN hv h1 h2) hp hW) hi
/-- if -/
theorem run_ifV {A : Bool → Prop} (hc : EvT X W Γ μ c A) (h1 : A true → Run X W Γ μ a { D with nx := wSs X rest D }) (h2 : A false → Run X W Γ μ b { D with nx := wSs X rest D }) : Run X W Γ μ (.If c a b pos :: rest) D := fun σ H R =>
  wSs_cons ((ps_if wT.pt wSs.ps wSs.ps).w (hc σ H R _ fun k H2 R2 e2 p => by
    cases k with
    | true => exact iteT (h1 p σ H2 R2)
    | false => exact iteF (h2 p σ H2 R2)))
theorem run_if {k : Bool} (hc : EdT X W Γ μ c k) (h1 : k = true → Run X W Γ μ a { D with nx := wSs X rest D }) (h2 : k = false → Run X W Γ μ b { D with nx := wSs X rest D }) : Run X W Γ μ (.If c a b pos :: rest) D :=
  run_ifV (hc.ev (P := fun z => z = k) rfl) (fun q => h1 q.symm) (fun q => h2 q.symm)
/-- the else that is not there: on with the rest -/
theorem run_skip (h : Run X W Γ μ rest D) : Run X W Γ μ [] { D with nx := wSs X rest D } := run_nil fun σ H R => h σ H R
/-- an expression alone -/
theorem run_exprP (he : Ev X W Γ μ e P) (h : ∀ d, P d → Run X W Γ μ rest D) (hs : swapsWith e none pos.line X.env = pure false := by rfl) : Run X W Γ μ (.Expr e pos :: rest) D := fun σ H R =>
  wSs_cons ((ps_expr wE.pe hs).w (he σ H R _ fun v d H2 R2 e2 r p => h d p σ H2 R2))
theorem run_expr (he : Ed X W Γ μ e d) (h : Run X W Γ μ rest D) (hs : swapsWith e none pos.line X.env = pure false := by rfl) : Run X W Γ μ (.Expr e pos :: rest) D := run_exprP he.ev (fun _ _ => h) hs
end
end HW
set_option maxHeartbeats 4000000
namespace HW
open PySem PySem.Spec PyProof.Rows L2
/-! ### walks -/
/-- the target takes the data d: put d at its slots ks -/
structure TgR (K : PySem.W.Frag) (g : TG) (ok : PyData → Prop) (put : PyData → List DV → List DV) (ks : List Nat) : Prop where
  run : ∀ (L : List Addr) (v : V) (d : PyData) (σ : L2.St) (H : Hp) (Γ : List DV) (Q : L2.St → Hp → Prop), Va K (off L H) v d → ok d → Slots K (off L H) σ Γ →
    (∀ σ', Slots K (off L H) σ' (put d Γ) → σ'.length = σ.length → (∀ i, i ∉ ks → σ'[i]? = σ[i]?) → Q σ' H) → g v σ H Q
theorem tg_name {K : PySem.W.Frag} (k : Nat) : TgR K (gName k) (fun _ => True) (fun d Γ => Γ.set k (.d d)) [k] := ⟨fun L v d σ H Γ Q r _ s q => q _ (s.set k r) (List.length_set ..) fun i hi => List.getElem?_set_ne (fun e => hi (by rw [e]; exact List.mem_cons_self))⟩
theorem tg_pair {K : PySem.W.Frag} {g1 g2 : TG} {ok1 ok2 : PyData → Prop} {put1 put2 : PyData → List DV → List DV} {k1 k2 : List Nat} (h1 : TgR K g1 ok1 put1 k1) (h2 : TgR K g2 ok2 put2 k2) :
    TgR K (gTup K 2 (gCons g1 (gCons g2 gNil))) (fun d => ∃ x y, d = .tuple [x, y] ∧ ok1 x ∧ ok2 y) (fun d Γ => match d with
      | .tuple [x, y] => put2 y (put1 x Γ)
      | _ => Γ) (k1 ++ k2) := ⟨fun L v d σ H Γ Q r o s q => by
  obtain ⟨x, y, rfl, o1, o2⟩ := o
  cases r with
  | tup hs hv =>
    cases hv with
    | cons r1 hv =>
      cases hv with
      | cons r2 hv =>
        cases hv
        refine ⟨_, _, rfl, SqT.up same_off hs, rfl, _, _, rfl, ?_⟩
        refine h1.run L _ x σ H Γ _ r1 o1 s fun σ1 s1 l1 e1 => ?_
        refine ⟨_, _, rfl, ?_⟩
        refine h2.run L _ y σ1 H _ _ r2 o2 s1 fun σ2 s2 l2 e2 => ?_
        refine ⟨rfl, q σ2 s2 (l2.trans l1) fun i hi => ?_⟩
        rw [e2 i (fun z => hi (List.mem_append_right _ z)), e1 i (fun z => hi (List.mem_append_left _ z))]⟩

/-! ### comprehensions -/
def wipeD (vs : List Nat) (Γ : List DV) : List DV := match vs with
  | [] => Γ
  | v :: vs => (wipeD vs Γ).set v .no
theorem Slots.wipe {K : PySem.W.Frag} {H : Hp} {σ : L2.St} {Γ : List DV} (h : Slots K H σ Γ) : ∀ vs : List Nat, Slots K H (wipe σ vs) (wipeD vs Γ)
  | [] => h
  | v :: vs => (Slots.wipe h vs).no v
theorem wipe_get {σ : L2.St} {i : Nat} : ∀ {vs : List Nat}, (wipe σ vs)[i]? = if i ∈ vs then (if i < σ.length then some none else none) else σ[i]?
  | [] => by simp [L2.wipe]
  | v :: vs => by
    show ((wipe σ vs).set v none)[i]? = _
    by_cases q : i = v
    · subst q
      by_cases hl : i < σ.length
      · rw [List.getElem?_set_self (by rw [wipe_length]; exact hl), if_pos List.mem_cons_self, if_pos hl]
      · rw [if_pos List.mem_cons_self, if_neg hl]
        exact List.getElem?_eq_none (by rw [List.length_set, wipe_length]; omega)
    · rw [List.getElem?_set_ne (Ne.symm q), wipe_get]
      by_cases m : i ∈ vs
      · rw [if_pos m, if_pos (List.mem_cons_of_mem _ m)]
      · rw [if_neg m, if_neg (fun z => (List.mem_cons.mp z).elim q m)]
theorem wipe_eq {σ σ' : L2.St} {vs ks : List Nat} (hk : ∀ k ∈ ks, k ∈ vs) (hl : σ'.length = (wipe σ vs).length) (h : ∀ i, i ∉ ks → σ'[i]? = (wipe σ vs)[i]?) : wipe σ' vs = wipe σ vs := by
  apply List.ext_getElem?
  intro i
  rw [wipe_get, wipe_get]
  rw [wipe_length] at hl
  by_cases m : i ∈ vs
  · rw [if_pos m, if_pos m, hl]
  · rw [if_neg m, if_neg m, h i (fun z => m (hk i z)), wipe_get, if_neg m]
/-- e in whatever block -/
def wEb (X : Cx) (scope : Scope) (e : Expr) : TE := fun σ H Q => ∀ s H0 C cl fp, wE (blkOf X scope s H0 C cl fp) e σ H Q
theorem wEb.pe {X : Cx} {scope : Scope} {e : Expr} (s : Shared) (H : Hp) (C : Addr) (cl : List (Str × Addr)) (fp : List Addr) : PE (blkOf X scope s H C cl fp) e (wEb X scope e) := ⟨fun pins st _ _ _ I h => h s H C cl fp pins st I⟩
section
variable {X : Cx} {W : Wd} {Γ : List DV} {μ : Mu} {α : Type} {tg iter elt t : Expr} {ifs : List Expr} {scope : Scope} {own : List (Str × Nat)} {pos : Pos} {enc : α → PyData} {P : List α → Prop} {g : TG} {ok : PyData → Prop} {put : PyData → List DV → List DV} {ks : List Nat} {c : α → Bool} {E : α → PyData → Prop}
theorem psnoc {α β : Type} {F : α → β → Prop} {a : α} {b : β} : ∀ {l₁ : List α} {l₂ : List β}, Paired F l₁ l₂ → F a b → Paired F (l₁ ++ [a]) (l₂ ++ [b])
  | _, _, .nil, h => .cons h .nil
  | _, _, .cons r t, h => .cons r (psnoc t h)
theorem take_succ_filter {xs : List α} {i : Nat} {x : α} (h : xs[i]? = some x) : (xs.take (i + 1)).filter c = (xs.take i).filter c ++ (if c x = true then [x] else []) := by
  rw [List.take_add_one, h]
  show (xs.take i ++ [x]).filter c = _
  rw [List.filter_append]
  by_cases q : c x = true
  · rw [if_pos q, List.filter_cons_of_pos q]; rfl
  · rw [if_neg q, List.filter_cons_of_neg q]; rfl
/-- the reading of a comprehension: a list whose items are E of the items kept -/
theorem lc_read {tt : TT} {wi : TI} (hi : ∀ σ H, Rep X.K W Γ μ σ H → ∀ R : It → Hp → Prop, (∀ xs J H1, P xs → Rep X.K W Γ μ σ H1 → XT (hd W μ) H H1 → WalkD X.K (off (hd W μ) H1) J (xs.map enc) → R J H1) → wi σ H R)
    (hg : TgR X.K g ok put ks) (hk : ∀ k ∈ ks, k ∈ own.map (·.2)) (hok : ∀ xs, P xs → ∀ x ∈ xs, ok (enc x)) (hz : ∀ xs, P xs → xs.length ≤ 16777216)
    (ht : ∀ xs, P xs → ∀ x ∈ xs, ∀ W1, Wle W W1 → ∀ σ H, Rep X.K W1 (put (enc x) (wipeD (own.map (·.2)) Γ)) μ σ H → ∀ Q : Bool → Hp → Prop, (∀ H2, Rep X.K W1 (put (enc x) (wipeD (own.map (·.2)) Γ)) μ σ H2 → Q (c x) H2) → tt σ H Q)
    (he : ∀ xs, P xs → ∀ x ∈ xs, c x = true → ∀ W1, Wle W W1 → ∀ s H C cl fp, Ev (blkOf X scope s H C cl fp) W1 (put (enc x) (wipeD (own.map (·.2)) Γ)) μ elt (E x))
    {σ : L2.St} {H : Hp} (R : Rep X.K W Γ μ σ H) {Q : VK} (q : ∀ xs ys v H2, P xs → Paired E (xs.filter c) ys → Rep X.K W Γ μ σ H2 → XT (hd W μ) H H2 → Va X.K (off (hd W μ) H2) v (.list ys) → (∃ D, v = .ref D ∧ Rep X.K W Γ ((D, .lst ys) :: μ) σ H2 ∧ Same (off (hd W μ) H) (off (hd W ((D, .lst ys) :: μ)) H2)) → Q v H2) :
    tLc wi g tt (wEb X scope elt) (own.map (·.2)) σ H Q := by
  refine hi σ H R _ fun xs J H1 px R1 e1 wk D hD => ?_
  -- the invariant
  let vs := own.map (·.2)
  let Pv : Nat → Hp → Prop := fun i H' => ∃ ys, Paired E ((xs.take i).filter c) ys ∧ Rep X.K (W.now μ H1) (wipeD vs Γ) ((D, .lst ys) :: μ) (wipe σ vs) H'
  have R1n := R1.now
  have Rw : Rep X.K (W.now μ H1) (wipeD vs Γ) μ (wipe σ vs) H1 := ⟨R1n.wd, R1n.fr, R1n.sl.wipe vs, R1n.mu, R1n.nd⟩
  have h0 : Pv 0 (upd H1 D (.lst [])) := ⟨[], by simp only [List.take_zero, List.filter_nil]; exact .nil, Rw.born hD ⟨[], upd_same, .nil⟩⟩
  have nDmu : ∀ {i H'}, Pv i H' → Same (off (hd W μ) H1) H' := fun ⟨ys, _, Rp⟩ a o e => by
    obtain ⟨h1, h2⟩ := off_some e
    refine Rp.fr.keep a o (fun z => h1 (List.mem_append_left _ (Rep.isRow_M Rp.wd z))) ?_
    show off (μ.map (·.1)) H1 a = some o
    rw [off_out (fun z => h1 (List.mem_append_right _ z))]
    exact h2
  refine ⟨fun i m H' => m = xs.length - i ∧ i ≤ xs.length ∧ Pv i H', ⟨xs.length, by simp, Nat.zero_le _, h0⟩, ?_⟩
  rintro i m H' ⟨rfl, hile, p⟩
  by_cases hlt : i < xs.length
  · refine .inr ⟨wk.go i H' (by simpa using hlt) (nDmu p), Pv (i + 1), fun H2 p' => ⟨xs.length - (i + 1), by omega, rfl, hlt, p'⟩, fun v H2 y => ?_⟩
    obtain ⟨ys, hys, Rp⟩ := p
    obtain ⟨x, hx⟩ : ∃ x, xs[i]? = some x := ⟨xs[i], by simp [hlt]⟩
    have xin : x ∈ xs := List.mem_of_getElem? hx
    have dx : (xs.map enc)[i]? = some (enc x) := by rw [List.getElem?_map, hx]; rfl
    -- the pool off the hidden objects
    have pool : Same (off (hd W μ) H1) (off (hd (W.now μ H1) ((D, .lst ys) :: μ)) H') := fun a o e => by
      obtain ⟨h1, h2⟩ := off_some e
      have na : a ≠ D := fun z => by rw [z, hD] at h2; cases h2
      rw [off_out (fun z => by
        rcases List.mem_append.mp z with z | z
        · exact h1 (List.mem_append_left _ z)
        · rw [List.map_cons] at z
          rcases List.mem_cons.mp z with z | z
          · exact na z
          · exact h1 (List.mem_append_right _ z))]
      exact nDmu ⟨ys, hys, Rp⟩ a o e
    obtain ⟨s2, r2⟩ := wk.yld i (enc x) H' v H2 _ dx Rp.nts pool y
    have Rp2 := Rp.same s2
    refine hg.run _ v (enc x) (wipe σ vs) H2 _ _ r2 (hok xs px x xin) Rp2.sl fun σ3 sl3 l3 u3 => ?_
    refine ⟨wipe_eq hk l3 u3, ?_⟩
    have R3 : Rep X.K (W.now μ H1) (put (enc x) (wipeD vs Γ)) ((D, .lst ys) :: μ) σ3 H2 := ⟨Rp2.wd, Rp2.fr, sl3, Rp2.mu, Rp2.nd⟩
    have le3 : Wle W ((W.now μ H1).park μ D H2) := R1.now_le.trans (park_le R3)
    have back : ∀ {H4 : Hp} {ys' : List PyData}, Rep X.K (W.now μ H1) (put (enc x) (wipeD vs Γ)) ((D, .lst ys') :: μ) σ3 H4 → XT (hd (W.now μ H1) ((D, .lst ys) :: μ)) H2 H4 → Rep X.K (W.now μ H1) (wipeD vs Γ) ((D, .lst ys') :: μ) (wipe σ vs) H4 := fun R4 x4 =>
      ⟨R4.wd, R4.fr, (Rp2.sl.up x4 : _), R4.mu, R4.nd⟩
    refine ht xs px x xin _ le3 σ3 H2 R3.park _ fun H4 R4 => ?_
    have x4 := park_xt R3 R4
    have R4' := R3.unpark R4
    by_cases hc : c x = true
    · rw [hc]
      refine iteT fun s H0 C cl fp => ?_
      refine he xs px x xin hc _ (R1.now_le.trans (park_le R4')) s H0 C cl fp σ3 H4 R4'.park _ fun v5 d5 H5 R5 x5 r5 p5 => ?_
      have x5' := park_xt R4' R5
      have R5' := R4'.unpark R5
      obtain ⟨acc, ha, hv⟩ := (R5'.mu _ List.mem_cons_self).2
      refine ⟨acc, ha, ?_, ys ++ [d5], ?_, ?_⟩
      · rw [hv.length, ← plen hys]
        have l1 : ((xs.take i).filter c).length ≤ (xs.take i).length := List.length_filter_le ..
        rw [List.length_take] at l1
        have l2 := hz xs px
        show _ < 16777216
        omega
      · rw [take_succ_filter hx, if_pos hc]
        exact psnoc hys p5
      · have oc : off (hd ((W.now μ H1).park μ D H4) μ) H5 = off (hd (W.now μ H1) ((D, .lst ys) :: μ)) H5 := off_cong fun a => mem_park
        have z := back R5' (x4.trans x5')
        exact z.chg (j := 0) (m' := .lst (ys ++ [d5])) rfl ⟨acc ++ [v5], upd_same, hv.app (.cons (oc ▸ r5) .nil)⟩
    · have hc' : c x = false := by simpa using hc
      rw [hc']
      refine iteF ⟨ys, ?_, back R4' x4⟩
      rw [take_succ_filter hx, if_neg hc, List.append_nil]
      exact hys
  · have e : i = xs.length := by omega
    subst e
    refine .inl ⟨by have := wk.stop H' (nDmu p); simpa using this, ?_⟩
    have sm := nDmu p
    obtain ⟨ys, hys, Rp⟩ := p
    rw [List.take_length] at hys
    obtain ⟨acc, ha, hv, nl, sl⟩ := Rp.freeze
    have up : XT (hd W μ) H1 H' := fun a o e => by
      rw [off_out (off_some e).1]
      exact sm a o e
    have le1 : Wle W (W.now μ H1) := R1.now_le
    have up2 : Same (off (hd W μ) H1) (off (hd W ((D, .lst ys) :: μ)) H') := fun a o e => by
      obtain ⟨h1, h2⟩ := off_some e
      have na : a ≠ D := fun z => by rw [z, hD] at h2; cases h2
      rw [off_out (fun z => by
        rcases List.mem_append.mp z with z | z
        · exact h1 (List.mem_append_left _ z)
        · rw [List.map_cons] at z
          rcases List.mem_cons.mp z with z | z
          · exact na z
          · exact h1 (List.mem_append_right _ z))]
      exact sm a o e
    have RN : Rep X.K W Γ ((D, .lst ys) :: μ) σ H' := ⟨R.wd, Rp.fr.down le1, R1.sl.up up2, fun p hp => ⟨by
      rcases List.mem_cons.mp hp with e | e
      · rw [e]
        exact ((R1.born hD (m := .lst []) (o := .lst []) ⟨[], upd_same, .nil⟩).mu _ List.mem_cons_self).1
      · exact (R1.mu p e).1, (Rp.mu p hp).2⟩, Rp.nd⟩
    refine q xs ys (.ref D) H' px hys ⟨R.wd, Rp.fr.down le1, R1.sl.up up, fun p hp => ⟨(R1.mu p hp).1, (Rp.mu p (List.mem_cons_of_mem _ hp)).2.up (same_offs fun a ha => ?_) fun _ z => z⟩, R.nd⟩ (e1.trans up) (.lst (off_out nl |>.trans ha) hv) ⟨D, rfl, RN, fun a o e => by
      by_cases hx : a ∈ hd W μ
      · rw [off_in hx] at e
        cases e
      · refine up2 a o ?_
        rw [off_out hx]
        exact (off_some (e1 a o e)).2⟩
    rcases List.mem_append.mp ha with z | z
    · exact List.mem_append_left _ z
    · exact List.mem_append_right _ (by rw [List.map_cons]; exact List.mem_cons_of_mem _ z)
theorem LcEv.ed {ys : List PyData} (h : LcEv X W Γ μ elt tg iter ifs scope (fun z => z = ys)) (hN : X.N.Nodup) (hc : X.calm = true := by rfl) (hs : ∀ x, foldedSetIterable iter X.env x = pure x := by intro _; rfl) :
    Ed X W Γ μ (.ListComp elt [⟨tg, iter, ifs, 0⟩] scope pos) (.list ys) := (h.ev (pos := pos) hN hc hs |>.imp (B := fun z => z = .list ys) fun d ⟨l, e1, e2⟩ => by rw [e1, e2]).ed
/-- x = [..] -/
theorem run_setLcP {Z : List PyData → Prop} {D : Ends} {rest : List Stmt} {spos py : Pos} (i : Nat) {n : Str} (h : LcEv X W Γ μ elt tg iter ifs scope Z) (hr : ∀ ys, Z ys → Run X W (Γ.set i (.d (.list ys))) μ rest D) (hN : X.N.Nodup) (hn : X.N[i]? = some n := by rfl) (hl : X.env.scope.names.lookup n = some .local := by rfl)
    (hsw : swapsWith (.ListComp elt [⟨tg, iter, ifs, 0⟩] scope pos) (some (.Name n py)) spos.line X.env = pure true := by exact (sw_true rfl rfl rfl (by decide +kernel))) (hc : X.calm = true := by rfl) (hs : ∀ x, foldedSetIterable iter X.env x = pure x := by intro _; rfl) :
    Run X W Γ μ (.Assign [.Name n py] (.ListComp elt [⟨tg, iter, ifs, 0⟩] scope pos) spos :: rest) D := fun σ H R => by
  obtain ⟨wi, g, tt, te, own, h1, h2, h3, h4, h5, h6⟩ := h.ex
  refine wSs_cons ((ps_setLc hc hN hn hl hsw h1 h2 h3 h4 h5 hs).w ?_)
  exact h6 σ H R _ fun ys v H2 z R2 x2 r _ => hr ys z _ _ ⟨R2.wd, R2.fr, R2.sl.set i r, R2.mu, R2.nd⟩
theorem run_setLc {ys : List PyData} {D : Ends} {rest : List Stmt} {spos py : Pos} (i : Nat) {n : Str} (h : LcEv X W Γ μ elt tg iter ifs scope (fun z => z = ys)) (hr : Run X W (Γ.set i (.d (.list ys))) μ rest D) (hN : X.N.Nodup) (hn : X.N[i]? = some n := by rfl) (hl : X.env.scope.names.lookup n = some .local := by rfl)
    (hsw : swapsWith (.ListComp elt [⟨tg, iter, ifs, 0⟩] scope pos) (some (.Name n py)) spos.line X.env = pure true := by exact (sw_true rfl rfl rfl (by decide +kernel))) (hc : X.calm = true := by rfl) (hs : ∀ x, foldedSetIterable iter X.env x = pure x := by intro _; rfl) :
    Run X W Γ μ (.Assign [.Name n py] (.ListComp elt [⟨tg, iter, ifs, 0⟩] scope pos) spos :: rest) D := run_setLcP i h (fun _ z => z ▸ hr) hN hn hl hsw hc hs
/-- builders: over any target, without a test -/
theorem lc0 (own : List (Str × Nat)) (hi : IterV X W Γ μ tg iter enc P) (hg : TgR X.K g ok put ks) (hpg : ∀ s H C cl fp, PG (blkOf X scope s H C cl fp) tg g) (hok : ∀ xs, P xs → ∀ x ∈ xs, ok (enc x)) (hz : ∀ xs, P xs → xs.length ≤ 16777216)
    (he : ∀ xs, P xs → ∀ x ∈ xs, ∀ W1, Wle W W1 → ∀ s H C cl fp, Ev (blkOf X scope s H C cl fp) W1 (put (enc x) (wipeD (own.map (·.2)) Γ)) μ elt (E x)) (hb : BlkOk X.N X.env.scope scope own := by exact blkOk_by (by kernel_rfl)) (hk : ∀ k ∈ ks, k ∈ own.map (·.2) := by decide) :
    LcEv X W Γ μ elt tg iter [] scope (fun ys => ∃ xs, P xs ∧ Paired E xs ys) := ⟨by
  obtain ⟨wi, h1, h2⟩ := hi
  refine ⟨wi, g, tYes, wEb X scope elt, own, h1, hb, hpg, fun _ _ _ _ _ => pts_nil, wEb.pe, fun σ H R Q k => ?_⟩
  refine lc_read (c := fun _ => true) (E := E) h2 hg hk hok hz (fun _ _ _ _ _ _ σ H R Q q => q H R) (fun xs px x hx _ W1 l s H C cl fp => he xs px x hx W1 l s H C cl fp) R fun xs ys v H2 px hp R2 x2 r rn => k ys v H2 ⟨xs, px, ?_⟩ R2 x2 r rn
  have e : xs.filter (fun _ => true) = xs := List.filter_eq_self.mpr fun _ _ => rfl
  rw [e] at hp
  exact hp⟩
/-- .. with one -/
theorem lc1 (own : List (Str × Nat)) (hi : IterV X W Γ μ tg iter enc P) (hg : TgR X.K g ok put ks) (hpg : ∀ s H C cl fp, PG (blkOf X scope s H C cl fp) tg g) (hok : ∀ xs, P xs → ∀ x ∈ xs, ok (enc x)) (hz : ∀ xs, P xs → xs.length ≤ 16777216)
    (ht : ∀ xs, P xs → ∀ x ∈ xs, ∀ W1, Wle W W1 → ∀ s H C cl fp, EdT (blkOf X scope s H C cl fp) W1 (put (enc x) (wipeD (own.map (·.2)) Γ)) μ t (c x))
    (he : ∀ xs, P xs → ∀ x ∈ xs, c x = true → ∀ W1, Wle W W1 → ∀ s H C cl fp, Ev (blkOf X scope s H C cl fp) W1 (put (enc x) (wipeD (own.map (·.2)) Γ)) μ elt (E x)) (hb : BlkOk X.N X.env.scope scope own := by exact blkOk_by (by kernel_rfl)) (hk : ∀ k ∈ ks, k ∈ own.map (·.2) := by decide) :
    LcEv X W Γ μ elt tg iter [t] scope (fun ys => ∃ xs, P xs ∧ Paired E (xs.filter c) ys) := ⟨by
  obtain ⟨wi, h1, h2⟩ := hi
  refine ⟨wi, g, wTb X scope t, wEb X scope elt, own, h1, hb, hpg, fun s H C cl fp => pts_one (wTb.pt s H C cl fp), wEb.pe, fun σ H R Q k => ?_⟩
  exact lc_read (c := c) (E := E) h2 hg hk hok hz (fun xs px x hx W1 l σ H R Q q s H0 C cl fp => ht xs px x hx W1 l s H0 C cl fp σ H R Q fun H2 R2 _ => q H2 R2) he R fun xs ys v H2 px hp R2 x2 r rn => k ys v H2 ⟨xs, px, hp⟩ R2 x2 r rn⟩
end
/-- the walked thing, told -/
abbrev IterD (X : Cx) (W : Wd) (Γ : List DV) (μ : Mu) {α : Type} (tg iter : Expr) (enc : α → PyData) (xs : List α) : Prop := IterV X W Γ μ tg iter enc (fun l => l = xs)
theorem paired_map {α : Type} {f : α → PyData} : ∀ {xs : List α} {ys : List PyData}, Paired (fun x y => y = f x) xs ys → ys = xs.map f
  | _, _, .nil => rfl
  | _, _, .cons r t => by rw [r, paired_map t]; rfl
section
variable {X : Cx} {W : Wd} {Γ : List DV} {μ : Mu} {α : Type} {tg iter elt t : Expr} {ifs : List Expr} {scope : Scope} {pos p : Pos} {enc : α → PyData} {xs : List α} {c : α → Bool} {f : α → PyData} {n : Str}
/-- [elt for n in iter] -/
theorem lcN0 (k : Nat) (hi : IterD X W Γ μ (.Name n p) iter enc xs) (hz : xs.length ≤ 16777216) (f : α → PyData)
    (he : ∀ x ∈ xs, ∀ W1, Wle W W1 → ∀ s H C cl fp, Ed (blkOf X scope s H C cl fp) W1 ((wipeD [k] Γ).set k (.d (enc x))) μ elt (f x)) (hN : X.N.Nodup) (hn : X.N[k]? = some n := by rfl)
    (hv : ∀ s H C cl fp, Loc (blkOf X scope s H C cl fp).env.scope n := by intro _ _ _ _ _; first | exact Or.inl rfl | exact Or.inr rfl) (hf : ∀ s H C cl fp, (blkOf X scope s H C cl fp).fn n = true ∨ (blkOf X scope s H C cl fp).env.scope.names.lookup n = some .local := by intro _ _ _ _ _; first | exact .inr rfl | exact .inl rfl) (hb : BlkOk X.N X.env.scope scope [(n, k)] := by exact blkOk_by (by kernel_rfl)) :
    LcEv X W Γ μ elt (.Name n p) iter [] scope (fun ys => ys = xs.map f) := by
  have h := lc0 (E := fun x y => y = f x) (elt := elt) (scope := scope) [(n, k)] hi (tg_name (K := X.K) k) (fun s H C cl fp => pg_name hN hn (hv s H C cl fp) (hf s H C cl fp)) (fun _ _ _ _ => trivial) (fun _ e => e ▸ hz) (fun _ e x hx W1 l s H C cl fp => (he x (e ▸ hx) W1 l s H C cl fp).ev) hb (by simp)
  obtain ⟨wi, g, tt, te, own, h1, h2, h3, h4, h5, h6⟩ := h.ex
  exact ⟨wi, g, tt, te, own, h1, h2, h3, h4, h5, fun σ H R Q k => h6 σ H R Q fun ys v H2 ⟨l, e, hp⟩ => k ys v H2 (by rw [← e]; exact paired_map hp)⟩
/-- [elt for n in iter if t] -/
theorem lcN1 (k : Nat) (hi : IterD X W Γ μ (.Name n p) iter enc xs) (hz : xs.length ≤ 16777216) (c : α → Bool) (f : α → PyData)
    (ht : ∀ x ∈ xs, ∀ W1, Wle W W1 → ∀ s H C cl fp, EdT (blkOf X scope s H C cl fp) W1 ((wipeD [k] Γ).set k (.d (enc x))) μ t (c x))
    (he : ∀ x ∈ xs, c x = true → ∀ W1, Wle W W1 → ∀ s H C cl fp, Ed (blkOf X scope s H C cl fp) W1 ((wipeD [k] Γ).set k (.d (enc x))) μ elt (f x)) (hN : X.N.Nodup) (hn : X.N[k]? = some n := by rfl)
    (hv : ∀ s H C cl fp, Loc (blkOf X scope s H C cl fp).env.scope n := by intro _ _ _ _ _; first | exact Or.inl rfl | exact Or.inr rfl) (hf : ∀ s H C cl fp, (blkOf X scope s H C cl fp).fn n = true ∨ (blkOf X scope s H C cl fp).env.scope.names.lookup n = some .local := by intro _ _ _ _ _; first | exact .inr rfl | exact .inl rfl) (hb : BlkOk X.N X.env.scope scope [(n, k)] := by exact blkOk_by (by kernel_rfl)) :
    LcEv X W Γ μ elt (.Name n p) iter [t] scope (fun ys => ys = (xs.filter c).map f) := by
  have h := lc1 (E := fun x y => y = f x) (c := c) (t := t) (elt := elt) (scope := scope) [(n, k)] hi (tg_name (K := X.K) k) (fun s H C cl fp => pg_name hN hn (hv s H C cl fp) (hf s H C cl fp)) (fun _ _ _ _ => trivial) (fun _ e => e ▸ hz) (fun _ e x hx W1 l s H C cl fp => ht x (e ▸ hx) W1 l s H C cl fp) (fun _ e x hx hc W1 l s H C cl fp => (he x (e ▸ hx) hc W1 l s H C cl fp).ev) hb (by simp)
  obtain ⟨wi, g, tt, te, own, h1, h2, h3, h4, h5, h6⟩ := h.ex
  exact ⟨wi, g, tt, te, own, h1, h2, h3, h4, h5, fun σ H R Q k => h6 σ H R Q fun ys v H2 ⟨l, e, hp⟩ => k ys v H2 (by rw [← e]; exact paired_map hp)⟩
end
end HW
set_option maxHeartbeats 4000000
namespace HW
open PySem PySem.Spec PyProof.Rows L2
section
variable {X : Cx} {W : Wd} {Γ : List DV} {μ : Mu} {α : Type} {tg iter e a b : Expr} {pos p : Pos} {enc : α → PyData} {P : List α → Prop} {xs : List α}
theorem walk_list {K : PySem.W.Frag} {pool : Hp} {a : Addr} {vs : List V} {ds : List PyData} (h : pool a = some (.lst vs)) (hv : VaAll K pool vs ds) : WalkD K pool (Itl K a) ds where
  go := fun i H hi s => by
    have hl : i < vs.length := by rw [hv.length]; exact hi
    exact ⟨vs, vs[i], SqL.of (s a _ h), by simp [hl]⟩
  yld := fun i d H v H' L hd _ s y => by
    obtain ⟨rfl, y⟩ := y
    refine ⟨Same.refl _, ?_⟩
    obtain ⟨v2, e, r⟩ := hv.at hd
    have := y vs (SqL.of ((off_some (s a _ h)).2))
    rw [e] at this
    cases this
    exact r.up s
  stop := fun H s => ⟨vs, SqL.of (s a _ h), by rw [hv.length]; exact Nat.le_refl _⟩
theorem it_listV (h : Ev X W Γ μ iter (fun z => ∃ xs, z = .list (xs.map enc) ∧ P xs)) : IterV X W Γ μ tg iter enc P := ⟨_, pi_list wE.pe, fun σ H R R' k => h σ H R _ fun v d H1 R1 e1 r ⟨xs, e, px⟩ => by
  subst e
  cases r with
  | lst ha hv => exact ⟨_, rfl, ⟨_, SqL.of (off_some ha).2⟩, k xs _ H1 px R1 e1 (walk_list ha hv)⟩⟩
theorem it_list {ds : List PyData} (h : Ed X W Γ μ iter (.list ds)) (e : ds = xs.map enc := by rfl) : IterD X W Γ μ tg iter enc xs := it_listV (h.evP ⟨xs, by rw [e], rfl⟩)
/-- a sign as a text -/
abbrev sg (c : Nat) : PyData := .str ⟨#[c]⟩
theorem it_strV {P : List Nat → Prop} (h : Ev X W Γ μ iter (fun z => ∃ cs : List Nat, z = .str ⟨cs.toArray⟩ ∧ P cs)) : IterV X W Γ μ tg iter sg P := ⟨_, pi_str wE.pe, fun σ H R R' k => h σ H R _ fun v d H1 R1 e1 r ⟨cs, e, px⟩ => by
  subst e
  cases r
  refine ⟨_, rfl, k cs _ H1 px R1 e1 ⟨fun i H hi s => ?_, fun i d H v H' L hd _ s y => ?_, fun H s => ?_⟩⟩
  · show i < cs.toArray.size
    simpa using hi
  · obtain ⟨rfl, c, hc, rfl⟩ := y
    refine ⟨Same.refl _, ?_⟩
    have hc' : cs[i]? = some c := by simpa using hc
    rw [List.getElem?_map, hc'] at hd
    cases hd
    exact .str _
  · show cs.toArray.size ≤ _
    simp⟩
theorem it_str {cs : List Nat} {x : Str} (h : Ed X W Γ μ iter (.str x)) (e : x = ⟨cs.toArray⟩ := by rfl) : IterD X W Γ μ tg iter sg cs := it_strV (h.evP ⟨cs, by rw [e], rfl⟩)
/-- range(n), range(a, b) -/
abbrev nn (i : Nat) : PyData := .int (i : Int)
theorem walk_range {K : PySem.W.Frag} {pool : Hp} {lo : Int} {n : Nat} : WalkD K pool (Itr lo n) ((List.range n).map fun (i : Nat) => PyData.int (lo + (i : Int))) where
  go := fun i H hi s => by show i < n; simpa using hi
  yld := fun i d H v H' L hd _ s y => by
    obtain ⟨rfl, rfl⟩ := y
    refine ⟨Same.refl _, ?_⟩
    rw [List.getElem?_map] at hd
    obtain ⟨j, hj, rfl⟩ := Option.map_eq_some_iff.mp hd
    have hl : i < n := by
      have := (List.getElem?_eq_some_iff.mp hj).1
      simpa using this
    rw [List.getElem?_range hl] at hj
    cases hj
    exact .int _
  stop := fun H s => by show n ≤ _; simp
theorem it_rangeV {P : Nat → Prop} (h : EvA X W Γ μ [a] (fun ds => ∃ n : Int, ds = [.int n] ∧ -(2 ^ 62) ≤ n ∧ n < 2 ^ 62 ∧ P n.toNat)) (hm : X.mg "range" = none) (hg : Gl X "range" := by rfl) (hs : starEach [a] X.env = [(false, eval a X.env)] := by rfl) :
    IterV X W Γ μ tg (.Call (.Name "range" p) [a] [] pos) (fun i : Nat => PyData.int ((0 : Int) + (i : Int))) (fun l => ∃ n, l = List.range n ∧ P n) := ⟨_, pi_range1 hg hm wA.pa hs, fun σ H R R' k => h σ H R _ fun vs ds H1 R1 e1 r ⟨n, e, h1, h2, pn⟩ => by
  subst e
  cases r with
  | cons r rr =>
    cases rr
    cases r
    exact ⟨n, rfl, h1, h2, k _ _ H1 ⟨_, rfl, pn⟩ R1 e1 walk_range⟩⟩
theorem it_range {n : Nat} {z : Int} (h : Ed X W Γ μ a (.int z)) (hm : X.mg "range" = none) (e : z.toNat = n := by omega) (hz : -1000000000 ≤ z ∧ z ≤ 1000000000 := by omega) (hg : Gl X "range" := by rfl) (hs : starEach [a] X.env = [(false, eval a X.env)] := by rfl) :
    IterD X W Γ μ tg (.Call (.Name "range" p) [a] [] pos) nn (List.range n) := by
  have := it_rangeV (tg := tg) (p := p) (pos := pos) (P := fun m => m = n) ((ea_cons h ea_nil (by rw [hs]; rfl)).ev ⟨z, rfl, by omega, by omega, e⟩) hm hg hs
  obtain ⟨wi, h1, h2⟩ := this
  refine ⟨wi, h1, fun σ H R R' k => h2 σ H R R' fun xs J H1 px R1 e1 wk => ?_⟩
  obtain ⟨m, e, e3⟩ := px
  subst e
  subst e3
  refine k _ J H1 rfl R1 e1 ?_
  have e : (fun i : Nat => PyData.int ((0 : Int) + (i : Int))) = nn := by funext i; show PyData.int _ = PyData.int _; rw [Int.zero_add]
  rw [e] at wk
  exact wk
theorem it_range2 {n : Nat} {lo z : Int} (h1 : Ed X W Γ μ a (.int lo)) (h2 : Ed X W Γ μ b (.int z)) (hm : X.mg "range" = none) (e : (z - lo).toNat = n := by omega) (hz : (-1000000000 ≤ lo ∧ lo ≤ 1000000000) ∧ -1000000000 ≤ z ∧ z ≤ 1000000000 := by omega) (hg : Gl X "range" := by rfl)
    (hs : starEach [a, b] X.env = [(false, eval a X.env), (false, eval b X.env)] := by rfl) (hs2 : starEach [b] X.env = [(false, eval b X.env)] := by rfl) :
    IterD X W Γ μ tg (.Call (.Name "range" p) [a, b] [] pos) (fun i : Nat => PyData.int (lo + (i : Int))) (List.range n) := ⟨_, pi_range2 hg hm wA.pa hs hs2, fun σ H R R' k => (ea_cons h1 (ea_cons h2 ea_nil hs2) (by rw [hs, hs2])) σ H R _ fun vs H1 R1 e1 r => by
  cases r with
  | cons r rr =>
    cases rr with
    | cons r2 rr =>
      cases rr
      cases r
      cases r2
      refine ⟨lo, z, rfl, by omega, ?_⟩
      rw [e]
      exact k _ _ H1 rfl R1 e1 walk_range⟩
end
/-! ### for -/
section
variable {X : Cx} {W : Wd} {Γ : List DV} {μ : Mu} {α : Type} {tg iter : Expr} {body rest : List Stmt} {pos p : Pos} {enc : α → PyData} {P : List α → Prop} {g : TG} {ok : PyData → Prop} {put : PyData → List DV → List DV} {ks : List Nat} {D : Ends}
theorem Rep.wdown {K : PySem.W.Frag} {W W' : Wd} {Γ : List DV} {μ : Mu} {σ : L2.St} {H : Hp} (l : Wle W W') (ok : WdOk K W) (R : Rep K W' Γ μ σ H) : Rep K W Γ μ σ H := by
  refine Rep.down l ok (fun p hp => ?_) R
  cases e : W.H0 p.1 with
  | none => rfl
  | some o =>
    have h := (R.mu p hp).1
    by_cases q : W.isRow p.1
    · have hM := l.m _ (Rep.isRow_M ok q)
      exact absurd h (R.wd.hid _ hM)
    · rw [l.keep _ o q e] at h
      cases h
theorem run_forG (hi : IterV X W Γ μ tg iter enc P) (hg : TgR X.K g ok put ks) (hpg : PG X tg g) (hok : ∀ xs, P xs → ∀ x ∈ xs, ok (enc x)) (J : List α → Nat → List DV → Mu → Prop) (h0 : ∀ xs, P xs → J xs 0 Γ μ)
    (hs : ∀ xs, P xs → ∀ W1, Wle W W1 → ∀ i x Γ' μ', xs[i]? = some x → J xs i Γ' μ' → Run X W1 (put (enc x) Γ') μ' body { D with nx := StP X.K W1 (J xs (i + 1)), ct := StP X.K W1 (J xs (i + 1)), bk := wSs X rest D })
    (hd' : ∀ xs, P xs → ∀ Γ' μ', J xs xs.length Γ' μ' → Run X W Γ' μ' rest D) (hp : PassesOwn (model X.prog X.w) X.A X.env X.xe := by exact PassesOwn.never) (hc : X.calm = true := by rfl) (hf : ∀ x, foldedSetIterable iter X.env x = pure x := by intro _; rfl) :
    Run X W Γ μ (.For tg iter body [] pos :: rest) D := fun σ H R => by
  obtain ⟨wi, h1, h2⟩ := hi
  refine wSs_cons ((ps_for hp hc h1 hpg wSs.ps hf).w ?_)
  refine h2 σ H R _ fun xs J' H1 px R1 e1 wk => ?_
  have le1 : Wle W (W.now μ H1) := R1.now_le
  refine ⟨fun i m σ H => m = xs.length - i ∧ i ≤ xs.length ∧ StP X.K (W.now μ H1) (J xs i) σ H, ⟨xs.length, by simp, Nat.zero_le _, Γ, μ, h0 xs px, R1.now⟩, ?_⟩
  rintro i m σ' H' ⟨rfl, hile, Γ', μ', j, R'⟩
  have pool : Same (off (hd W μ) H1) (off (hd (W.now μ H1) μ') H') := fun a o e => by
    obtain ⟨h1, h2⟩ := off_some e
    have z : (W.now μ H1).H0 a = some o := by
      show off (μ.map (·.1)) H1 a = some o
      rw [off_out (fun z => h1 (List.mem_append_right _ z))]
      exact h2
    rw [off_out (fun q => by
      rcases List.mem_append.mp q with q | q
      · exact h1 (List.mem_append_left _ q)
      · obtain ⟨p, hp, rfl⟩ := List.mem_map.mp q
        rw [(R'.mu p hp).1] at z
        cases z)]
    exact R'.fr.keep a o (fun q => h1 (List.mem_append_left _ (Rep.isRow_M R1.wd q))) z
  have pool0 : Same (off (hd W μ) H1) H' := fun a o e => (off_some (pool a o e)).2
  by_cases hlt : i < xs.length
  · refine .inr ⟨wk.go i H' (by simpa using hlt) pool0, StP X.K (W.now μ H1) (J xs (i + 1)), fun σ2 H2 q => ⟨xs.length - (i + 1), by omega, rfl, hlt, q⟩, fun v H2 y => ?_⟩
    obtain ⟨x, hx⟩ : ∃ x, xs[i]? = some x := ⟨xs[i], by simp [hlt]⟩
    obtain ⟨s2, r2⟩ := wk.yld i (enc x) H' v H2 _ (by rw [List.getElem?_map, hx]; rfl) R'.nts pool y
    have R2 := R'.same s2
    refine hg.run _ v (enc x) σ' H2 _ _ r2 (hok xs px x (List.mem_of_getElem? hx)) R2.sl fun σ3 sl3 _ _ => ?_
    exact hs xs px _ le1 i x Γ' μ' hx j σ3 H2 ⟨R2.wd, R2.fr, sl3, R2.mu, R2.nd⟩
  · have e : i = xs.length := by omega
    subst e
    refine .inl ⟨by have := wk.stop H' pool0; simpa using this, ?_⟩
    exact hd' xs px Γ' μ' j σ' H' (R'.wdown le1 R.wd)
/-- for n in iter -/
theorem run_for {xs : List α} {n : Str} (k : Nat) (hi : IterD X W Γ μ (.Name n p) iter enc xs) (J : Nat → List DV → Mu → Prop) (h0 : J 0 Γ μ)
    (hs : ∀ W1, Wle W W1 → ∀ i x Γ' μ', xs[i]? = some x → J i Γ' μ' → Run X W1 (Γ'.set k (.d (enc x))) μ' body { D with nx := StP X.K W1 (J (i + 1)), ct := StP X.K W1 (J (i + 1)), bk := wSs X rest D })
    (hd' : ∀ Γ' μ', J xs.length Γ' μ' → Run X W Γ' μ' rest D) (hN : X.N.Nodup) (hn : X.N[k]? = some n := by rfl) (hx : Loc X.env.scope n := by first | exact Or.inl rfl | exact Or.inr rfl) (hff : X.fn n = true ∨ X.env.scope.names.lookup n = some .local := by first | exact .inr rfl | exact .inl rfl)
    (hp : PassesOwn (model X.prog X.w) X.A X.env X.xe := by exact PassesOwn.never) (hc : X.calm = true := by rfl) (hf : ∀ x, foldedSetIterable iter X.env x = pure x := by intro _; rfl) :
    Run X W Γ μ (.For (.Name n p) iter body [] pos :: rest) D :=
  run_forG hi (tg_name k) (pg_name hN hn hx hff) (fun _ _ _ _ => trivial) (fun _ => J) (fun _ _ => h0) (fun _ e W1 l i x Γ' μ' h j => hs W1 l i x Γ' μ' (e ▸ h) j) (fun _ e Γ' μ' j => hd' Γ' μ' (e ▸ j)) hp hc hf
/-- the end of a turn -/
theorem run_turn {Φ : List DV → Mu → Prop} (hD : D.nx = StP X.K W Φ := by rfl) (h : Φ Γ μ) : Run X W Γ μ [] D := run_nil fun σ H R => by
  rw [hD]
  exact ⟨Γ, μ, h, R⟩
end
/-! ### defs -/
/-- a def of data: R tells what comes -/
def spR (K : PySem.W.Frag) (R : List PyData → PyData → Prop) : Sp := fun vs H Q _ => ∃ (L : List Addr) (ds : List PyData) (d : PyData), (∀ a ∈ L, NT H a) ∧ VaAll K (off L H) vs ds ∧ R ds d ∧ ∀ v H', Same H H' → Va K (off L H') v d → Q v H'
/-- a def that draws from the row r (its first argument) -/
def spW (K : PySem.W.Frag) (pre : List PyData → Prop) (post : List PyData → PyData → Prop) : Sp := fun vs H Q _ => ∃ (M : List Addr) (r scr : Addr) (ns : List Int) (ws : List V) (ds : List PyData), vs = .ref r :: ws ∧ (∀ a ∈ M, NT H a) ∧ r ∈ M ∧
  RowC H r scr ∧ SqL K H scr (ns.map V.int) ∧ scr ≠ r ∧ ns.length ≤ 63 ∧ VaAll K (off M H) ws ds ∧ pre ds ∧ ∀ v H' d, post ds d → (∀ a o, a ≠ r → H a = some o → H' a = some o) → RowC H' r scr → Va K (off M H') v d → Q v H'
section
variable {P : Program} {w : World} {K : PySem.W.Frag} {mg : Str → Option Value} {base : Heap} {x qual : Str} {params : Arguments} {body : List Stmt} {scope : Scope} {f : Addr} {fd : FuncData} {N ps : List Str} {k : Nat}
theorem slots_start {H : Hp} : ∀ {vs : List V} {ds : List PyData} (m : Nat), VaAll K H vs ds → Slots K H (vs.map some ++ List.replicate m none) (ds.map .d ++ List.replicate m .no) := fun {vs ds} m h => by
  refine ⟨by simp [h.length], fun i dv q => ?_⟩
  by_cases hl : i < ds.length
  · rw [List.getElem?_append_left (by simpa using hl), List.getElem?_map] at q
    obtain ⟨d, hd, rfl⟩ := Option.map_eq_some_iff.mp q
    obtain ⟨v, hv, r⟩ := h.at hd
    refine ⟨some v, ?_, v, rfl, r⟩
    rw [List.getElem?_append_left (by rw [List.length_map, h.length]; exact hl), List.getElem?_map, hv]
    rfl
  · rw [List.getElem?_append_right (by simp; omega), List.length_map] at q
    have hm : i - ds.length < m := by
      have := (List.getElem?_eq_some_iff.mp q).1
      simpa using this
    rw [List.getElem?_replicate, if_pos hm] at q
    cases q
    refine ⟨none, ?_, trivial⟩
    rw [List.getElem?_append_right (by simp [h.length]; omega), List.length_map, h.length, List.getElem?_replicate, if_pos hm]
theorem fd_pure (F : FunD K x qual params body scope [] [] f fd) (S : FnScope N ps scope) (R : List PyData → PyData → Prop) (hlen : ∀ ds d, R ds d → ds.length = ps.length)
    (h : ∀ (cdv : Value) (A : Around) (outer : List Env) (s : Shared) (H : Hp) (E : XK), Room k (A.deeper (envOfC qual scope s.heap.objs.size f cdv)) → ∀ (W : Wd) (ds : List PyData) (d : PyData), W.row = none → R ds d →
      Run (cxOf CX0 P w K mg base N qual scope f cdv A outer s H E).nox W (ds.map .d ++ List.replicate (N.length - ps.length) .no) [] body { nx := fun _ H' => RetP K W (fun z => z = d) .non H', rt := RetP K W (fun z => z = d) }) :
    FnOk P w K mg base CX0 (k + 1) f fd ps (spR K R) := by
  refine F.ok S (fun vs H Q E ⟨L, ds, d, _, hv, r, _⟩ => by rw [hv.length]; exact hlen ds d r) fun cdv A outer s H vs Q E hr ⟨L, ds, d, hL, hv, r, q⟩ => ?_
  refine ⟨_, PSs.nox wSs.ps, ?_⟩
  let W : Wd := ⟨H, L, none⟩
  have ok : WdOk K W := ⟨fun a h => (hL a h).1, fun _ _ _ e => (nomatch e), fun a h => (hL a h).2⟩
  have nr : ∀ a, ¬ W.isRow a := fun a ⟨_, _, e⟩ => nomatch e
  have sl : Slots K (off (hd W []) H) (start N vs) (ds.map .d ++ List.replicate (N.length - ps.length) .no) := by
    show Slots K (off (L ++ []) H) (vs.map some ++ List.replicate (N.length - vs.length) none) _
    rw [List.append_nil, hv.length, hlen ds d r]
    exact slots_start _ hv
  have ret : ∀ v H', RetP K W (fun z => z = d) v H' → Q v H' := fun v H' ⟨fr, d', e, hv'⟩ => q v H' (fun a o e => fr.keep a o (nr a) e) (e ▸ hv')
  intro pins st I
  have z := h cdv A outer s H E hr W ds d rfl r (start N vs) H ⟨ok, ⟨fun _ _ _ e => e, fun _ _ _ e => nomatch e⟩, sl, fun _ z => (nomatch z), List.nodup_nil⟩ pins st I
  refine wpAny_mono z (fun fl s' hq => ?_) fun _ _ z => z
  cases fl with
  | next =>
    obtain ⟨σ', H', I', q'⟩ := hq
    exact ⟨σ', H', I', ret _ _ q'⟩
  | brk => exact hq
  | cont => exact hq
  | ret u =>
    obtain ⟨v, σ', H', I', r', q'⟩ := hq
    exact ⟨v, σ', H', I', r', ret _ _ q'⟩
theorem Fd.mono {j : Nat} {sp : Sp} (F : Fd P w K mg base j x ps sp) (h : j ≤ k) : Fd P w K mg base k x ps sp := by
  obtain ⟨f, fd, h1, h2⟩ := F.ex
  exact ⟨f, fd, h1.mono h, h2⟩
end
/-! ### calls of defs -/
section
variable {X : Cx} {W : Wd} {Γ : List DV} {μ : Mu} {e : Expr} {es : List Expr} {pos p : Pos} {x : Str} {ps : List Str} {k : Nat} {d : PyData} {ds : List PyData}
theorem ev_call {R : List PyData → PyData → Prop} {A : List PyData → Prop} {B : PyData → Prop} (F : Fd X.prog X.w X.K X.mg X.base k x ps (spR X.K R)) (hr : Room k X.A) (ha : EvA X W Γ μ (e :: es) A) (hR : ∀ ds, A ds → ∃ d, R ds d ∧ B d) (hg : Gl X x := by rfl)
    (hdb : (x == ("__debug__" : Str)) = false := by decide) (he : starEach (e :: es) X.env = (false, eval e X.env) :: starEach es X.env := by rfl) (hpl : (backTo pos (starEach es X.env)).any (·.1) = false := by rfl) : Ev X W Γ μ (.Call (.Name x p) (e :: es) [] pos) B := fun σ H R Q q => by
  obtain ⟨f, fd, h1, h2, h3, h4⟩ := F.ex
  refine (pe_call h1 hr hg h2 h3 h4 .nil pass0 wA.pa hdb he hpl).w (ha σ H R _ fun vs ds H2 R2 e2 r2 pa => ?_)
  obtain ⟨d, hd, pb⟩ := hR ds pa
  refine ⟨HW.hd W μ, ds, d, R2.nts, by rw [List.append_nil]; exact r2, hd, fun v H3 s3 r3 => q v d H3 (R2.same s3) (e2.trans (XT.same s3)) r3 pb⟩
theorem ed_call {R : List PyData → PyData → Prop} (F : Fd X.prog X.w X.K X.mg X.base k x ps (spR X.K R)) (hr : Room k X.A) (ha : EdA X W Γ μ (e :: es) ds) (hR : R ds d) (hg : Gl X x := by rfl)
    (hdb : (x == ("__debug__" : Str)) = false := by decide) (he : starEach (e :: es) X.env = (false, eval e X.env) :: starEach es X.env := by rfl) (hpl : (backTo pos (starEach es X.env)).any (·.1) = false := by rfl) : Ed X W Γ μ (.Call (.Name x p) (e :: es) [] pos) d :=
  (ev_call (B := fun z => z = d) F hr (ha.ev (P := fun l => l = ds) rfl) (fun _ e => ⟨d, e ▸ hR, rfl⟩) hg hdb he hpl).ed
/-- f(row, ..), f a def that draws -/
theorem ev_draw {pre : List PyData → Prop} {post : List PyData → PyData → Prop} {A : List PyData → Prop} {n : Str} {p2 : Pos} {r scr : Addr} {ns : List Int} (F : Fd X.prog X.w X.K X.mg X.base k x ps (spW X.K pre post)) (hr : Room k X.A) (hrow : W.row = some (r, scr, ns)) (i : Nat) (ha : EvA X W Γ μ es A) (hR : ∀ ds, A ds → pre ds)
    (hi : Γ[i]? = some (.r r) := by rfl) (hN : X.N[i]? = some n := by rfl) (hv : Vis X.env.scope n := by first | exact Or.inl rfl | exact Or.inr (Or.inl rfl) | exact Or.inr (Or.inr rfl))
    (h1 : (n == ("__debug__" : Str)) = false := by decide) (h2 : (n == ("__classdict__" : Str)) = false := by decide) (hg : Gl X x := by rfl)
    (hdb : (x == ("__debug__" : Str)) = false := by decide) (he : starEach (.Name n p2 :: es) X.env = (false, eval (.Name n p2) X.env) :: starEach es X.env := by rfl) (hpl : (backTo pos (starEach es X.env)).any (·.1) = false := by rfl) :
    Ev X W Γ μ (.Call (.Name x p) (.Name n p2 :: es) [] pos) (fun d => ∃ ds, A ds ∧ post ds d) := fun σ H R Q q => by
  obtain ⟨f, fd, g1, g2, g3, g4⟩ := F.ex
  refine (pe_call g1 hr hg g2 g3 g4 .nil pass0 (pa_cons (pe_var hN hv h1 h2) wA.pa he) hdb he hpl).w ?_
  obtain ⟨o, e1, e2⟩ := R.sl.at_ i _ hi
  have e2' : o = some (.ref r) := e2
  subst e2'
  refine ⟨_, e1, ha σ H R _ fun vs ds H2 R2 e2 r2 pa => ?_⟩
  obtain ⟨w1, w2, w3, w4⟩ := R2.wd.row r scr ns hrow
  have isr : W.isRow r := ⟨scr, ns, hrow⟩
  have sq : SqL X.K H2 scr (ns.map V.int) := SqL.up (fun o e => R2.fr.keep scr o (fun ⟨s2, n2, z⟩ => by
    rw [hrow] at z
    cases z
    exact w3 rfl) e) w2
  refine ⟨hd W μ, r, scr, ns, vs, ds, by rw [List.append_nil], R2.nts, List.mem_append_left _ w1, R2.fr.row r scr ns hrow, sq, w3, w4, r2, hR ds pa, fun v H3 d pd keep rc r3 => ?_⟩
  have nor : ∀ a, ¬ W.isRow a → a ≠ r := fun a n z => n (z ▸ isr)
  have xt : XT (hd W μ) H2 H3 := fun a o e => by
    obtain ⟨h1, h2⟩ := off_some e
    rw [off_out h1]
    exact keep a o (fun z => h1 (List.mem_append_left _ (z ▸ w1))) h2
  have R3 : Rep X.K W Γ μ σ H3 := ⟨R2.wd, ⟨fun a o n e => keep a o (nor a n) (R2.fr.keep a o n e), fun r' s' n' e => by
    rw [hrow] at e
    cases e
    exact rc⟩, R2.sl.up xt, fun p hp => ⟨(R2.mu p hp).1, (R2.mu p hp).2.up xt fun o e => keep _ o (fun z => by
      have := (R2.mu p hp).1
      rw [z] at this
      exact R2.wd.hid r w1 this) e⟩, R2.nd⟩
  exact q v d H3 R3 (e2.trans xt) r3 ⟨ds, pa, pd⟩
end
end HW
set_option maxHeartbeats 4000000
namespace HW
open PySem PySem.Spec PyProof.Rows L2
open SX (S)
section
variable {X : Cx}
/-! ### numbers -/
variable {i j : Int}
theorem o_add : OpD X (binaryOp .Add) (.int i) (.int j) (.int (i + j)) := OpR.to op_add fun a b H Q ⟨L, _, ha, hb, k⟩ => by cases ha; cases hb; exact ⟨i, j, rfl, rfl, k _ _ (Same.refl _) (.int _)⟩
theorem o_sub : OpD X (binaryOp .Sub) (.int i) (.int j) (.int (i - j)) := OpR.to op_sub fun a b H Q ⟨L, _, ha, hb, k⟩ => by cases ha; cases hb; exact ⟨i, j, rfl, rfl, k _ _ (Same.refl _) (.int _)⟩
theorem o_mul (h : CMul i j) : OpD X (binaryOp .Mult) (.int i) (.int j) (.int (i * j)) := OpR.to op_mul fun a b H Q ⟨L, _, ha, hb, k⟩ => by cases ha; cases hb; exact ⟨i, j, rfl, rfl, h, k _ _ (Same.refl _) (.int _)⟩
theorem o_mod (h : 0 < j) : OpD X (binaryOp .Mod) (.int i) (.int j) (.int (i % j)) := OpR.to op_mod fun a b H Q ⟨L, _, ha, hb, k⟩ => by cases ha; cases hb; exact ⟨i, j, rfl, rfl, h, k _ _ (Same.refl _) (.int _)⟩
theorem c_lt : OpD X (compareOp .Lt) (.int i) (.int j) (.bool (decide (i < j))) := OpR.to op_lt fun a b H Q ⟨L, _, ha, hb, k⟩ => by cases ha; cases hb; exact ⟨i, j, rfl, rfl, k _ _ (Same.refl _) (.bl _)⟩
theorem c_le : OpD X (compareOp .LtE) (.int i) (.int j) (.bool (decide (i ≤ j))) := OpR.to op_le fun a b H Q ⟨L, _, ha, hb, k⟩ => by cases ha; cases hb; exact ⟨i, j, rfl, rfl, k _ _ (Same.refl _) (.bl _)⟩
theorem c_gt : OpD X (compareOp .Gt) (.int i) (.int j) (.bool (decide (j < i))) := OpR.to op_gt fun a b H Q ⟨L, _, ha, hb, k⟩ => by cases ha; cases hb; exact ⟨i, j, rfl, rfl, k _ _ (Same.refl _) (.bl _)⟩
theorem c_eqI : OpD X (compareOp .Eq) (.int i) (.int j) (.bool (decide (i = j))) := OpR.to op_eq fun a b H Q ⟨L, _, ha, hb, k⟩ => by
  cases ha; cases hb
  refine ⟨rfl, ?_⟩
  rw [dec_int, Bool.beq_eq_decide_eq]
  exact k _ _ (Same.refl _) (.bl _)
theorem c_neI : OpD X (compareOp .NotEq) (.int i) (.int j) (.bool (!decide (i = j))) := OpR.to op_ne fun a b H Q ⟨L, _, ha, hb, k⟩ => by
  cases ha; cases hb
  refine ⟨rfl, ?_⟩
  rw [dec_int, Bool.beq_eq_decide_eq]
  exact k _ _ (Same.refl _) (.bl _)
/-! ### any data -/
theorem c_eqD {x y : PyData} (hu : X.A.units + 64 < cLine) (hx : SeqAt.shaped x = true) (hy : SeqAt.shaped y = true) : OpD X (compareOp .Eq) x y (.bool (PyData.eqv x y)) := OpR.to (op_eqD hu) fun a b H Q ⟨L, _, ha, hb, k⟩ =>
  ⟨x, y, (ha.up same_off).dp (nod_of_lay (SeqAt.canLay_of_shaped hx)), (hb.up same_off).dp (nod_of_lay (SeqAt.canLay_of_shaped hy)), hx, hy, k _ _ (Same.refl _) (.bl _)⟩
theorem c_neD {x y : PyData} (hu : X.A.units + 64 < cLine) (hx : SeqAt.shaped x = true) (hy : SeqAt.shaped y = true) : OpD X (compareOp .NotEq) x y (.bool (!PyData.eqv x y)) := OpR.to (op_neD hu) fun a b H Q ⟨L, _, ha, hb, k⟩ =>
  ⟨x, y, (ha.up same_off).dp (nod_of_lay (SeqAt.canLay_of_shaped hx)), (hb.up same_off).dp (nod_of_lay (SeqAt.canLay_of_shaped hy)), hx, hy, k _ _ (Same.refl _) (.bl _)⟩
theorem c_isN {x : PyData} : OpD X (compareOp .Is) x .none (.bool (match x with | .none => true | _ => false)) := OpR.to op_isN fun a b H Q ⟨L, _, ha, hb, k⟩ => by
  cases hb
  refine ⟨rfl, ?_⟩
  cases ha <;> exact k _ _ (Same.refl _) (.bl _)
theorem c_notN {x : PyData} : OpD X (compareOp .IsNot) x .none (.bool (match x with | .none => false | _ => true)) := OpR.to op_notN fun a b H Q ⟨L, _, ha, hb, k⟩ => by
  cases hb
  refine ⟨rfl, ?_⟩
  cases ha <;> exact k _ _ (Same.refl _) (.bl _)
/-! ### texts -/
variable {l m : List Nat}
theorem S_eq {a b : List Nat} : decide (V.str (S a) = V.str (S b)) = decide (a = b) := by rw [dec_str, SX.S_beq_eq]
theorem c_eqS : OpD X (compareOp .Eq) (.str (S l)) (.str (S m)) (.bool (decide (l = m))) := OpR.to op_eq fun a b H Q ⟨L, _, ha, hb, k⟩ => by
  cases ha; cases hb
  refine ⟨rfl, ?_⟩
  rw [S_eq]
  exact k _ _ (Same.refl _) (.bl _)
theorem c_neS : OpD X (compareOp .NotEq) (.str (S l)) (.str (S m)) (.bool (!decide (l = m))) := OpR.to op_ne fun a b H Q ⟨L, _, ha, hb, k⟩ => by
  cases ha; cases hb
  refine ⟨rfl, ?_⟩
  rw [S_eq]
  exact k _ _ (Same.refl _) (.bl _)
theorem o_adds (h : l.length + m.length ≤ 16777216) : OpD X (binaryOp .Add) (.str (S l)) (.str (S m)) (.str (S (l ++ m))) := OpR.to op_add_str fun a b H Q ⟨L, _, ha, hb, k⟩ => by
  cases ha; cases hb
  refine ⟨_, _, rfl, rfl, by rw [SX.S_len, SX.S_len]; exact h, ?_⟩
  rw [SX.S_cat]
  exact k _ _ (Same.refl _) (.str _)
/-- one sign in a text -/
theorem c_inS {c : Nat} : OpD X (compareOp .In) (sg c) (.str (S m)) (.bool (decide (c ∈ m))) := OpR.to op_in_sign fun a b H Q ⟨L, _, ha, hb, k⟩ => by
  cases ha; cases hb
  exact ⟨c, S m, rfl, rfl, k _ _ (Same.refl _) (.bl _)⟩
theorem at_nat {α : Type} {l : List α} {i : Int} {n : Nat} {c : α} (e : i = (n : Int)) (h : l[n]? = some c) : atI l i = some c := by
  rw [e]
  have hl := (List.getElem?_eq_some_iff.mp h).1
  unfold atI ixN
  rw [if_pos (Int.natCast_nonneg n), if_pos (by omega)]
  simpa using h
theorem i_str {c : Nat} {n : Nat} (hl : l.length ≤ 16777216) (hc : l[n]? = some c) (e : i = (n : Int) := by rfl) : IxD X (.str (S l)) (.int i) (sg c) := IxR.to ix_str fun a b H Q ⟨L, _, ha, hb, k⟩ => by
  cases ha; cases hb
  exact ⟨S l, i, c, rfl, rfl, by rw [SX.S_len]; exact hl, at_nat e hc, k _ _ (Same.refl _) (.str _)⟩
/-- s[-1] -/
theorem at_last {α : Type} {l : List α} {c : α} (h : l.getLast? = some c) : atI l (-1) = some c := by
  have hl : l ≠ [] := by rintro rfl; simp at h
  have hp : 0 < l.length := List.length_pos_iff.mpr hl
  unfold atI ixN
  rw [if_neg (by decide), if_pos (by omega)]
  have e : ((-1 : Int) + (l.length : Int)).toNat = l.length - 1 := by omega
  show l[((-1 : Int) + (l.length : Int)).toNat]? = some c
  rw [e, ← h, List.getLast?_eq_getElem?]
theorem i_strL {c : Nat} (hl : l.length ≤ 16777216) (hc : l.getLast? = some c) : IxD X (.str (S l)) (.int (-1)) (sg c) := IxR.to ix_str fun a b H Q ⟨L, _, ha, hb, k⟩ => by
  cases ha; cases hb
  exact ⟨S l, -1, c, rfl, rfl, by rw [SX.S_len]; exact hl, at_last hc, k _ _ (Same.refl _) (.str _)⟩
theorem c_lenS (h : l.length ≤ 16777216) : CallD X (.builtin "len") [.str (S l)] (nn l.length) := CallR.to call_len_str fun vs H Q ⟨L, _, hv, k⟩ => by
  cases hv with
  | cons h1 h2 =>
    cases h2; cases h1
    refine ⟨_, rfl, by rw [SX.S_len]; exact h, ?_⟩
    rw [SX.S_len]
    exact k _ _ (Same.refl _) (.int _)
/-! ### lists, tuples -/
variable {ds es : List PyData} {d : PyData}
theorem c_lenL : CallD X (.builtin "len") [.list ds] (nn ds.length) := CallR.to call_len_seq fun vs H Q ⟨L, _, hv, k⟩ => by
  cases hv with
  | cons h1 h2 =>
    cases h2
    cases h1 with
    | lst ha hs => exact ⟨_, _, rfl, .inl (SqL.of (off_some ha).2), by rw [hs.length]; exact k _ _ (Same.refl _) (.int _)⟩
theorem c_lenT : CallD X (.builtin "len") [.tuple ds] (nn ds.length) := CallR.to call_len_seq fun vs H Q ⟨L, _, hv, k⟩ => by
  cases hv with
  | cons h1 h2 =>
    cases h2
    cases h1 with
    | tup ha hs => exact ⟨_, _, rfl, .inr (SqT.up same_off ha), by rw [hs.length]; exact k _ _ (Same.refl _) (.int _)⟩
theorem i_list {n : Nat} (hd : ds[n]? = some d) (e : i = (n : Int) := by rfl) : IxD X (.list ds) (.int i) d := IxR.to ix_list fun a b H Q ⟨L, _, ha, hb, k⟩ => by
  cases hb
  cases ha with
  | lst ha hs =>
    obtain ⟨v, hv, r⟩ := hs.at hd
    exact ⟨_, _, i, v, rfl, rfl, SqL.of (off_some ha).2, at_nat e hv, k _ _ (Same.refl _) r⟩
theorem i_tup {n : Nat} (hd : ds[n]? = some d) (e : i = (n : Int) := by rfl) : IxD X (.tuple ds) (.int i) d := IxR.to ix_tup fun a b H Q ⟨L, _, ha, hb, k⟩ => by
  cases hb
  cases ha with
  | tup ha hs =>
    obtain ⟨v, hv, r⟩ := hs.at hd
    exact ⟨_, _, i, v, rfl, rfl, SqT.up same_off ha, at_nat e hv, k _ _ (Same.refl _) r⟩
theorem i_listL (hd : ds.getLast? = some d) : IxD X (.list ds) (.int (-1)) d := IxR.to ix_list fun a b H Q ⟨L, _, ha, hb, k⟩ => by
  cases hb
  cases ha with
  | lst ha hs =>
    have e : ds[ds.length - 1]? = some d := by rw [← List.getLast?_eq_getElem?]; exact hd
    obtain ⟨v, hv, r⟩ := hs.at e
    refine ⟨_, _, -1, v, rfl, rfl, SqL.of (off_some ha).2, at_last (by rw [List.getLast?_eq_getElem?, hs.length]; exact hv), k _ _ (Same.refl _) r⟩
theorem o_cat (h : ds.length + es.length ≤ 16777216) : OpD X (binaryOp .Add) (.list ds) (.list es) (.list (ds ++ es)) := OpR.to op_cat fun a b H Q ⟨L, hL, ha, hb, k⟩ => by
  cases ha with
  | lst ha hs =>
    cases hb with
    | lst hb ht =>
      refine ⟨_, _, _, _, rfl, rfl, (off_some ha).2, (off_some hb).2, by rw [hs.length, ht.length]; exact h, fun p hp => ?_⟩
      exact k _ _ (same_new hp) (.lst (off_upd (new_out hL hp)) ((hs.app ht).up (XT.same (same_new hp))))
theorem vaAll_rep {K : PySem.W.Frag} {H : Hp} {vs : List V} {ds : List PyData} (h : VaAll K H vs ds) : ∀ n : Nat, VaAll K H (List.replicate n vs).flatten (List.replicate n ds).flatten
  | 0 => .nil
  | n + 1 => by
    rw [List.replicate_succ, List.replicate_succ, List.flatten_cons, List.flatten_cons]
    exact h.app (vaAll_rep h n)
theorem o_rep (h : ds.length * j.toNat ≤ 16777216) (hj : -1000000000 ≤ j ∧ j ≤ 1000000000) : OpD X (binaryOp .Mult) (.list ds) (.int j) (.list (List.replicate j.toNat ds).flatten) := OpR.to op_rep fun a b H Q ⟨L, hL, ha, hb, k⟩ => by
  cases hb
  cases ha with
  | lst ha hs =>
    refine ⟨_, _, _, rfl, rfl, (off_some ha).2, by omega, by omega, by rw [hs.length]; exact h, fun p hp => ?_⟩
    exact k _ _ (same_new hp) (.lst (off_upd (new_out hL hp)) ((vaAll_rep hs _).up (XT.same (same_new hp))))
theorem c_all {bs : List Bool} (hc : X.calm = true) : CallD X (.builtin "all") [.list (bs.map .bool)] (.bool (bs.all id)) := CallR.to (cr_all hc) fun vs H Q ⟨L, _, hv, k⟩ => by
  cases hv with
  | cons h1 h2 =>
    cases h2
    cases h1 with
    | lst ha hs => exact ⟨_, bs, rfl, by rw [← hs.bls]; exact SqL.of (off_some ha).2, k _ _ (Same.refl _) (.bl _)⟩
/-- max, min of a list of ints -/
theorem c_max {ns : List Int} {z : Int} (hc : X.calm = true) (h1 : z ∈ ns) (h2 : ∀ y ∈ ns, y ≤ z) : CallD X (.builtin "max") [.list (ns.map .int)] (.int z) := CallR.to (cr_max hc) fun vs H Q ⟨L, _, hv, k⟩ => by
  cases hv with
  | cons g1 g2 =>
    cases g2
    cases g1 with
    | lst ha hs =>
      refine ⟨_, ns, rfl, by rw [← hs.ints]; exact SqL.of (off_some ha).2, List.length_pos_of_mem h1, fun m hm hle => ?_⟩
      have e : m = z := Int.le_antisymm (h2 m hm) (hle z h1)
      rw [e]
      exact k _ _ (Same.refl _) (.int _)
theorem c_min {ns : List Int} {z : Int} (hc : X.calm = true) (h1 : z ∈ ns) (h2 : ∀ y ∈ ns, z ≤ y) : CallD X (.builtin "min") [.list (ns.map .int)] (.int z) := CallR.to (cr_min hc) fun vs H Q ⟨L, _, hv, k⟩ => by
  cases hv with
  | cons g1 g2 =>
    cases g2
    cases g1 with
    | lst ha hs =>
      refine ⟨_, ns, rfl, by rw [← hs.ints]; exact SqL.of (off_some ha).2, List.length_pos_of_mem h1, fun m hm hle => ?_⟩
      have e : m = z := Int.le_antisymm (hle z h1) (h2 m hm)
      rw [e]
      exact k _ _ (Same.refl _) (.int _)
theorem c_max2 (hc : X.calm = true) : CallD X (.builtin "max") [.int i, .int j] (.int (if j > i then j else i)) := CallR.to (call_max2 hc) fun vs H Q ⟨L, _, hv, k⟩ => by
  cases hv with
  | cons g1 g2 =>
    cases g2 with
    | cons g2 g3 =>
      cases g3; cases g1; cases g2
      exact ⟨i, j, rfl, k _ _ (Same.refl _) (.int _)⟩
end
/-! ### methods of texts: sep.join -/
section
variable {X : Cx} {W : Wd} {Γ : List DV} {μ : Mu} {e o : Expr} {pos apos p : Pos} {l : List Nat} {ws : List (List Nat)}
theorem flat_join : ∀ ws : List (List Nat), TL.joinL [] ws = ws.flatten
  | [] => rfl
  | [w] => by simp [TL.joinL]
  | w :: v :: r => by
    have ih := flat_join (v :: r)
    rw [List.flatten_cons, ← ih]
    simp [TL.joinL]
theorem vaAll_S {K : PySem.W.Frag} {H : Hp} {vs : List V} (h : VaAll K H vs (ws.map fun w => PyData.str (S w))) : vs = (ws.map S).map V.str := by
  have e : (ws.map fun w => PyData.str (S w)) = (ws.map S).map PyData.str := by rw [List.map_map]; rfl
  rw [e] at h
  exact h.strs
theorem ev_join {Ws : List (List Nat) → Prop} (ho : Ed X W Γ μ o (.str (S []))) (he : Ev X W Γ μ e (fun z => ∃ ws : List (List Nat), z = .list (ws.map fun w => .str (S w)) ∧ Ws ws)) (hz : ∀ ws, Ws ws → (ws.map List.length).sum ≤ 16777216)
    (hs : starEach [e] X.env = [(false, eval e X.env)] := by rfl) (hbase : attributeBase o "join" X.env (eval o X.env) = eval o X.env := by rfl) (hline : (apos.endLine == pos.line) = true := by rfl) :
    Ev X W Γ μ (.Call (.Attribute o "join" apos) [e] [] pos) (fun z => ∃ ws, z = .str (S ws.flatten) ∧ Ws ws) := fun σ H R Q q => by
  refine (pe_join wE.pe wE.pe hs hbase hline).w (ho σ H R _ fun v H2 R2 e2 r2 => ?_)
  cases r2
  refine ⟨⟨_, rfl⟩, he σ H2 R2 _ fun v d H3 R3 e3 r3 ⟨ws, ed, pw⟩ => ?_⟩
  subst ed
  cases r3 with
  | lst ha hv =>
    have ev := vaAll_S hv
    refine ⟨S [], _, ws.map S, rfl, rfl, .inl (by rw [← ev]; exact SqL.of (off_some ha).2), ?_, ?_⟩
    · rw [List.map_map]
      have z := hz ws pw
      have e1 : (ws.map ((fun x : Str => x.length) ∘ S)) = ws.map List.length := List.map_congr_left fun w _ => SX.S_len w
      rw [e1, SX.S_len]
      simpa using z
    · rw [SX.join_S, flat_join]
      exact q _ _ H3 R3 (e2.trans e3) (.str _) ⟨ws, rfl, pw⟩
theorem ed_join (ho : Ed X W Γ μ o (.str (S []))) {ds : List PyData} (he : Ed X W Γ μ e (.list ds)) (ed : ds = ws.map fun w => .str (S w)) (hz : (ws.map List.length).sum ≤ 16777216)
    (hs : starEach [e] X.env = [(false, eval e X.env)] := by rfl) (hbase : attributeBase o "join" X.env (eval o X.env) = eval o X.env := by rfl) (hline : (apos.endLine == pos.line) = true := by rfl) :
    Ed X W Γ μ (.Call (.Attribute o "join" apos) [e] [] pos) (.str (S ws.flatten)) :=
  (ev_join (Ws := fun z => z = ws) ho (he.evP ⟨ws, by rw [ed], rfl⟩) (fun _ q => q ▸ hz) hs hbase hline |>.imp (B := fun z => z = .str (S ws.flatten)) fun d ⟨w, e1, e2⟩ => by rw [e1, e2]).ed

/-! ### slices -/
theorem po_int {lo : Expr} {z : Int} (h : Ed X W Γ μ lo (.int z)) : ∀ σ H, Rep X.K W Γ μ σ H → ∀ Q : Option Int → Hp → Prop, (∀ H2, Rep X.K W Γ μ σ H2 → XT (hd W μ) H H2 → Q (some z) H2) → tPart (wE X lo) σ H Q := fun σ H R Q q => h σ H R _ fun v H2 R2 e2 r => by
  cases r
  exact ⟨z, rfl, q H2 R2 e2⟩
/-- a part of a slice -/
def EdO (X : Cx) (W : Wd) (Γ : List DV) (μ : Mu) (e : Option Expr) (o : Option Int) : Prop := ∃ t, PO X e t ∧ ∀ σ H, Rep X.K W Γ μ σ H → ∀ Q : Option Int → Hp → Prop, (∀ H2, Rep X.K W Γ μ σ H2 → XT (hd W μ) H H2 → Q o H2) → t σ H Q
theorem so_none : EdO X W Γ μ none none := ⟨_, po_none, fun σ H R Q q => q H R XT.refl⟩
theorem so_some {z : Int} (h : Ed X W Γ μ e (.int z)) : EdO X W Γ μ (some e) (some z) := ⟨_, po_some wE.pe, po_int h⟩
/-- a slice by values -/
def rDs (K : PySem.W.Frag) (d : PyData) (lo hi : Option Int) (z : PyData) : V → Option Int → Option Int → Hp → VK → Prop := fun v l h H Q => l = lo ∧ h = hi ∧ ∃ L : List Addr, (∀ a ∈ L, H a ≠ none) ∧ Va K (off L H) v d ∧ ∀ v' H2, Same H H2 → Va K (off L H2) v' z → Q v' H2
def SlD (X : Cx) (d : PyData) (lo hi : Option Int) (z : PyData) : Prop := L2.SlR X (rDs X.K d lo hi z)
theorem ed_sl {a : Expr} {lo hi : Option Expr} {l u : Option Int} {d z : PyData} {p2 : Pos} (ha : Ed X W Γ μ a d) (hl : EdO X W Γ μ lo l) (hu : EdO X W Γ μ hi u) (hs : SlD X d l u z) : Ed X W Γ μ (.Subscript a (.Slice lo hi none p2) pos) z := fun σ H R Q q => by
  obtain ⟨tl, l1, l2⟩ := hl
  obtain ⟨tu, u1, u2⟩ := hu
  refine (pe_slice (r := rDs X.K d l u z) hs wE.pe l1 u1).w (ha σ H R _ fun v H2 R2 e2 r2 => l2 σ H2 R2 _ fun H3 R3 e3 => u2 σ H3 R3 _ fun H4 R4 e4 => ?_)
  exact ⟨rfl, rfl, hd W μ, R4.ne, (r2.up e3).up e4, fun v' H5 s5 r5 => q v' H5 (R4.same s5) (((e2.trans e3).trans e4).trans (XT.same s5)) r5⟩
end
section
variable {X : Cx} {l : List Nat} {ds : List PyData} {n m : Nat}
theorem s_list {lo hi : Option Int} : SlD X (.list ds) lo hi (.list ((ds.drop (HT.sIx ds.length 0 lo)).take (HT.sIx ds.length ds.length hi - HT.sIx ds.length 0 lo))) := SlR.to sl_list fun v l u H Q ⟨e1, e2, L, hL, hv, k⟩ => by
  subst e1 e2
  cases hv with
  | lst ha hs =>
    refine ⟨_, _, rfl, SqL.of (off_some ha).2, fun p hp => ?_⟩
    refine k _ _ (same_new hp) (.lst (off_upd (new_out hL hp)) ?_)
    unfold cutV
    rw [hs.length]
    exact ((hs.drop _).take _).up (XT.same (same_new hp))
theorem s_str {lo hi : Option Int} (h : l.length ≤ 16777216) : SlD X (.str (S l)) lo hi (.str (S ((l.drop (HT.sIx l.length 0 lo)).take (HT.sIx l.length l.length hi - HT.sIx l.length 0 lo)))) := SlR.to sl_str fun v l' u H Q ⟨e1, e2, L, hL, hv, k⟩ => by
  subst e1 e2
  cases hv
  refine ⟨_, rfl, by rw [SX.S_len]; exact h, ?_⟩
  unfold cutS
  rw [SX.S_len]
  exact k _ _ (Same.refl _) (.str _)
/-- x[:n], x[n:], x[n:m] -/
theorem s_listT (n : Nat) {z : Int} (e : z = (n : Int) := by rfl) : SlD X (.list ds) none (some z) (.list (ds.take n)) := by
  have h := s_list (X := X) (ds := ds) (lo := none) (hi := some z)
  subst e
  rw [HT.sIx_none, HT.sIx_nat, List.drop_zero, Nat.sub_zero] at h
  have e2 : ds.take (min n ds.length) = ds.take n := by
    rw [Nat.min_def]
    split
    · rfl
    · rw [List.take_of_length_le (by omega), List.take_of_length_le (by omega)]
  rw [e2] at h
  exact h
theorem s_strT (n : Nat) {z : Int} (hl : l.length ≤ 16777216) (e : z = (n : Int) := by rfl) : SlD X (.str (S l)) none (some z) (.str (S (l.take n))) := by
  have h := s_str (X := X) (l := l) (lo := none) (hi := some z) hl
  subst e
  rw [HT.sIx_none, HT.sIx_nat, List.drop_zero, Nat.sub_zero] at h
  have e2 : l.take (min n l.length) = l.take n := by
    rw [Nat.min_def]
    split
    · rfl
    · rw [List.take_of_length_le (by omega), List.take_of_length_le (by omega)]
  rw [e2] at h
  exact h
theorem s_listD (n : Nat) {z : Int} (e : z = (n : Int) := by rfl) : SlD X (.list ds) (some z) none (.list (ds.drop n)) := by
  have h := s_list (X := X) (ds := ds) (lo := some z) (hi := none)
  subst e
  rw [HT.sIx_none, HT.sIx_nat] at h
  have e2 : (ds.drop (min n ds.length)).take (ds.length - min n ds.length) = ds.drop n := by
    rw [Nat.min_def]
    split
    · rw [List.take_of_length_le (by simp)]
    · rw [List.drop_of_length_le (by omega), List.drop_of_length_le (by omega)]
      simp
  rw [e2] at h
  exact h
theorem s_strD (n : Nat) {z : Int} (hl : l.length ≤ 16777216) (e : z = (n : Int) := by rfl) : SlD X (.str (S l)) (some z) none (.str (S (l.drop n))) := by
  have h := s_str (X := X) (l := l) (lo := some z) (hi := none) hl
  subst e
  rw [HT.sIx_none, HT.sIx_nat] at h
  have e2 : (l.drop (min n l.length)).take (l.length - min n l.length) = l.drop n := by
    rw [Nat.min_def]
    split
    · rw [List.take_of_length_le (by simp)]
    · rw [List.drop_of_length_le (by omega), List.drop_of_length_le (by omega)]
      simp
  rw [e2] at h
  exact h
end
/-! ### isinstance -/
def tyD : PyData → String
  | .none => "NoneType"
  | .bool _ => "bool"
  | .int _ => "int"
  | .str _ => "str"
  | .list _ => "list"
  | .tuple _ => "tuple"
  | .dict _ => "dict"
def isPtr : PyData → Bool
  | .dict (_ :: _) => true
  | _ => false
theorem va_ty {K : PySem.W.Frag} {H : Hp} {L : List Addr} {v : V} {d : PyData} (h : Va K (off L H) v d) (hp : isPtr d = false) : TyX K H v (.type (tyD d)) := by
  cases h with
  | non => exact .base .non
  | bl b => exact .base (.bl b)
  | int i => exact .base (.int i)
  | str x => exact .base (.str x)
  | lst ha _ => exact .base (.lst (off_some ha).2)
  | tup ha _ =>
    rcases SqT.up same_off ha with (h | ⟨o, h⟩) | ⟨o, its, n, hk, hc, _⟩
    · exact .base (.tup h)
    · exact .fTuple h
    · exact .kTuple hk hc
  | dct ha => exact .base (.dK (off_some ha).2)
  | ptr a => cases hp
  | ktp _ _ => cases hp
  | dcf _ _ _ => cases hp
  | dtf _ _ _ => cases hp
section
variable {X : Cx} {W : Wd} {Γ : List DV} {μ : Mu} {e : Expr} {d : PyData} {pos p p2 : Pos} {b : Bool}
theorem ed_isi {T : String} {n : Str} (he : Ed X W Γ μ e d) (hm : X.mg "isinstance" = none) (hmT : X.mg n = none) (hv : bootBuiltins n = some (.type T)) (hk : ∀ K, PySem.W.kitOne K (.type (tyD d)) (.type T) = some b := by intro K; rfl) (hp : isPtr d = false := by first | rfl | assumption) (hg : Gl X "isinstance" := by rfl) (hgT : Gl X n := by rfl)
    (hn : n ≠ "__name__" := by decide) (hdb : (n == ("__debug__" : Str)) = false := by decide)
    (hs : starEach [e, .Name n p2] X.env = (false, eval e X.env) :: starEach [.Name n p2] X.env := by rfl) (hs2 : starEach [.Name n p2] X.env = (false, eval (.Name n p2) X.env) :: starEach [] X.env := by rfl) (hpl : (backTo pos (starEach [.Name n p2] X.env)).any (·.1) = false := by rfl) :
    Ed X W Γ μ (.Call (.Name "isinstance" p) [e, .Name n p2] [] pos) (.bool b) := fun σ H R Q q => by
  refine (pe_callB call_isi hg hm boot_isinstance (pa_cons wE.pe (pa_cons (pe_bltn (v := .ty T) hgT hmT hv rfl hn hdb) pa_nil hs2) hs) (by decide) (by decide) hs hpl).w (he σ H R _ fun v H2 R2 e2 r2 => ?_)
  exact ⟨v, .ty T, _, _, b, rfl, .ty T, va_ty r2 hp, hk _, q _ H2 R2 e2 (.bl b)⟩
end
end HW
set_option maxHeartbeats 4000000
namespace HW
open PySem PySem.Spec PyProof.Rows L2
open SX (S)
/-! ### what is gone through, in one shape -/
theorem sc_draws {X : Cx} {pins : List (Addr × Obj)} {σ : L2.St} {H : Hp} {s : Shared} {k : Sc} {xs : List V} {t : Tok} {it : Addr} {i : Nat} (I : Inv X pins σ H s) (hc : X.calm = true) (hx : k.xs X.K H xs) (st : k.it t it i s.heap) (hne : ∀ a ∈ k.fp, a ≠ it) :
    ∃ (n : Nat) (P : Nat → Value → Prop) (St : Nat → Heap → Prop), Draws X.prog X.w X.A.in1 it (it :: k.fp) n P St ∧ St i s.heap ∧ n = xs.length ∧ (∀ j v, P j v → ∃ x, xs[j]? = some x ∧ RelV x v) ∧ ∀ j h, St j h → k.it t it j h := by
  have hh : X.A.in1.handled = none := I.ok.hd hc
  cases k with
  | txt x =>
    have e : xs = signsV x := hx
    subst e
    have D := Draws.text (prog := X.prog) (w := X.w) (A := X.A.in1) hh it x t
    refine ⟨_, _, _, D, st, by simp [signsV], fun j v ⟨c, u, h1, h2⟩ => ⟨.str ⟨#[c]⟩, ?_, u, h2⟩, fun j h q => q⟩
    simp [signsV, h1]
  | lst a =>
    obtain ⟨its, rv, p, _⟩ := I.list (show SqL X.K H a xs from hx)
    have D := Draws.list (prog := X.prog) (w := X.w) (A := X.A.in1) hh it a (hne a (by simp [Sc.fp])) its.toArray
    refine ⟨_, _, _, D, ⟨st, p.isList⟩, by simp [rv.length], fun j v hv => ?_, fun j h q => q.1⟩
    have hv' : its[j]? = some v := by simpa using hv
    have hl : j < xs.length := by
      have := (List.getElem?_eq_some_iff.mp hv').1
      rw [rv.length]
      exact this
    have hxj : xs[j]? = some xs[j] := List.getElem?_eq_getElem hl
    obtain ⟨u, hu, ru⟩ := rv.get hxj
    rw [hv'] at hu
    cases hu
    exact ⟨_, hxj, ru⟩
  | tup a =>
    obtain ⟨its, rv, p, _⟩ := I.tuple (show SqT X.K H a xs from hx)
    have D := Draws.tuple (prog := X.prog) (w := X.w) (A := X.A.in1) hh it a (hne a (by simp [Sc.fp])) its.toArray
    refine ⟨_, _, _, D, ⟨st, p⟩, by simp [rv.length], fun j v hv => ?_, fun j h q => q.1⟩
    have hv' : its[j]? = some v := by simpa using hv
    have hl : j < xs.length := by
      have := (List.getElem?_eq_some_iff.mp hv').1
      rw [rv.length]
      exact this
    have hxj : xs[j]? = some xs[j] := List.getElem?_eq_getElem hl
    obtain ⟨u, hu, ru⟩ := rv.get hxj
    rw [hv'] at hu
    cases hu
    exact ⟨_, hxj, ru⟩
theorem sc_begins {X : Cx} {pins : List (Addr × Obj)} {σ : L2.St} {H : Hp} {s : Shared} {k : Sc} {xs : List V} {u : Value} (I : Inv X pins σ H s) (hx : k.xs X.K H xs) (r : RelV k.v u) :
    ∃ (t : Tok) (o : Obj) (G : Heap → Prop), Begins u o G ∧ G s.heap ∧ (∀ b ∈ k.fp, b < s.heap.objs.size) ∧ ∀ it h, h.get? it = some o → k.it t it 0 h := by
  cases k with
  | txt x =>
    obtain ⟨t, rfl⟩ := r
    exact ⟨t, _, _, begins_text x t, trivial, (by intro b hb; simp [Sc.fp] at hb), fun it h e => ⟨_, e, rfl, rfl⟩⟩
  | lst a =>
    obtain rfl : u = .ref a := r
    obtain ⟨its, rv, p, _⟩ := I.list (show SqL X.K H a xs from hx)
    refine ⟨0, _, _, begins_list a its.toArray, p.isList, fun b hb => ?_, fun it h e => ⟨_, e, rfl, rfl⟩⟩
    have e : b = a := by simpa [Sc.fp] using hb
    rw [e]
    exact p.lt
  | tup a =>
    obtain rfl : u = .ref a := r
    obtain ⟨its, rv, p, _⟩ := I.tuple (show SqT X.K H a xs from hx)
    refine ⟨0, _, _, begins_tuple a its.toArray, p, fun b hb => ?_, fun it h e => ⟨_, e, rfl, rfl⟩⟩
    have e : b = a := by simpa [Sc.fp] using hb
    rw [e]
    obtain ⟨o, ho, _⟩ := p
    exact Heap.lt_size ho

/-! ### zip -/
def ItzS (K : PySem.W.Frag) (a b : Sc) : It :=
  ⟨fun i H => ∃ (xs ys : List V), a.xs K H xs ∧ b.xs K H ys ∧ i < xs.length ∧ i < ys.length,
    fun i H v H' => ∃ T x y, v = .ref T ∧ H T = none ∧ H' = upd H T (.tup [x, y]) ∧ (∀ xs, a.xs K H xs → xs[i]? = some x) ∧ ∀ ys, b.xs K H ys → ys[i]? = some y,
    fun i H => ∃ xs ys : List V, a.xs K H xs ∧ b.xs K H ys ∧ i = min xs.length ys.length⟩
theorem turn_zipS {P : Program} {w : World} {K : PySem.W.Frag} {elts : List Expr} {kk : Nat} {tpos : Pos} {a b : Sc} {N : Nat} (t1 t2 : Tok) (ha : ∀ x ∈ a.fp, x < N) (hb : ∀ x ∈ b.fp, x < N) :
    Turn P w K (.Tuple elts kk tpos) (ItzS K a b) [N + 4, N + 2, N + 3, N, N + 1] (N + 4) (fun i h => IsZip h (N + 4) (N + 2) (N + 3) .none ∧ IsTupOf2 h (N + 2) (.ref N) (.ref (N + 1)) ∧ (∃ x y, IsTupOf2 h (N + 3) x y) ∧ a.it t1 N i h ∧ b.it t2 (N + 1) i h) where
  mem := by simp
  obj := fun i h st c hc => by
    obtain ⟨hz, hTI, ⟨x, y, hTO⟩, h1, h2⟩ := st
    have e' : c = N + 4 ∨ c = N + 2 ∨ c = N + 3 ∨ c = N ∨ c = N + 1 := by simpa using hc
    rcases e' with q | q | q | q | q
    · rw [q]; exact ⟨_, hz, fun v q => nomatch q⟩
    · rw [q]; exact ⟨_, hTI, fun v q => nomatch q⟩
    · rw [q]; exact ⟨_, hTO, fun v q => nomatch q⟩
    · rw [q]; exact Sc.obj h1
    · rw [q]; exact Sc.obj h2
  keep := fun i h h' st k => by
    obtain ⟨hz, hTI, ⟨x, y, hTO⟩, h1, h2⟩ := st
    exact ⟨k (N + 4) (by simp) _ hz, k (N + 2) (by simp) _ hTI, ⟨x, y, k (N + 3) (by simp) _ hTO⟩, Sc.at h1 (k N (by simp)), Sc.at h2 (k (N + 1) (by simp))⟩
  item := by
    intro X hP hw hK hc i pins s σ H E I hf st hg
    subst hP hw hK
    obtain ⟨hz, hTI, ⟨x0, y0, hTO⟩, h1, h2⟩ := st
    obtain ⟨xs, ys, hqx, hqy, hx, hy⟩ := hg
    obtain ⟨n1, P1, St1, D1, s1, e1, p1, b1⟩ := sc_draws I hc hqx h1 (fun x m => Nat.ne_of_lt (ha x m))
    obtain ⟨n2, P2, St2, D2, s2, e2, p2, b2⟩ := sc_draws I hc hqy h2 (fun x m => Nat.ne_of_lt (Nat.lt_succ_of_lt (hb x m)))
    have Z := zip_sep2 ha hb
    have hzl : N + 4 < s.heap.objs.size := Heap.lt_size hz
    refine wpAny_pyNext_zipD2_item Z D1 D2 hz hTI hTO s1 s2 (by omega) (by omega) fun x1 x2 h' tk hp1 hp2 z' TO' st1' st2' hT hsz hk => ?_
    refine ⟨_, rfl, wpAny_letOwnedTupleGo_zip (s := { s with heap := h', toks := tk }) z' fun h'' z'' sb => ?_⟩
    obtain ⟨v1, g1, r1⟩ := p1 i x1 hp1
    obtain ⟨v2, g2, r2⟩ := p2 i x2 hp2
    have hT2 : h''.get? s.heap.objs.size = some { cls := .type "tuple", data := .seq #[x1, x2] } := (sb.2 _ (Nat.ne_of_gt hzl)).trans hT
    have new : ObjOk X.prog X.w (upd H s.heap.objs.size (.tup [v1, v2])) h'' s.heap.objs.size (.tup [v1, v2]) :=
      ⟨by show 2 ≤ sizeLine; decide, [x1, x2], .cons r1 (.cons r2 .nil), ⟨_, hT2, rfl, _, rfl⟩⟩
    have I1 : Inv X pins σ (upd H s.heap.objs.size (.tup [v1, v2])) { s with heap := h'', toks := tk } :=
      I.turnedNew (t' := tk) (ch := [N + 4, N + 2, N + 3, N, N + 1]) (fun c o hb q => (sb.2 c (fun q' => hb (by simp [q']))).trans (hk c o (fun q' => hb (by simp [q'])) (fun q' => hb (by simp [q'])) (fun q' => hb (by simp [q'])) (fun q' => hb (by simp [q'])) q)) hf (Nat.le_refl _) new
    refine ⟨.ref s.heap.objs.size, _, I1, rfl, ⟨_, v1, v2, rfl, I.hok.fresh (Nat.le_refl _), rfl, fun l hl => by rw [Sc.inj I hl hqx]; exact g1, fun l hl => by rw [Sc.inj I hl hqy]; exact g2⟩, ⟨z'', ?_, ⟨x1, x2, ?_⟩, ?_, ?_⟩, fun c hcm => ?_⟩
    · exact (sb.2 _ Z.TIz).trans (hk _ _ Z.TIz Z.TITO Z.TIi1 Z.TIi2 hTI)
    · exact (sb.2 _ Z.TOz).trans TO'
    · exact Sc.at (b1 _ _ st1') fun o q => (sb.2 _ (Ne.symm Z.zi1)).trans q
    · exact Sc.at (b2 _ _ st2') fun o q => (sb.2 _ (Ne.symm Z.zi2)).trans q
    · have hlt : c < s.heap.objs.size := by
        have e' : c = N + 4 ∨ c = N + 2 ∨ c = N + 3 ∨ c = N ∨ c = N + 1 := by simpa using hcm
        have hzl' : N + 4 < s.heap.objs.size := hzl
        rcases e' with q | q | q | q | q <;> (have q' : c = _ := q; rw [q']; first | exact hzl | exact Nat.lt_trans (by simp [Nat.lt_succ_self] : _ < N + 4) hzl | (refine Nat.lt_of_le_of_lt ?_ hzl; simp))
      rw [upd_ne (Nat.ne_of_lt hlt)]
      exact (hf c hcm).1
  done := by
    intro X hP hw hK hc i pins s σ H E I hf st hg
    subst hP hw hK
    obtain ⟨hz, hTI, ⟨x0, y0, hTO⟩, h1, h2⟩ := st
    obtain ⟨xs, ys, hqx, hqy, hend⟩ := hg
    obtain ⟨n1, P1, St1, D1, s1, e1, p1, b1⟩ := sc_draws I hc hqx h1 (fun x m => Nat.ne_of_lt (ha x m))
    obtain ⟨n2, P2, St2, D2, s2, e2, p2, b2⟩ := sc_draws I hc hqy h2 (fun x m => Nat.ne_of_lt (Nat.lt_succ_of_lt (hb x m)))
    refine wpAny_pyNext_zipD2_end (zip_sep2 ha hb) D1 D2 hz hTI hTO s1 s2 (by omega) (by omega) (by omega) fun h' tk hk => ⟨rfl, I.turnedL (t' := tk) (ch := [N + 4, N + 2, N + 3, N, N + 1]) (fun c o hb q =>
      hk c o (fun q' => hb (by simp [q'])) (fun q' => hb (by simp [q'])) (fun q' => hb (by simp [q'])) (fun q' => hb (by simp [q'])) q) hf⟩
  self := fun A i s Q E st h => wpAny_pyIter_zip st.1 h
def iZipS (K : PySem.W.Frag) (ta : TA) : TI := fun σ H R => ta σ H fun vs H1 => ∃ a b xs ys, vs = [Sc.v a, Sc.v b] ∧ a.xs K H1 xs ∧ b.xs K H1 ys ∧ R (ItzS K a b) H1
theorem pi_zipS {X : Cx} {e e2 : Expr} {ta : TA} {p pos tpos : Pos} {elts : List Expr} {kk : Nat} (hg : Gl X "zip") (hm : X.mg "zip" = none) (ha : PA X [e, e2] ta)
    (hs : starEach [e, e2] X.env = (false, eval e X.env) :: starEach [e2] X.env := by rfl) (hpl : (backTo pos (starEach [e2] X.env)).any (·.1) = false := by rfl) :
    PI X (.Tuple elts kk tpos) (.Call (.Name "zip" p) [e, e2] [] pos) (iZipS X.K ta) := by
  refine ⟨fun pins s σ H R I h => ?_⟩
  refine Call_ (ld_blt I hg hm PyProof.Rows.boot_zip (PyProof.Rows.callWith_type1 (thn (ha.run pos pins s σ H _ I h) fun us s1 ⟨vs, H1, I1, r1, q1⟩ => ?_) hs hpl))
  obtain ⟨a, b, xs, ys, ex, hqx, hqy, q⟩ := q1
  subst ex
  cases r1 with
  | cons r rr =>
    cases rr with
    | cons r' rr =>
      cases rr
      obtain ⟨t1, o1, G1, B1, g1, f1, i1⟩ := sc_begins I1 hqx r
      obtain ⟨t2, o2, G2, B2, g2, f2, i2⟩ := sc_begins I1 hqy r'
      refine zip_begins2 B1 B2 g1 g2 fun h' hz hTI hTO h1 h2 hsz hk => wpAny_pyIter_zip hz ?_
      have I2 : Inv X pins σ H1 { s1 with heap := h' } := I1.kept (t' := s1.toks) hk
      refine ⟨s1.heap.objs.size + 4, [s1.heap.objs.size + 4, s1.heap.objs.size + 2, s1.heap.objs.size + 3, s1.heap.objs.size, s1.heap.objs.size + 1], _, _, H1, rfl, I2, turn_zipS t1 t2 f1 f2, ⟨hz, hTI, ⟨_, _, hTO⟩, i1 _ _ h1, i2 _ _ h2⟩, fun c hcm => ?_, q⟩
      have e' : c = s1.heap.objs.size + 4 ∨ c = s1.heap.objs.size + 2 ∨ c = s1.heap.objs.size + 3 ∨ c = s1.heap.objs.size ∨ c = s1.heap.objs.size + 1 := by simpa using hcm
      have hle : s1.heap.objs.size ≤ c := by
        rcases e' with z | z | z | z | z
        · rw [z]; exact Nat.le_add_right _ _
        · rw [z]; exact Nat.le_add_right _ _
        · rw [z]; exact Nat.le_add_right _ _
        · rw [z]; exact Nat.le_refl _
        · rw [z]; exact Nat.le_add_right _ _
      exact I1.fpOk hle (I1.hok.fresh hle)

/-! ### enumerate -/
def IteS (K : PySem.W.Frag) (a : Sc) : It :=
  ⟨fun i H => ∃ (xs : List V), a.xs K H xs ∧ i < xs.length, fun i H v H' => ∃ T x, v = .ref T ∧ H T = none ∧ H' = upd H T (.tup [.int (i : Nat), x]) ∧ ∀ xs, a.xs K H xs → xs[i]? = some x, fun i H => ∃ xs : List V, a.xs K H xs ∧ i = xs.length⟩
theorem turn_enumS {P : Program} {w : World} {K : PySem.W.Frag} {elts : List Expr} {kk : Nat} {tpos : Pos} {a : Sc} {N : Nat} (t : Tok) (ha : ∀ x ∈ a.fp, x < N) :
    Turn P w K (.Tuple elts kk tpos) (IteS K a) [N + 1, N] (N + 1) (fun i h => (∃ old, IsEnum h (N + 1) N ((i : Nat) : Int) old) ∧ a.it t N i h) where
  mem := by simp
  obj := fun i h st b hb => by
    obtain ⟨⟨old, he⟩, h1⟩ := st
    have e' : b = N + 1 ∨ b = N := by simpa using hb
    rcases e' with z | z
    · rw [z]; exact ⟨_, he, fun v q => nomatch q⟩
    · rw [z]; exact Sc.obj h1
  keep := fun i h h' st k => let ⟨⟨old, he⟩, hi⟩ := st; ⟨⟨old, k (N + 1) (by simp) _ he⟩, Sc.at hi (k N (by simp))⟩
  item := by
    intro X hP hw hK hc i pins s σ H E I hf st hg
    subst hP hw hK
    obtain ⟨⟨old, he⟩, hit⟩ := st
    obtain ⟨xs, hq, hx⟩ := hg
    obtain ⟨n1, P1, St1, D1, s1, e1, p1, b1⟩ := sc_draws I hc hq hit (fun x m => Nat.ne_of_lt (ha x m))
    have hel : N + 1 < s.heap.objs.size := Heap.lt_size he
    have hef : N + 1 ∉ N :: a.fp := fun m => by
      rcases List.mem_cons.mp m with z | z
      · exact Nat.succ_ne_self _ z
      · exact absurd (ha _ z) (by have : ¬ (N + 1 < N) := by omega
                                  exact this)
    refine wpAny_pyNext_enum_itemC D1 he s1 (by omega) (Nat.succ_ne_self _) hef fun x h' tk hp ho st' hT hsz hk => ?_
    refine ⟨_, rfl, wpAny_letOwnedTupleGo_enum (s := { s with heap := h', toks := tk + 1 }) ho fun h'' he' sb => ?_⟩
    obtain ⟨v1, g1, r1⟩ := p1 i x hp
    have hT2 : h''.get? s.heap.objs.size = some { cls := .type "tuple", data := .seq #[.int i tk, x] } := (sb.2 _ (Nat.ne_of_gt hel)).trans hT
    have new : ObjOk X.prog X.w (upd H s.heap.objs.size (.tup [.int (i : Nat), v1])) h'' s.heap.objs.size (.tup [.int (i : Nat), v1]) :=
      ⟨by show 2 ≤ sizeLine; decide, [.int i tk, x], .cons ⟨_, rfl⟩ (.cons r1 .nil), ⟨_, hT2, rfl, _, rfl⟩⟩
    have I1 : Inv X pins σ (upd H s.heap.objs.size (.tup [.int (i : Nat), v1])) { s with heap := h'', toks := tk + 1 } :=
      I.turnedNew (ch := [N + 1, N]) (fun b ob hb q => (sb.2 b (fun z => hb (by simp [z]))).trans (hk b ob (fun z => hb (by simp [z])) (fun z => hb (by simp [z])) q)) hf (Nat.le_refl _) new
    refine ⟨.ref s.heap.objs.size, _, I1, rfl, ⟨_, v1, rfl, I.hok.fresh (Nat.le_refl _), rfl, fun ys hy => by rw [Sc.inj I hy hq]; exact g1⟩, ⟨⟨x, ?_⟩, Sc.at (b1 _ _ st') fun o q => (sb.2 N (Ne.symm (Nat.succ_ne_self N))).trans q⟩, fun b hb => ?_⟩
    · have e1 : ((i + 1 : Nat) : Int) = (i : Int) + 1 := by omega
      rw [e1]; exact he'
    · have hb' : b < s.heap.objs.size := by
        have e' : b = N + 1 ∨ b = N := by simpa using hb
        rcases e' with z | z
        · rw [z]; exact hel
        · rw [z]; exact Nat.lt_trans (Nat.lt_succ_self _) hel
      rw [upd_ne (Nat.ne_of_lt hb')]
      exact (hf b hb).1
  done := by
    intro X hP hw hK hc i pins s σ H E I hf st hg
    subst hP hw hK
    obtain ⟨⟨old, he⟩, hit⟩ := st
    obtain ⟨xs, hq, hx⟩ := hg
    obtain ⟨n1, P1, St1, D1, s1, e1, p1, b1⟩ := sc_draws I hc hq hit (fun x m => Nat.ne_of_lt (ha x m))
    obtain ⟨f0, f1, f2, f3, f4, f5⟩ := hf N (by simp)
    have e : i = n1 := by omega
    subst e
    exact wpAny_pyNext_enum_endD D1 he s1 fun h' eb => ⟨rfl, I.turned (t' := s.toks) (fun b o hb q => eb b o hb q) f0 f1 f3 f4 f5⟩
  self := fun A i s Q E st h => let ⟨⟨_, he⟩, _⟩ := st; wpAny_pyIter_enum he h
def iEnumS (K : PySem.W.Frag) (ta : TA) : TI := fun σ H R => ta σ H fun vs H1 => ∃ a xs, vs = [Sc.v a] ∧ (∀ t, a ≠ .tup t) ∧ a.xs K H1 xs ∧ R (IteS K a) H1
theorem pi_enumS {X : Cx} {e : Expr} {ta : TA} {p pos tpos : Pos} {elts : List Expr} {kk : Nat} (hg : Gl X "enumerate") (hm : X.mg "enumerate" = none) (ha : PA X [e] ta) (hs : starEach [e] X.env = [(false, eval e X.env)] := by rfl) :
    PI X (.Tuple elts kk tpos) (.Call (.Name "enumerate" p) [e] [] pos) (iEnumS X.K ta) := by
  refine ⟨fun pins s σ H R I h => ?_⟩
  refine Call_ (ld_blt I hg hm boot_enumerate (PyProof.Rows.callWith_type1 (thn (ha.run pos pins s σ H _ I h) fun us s1 ⟨vs, H1, I1, r1, q1⟩ => ?_) hs rfl))
  obtain ⟨a, xs, ex, nt, hq, q⟩ := q1
  subst ex
  have fin : ∀ (h' : Heap) (t : Tok), (∀ x ∈ a.fp, x < s1.heap.objs.size) → IsEnum h' (s1.heap.objs.size + 1) s1.heap.objs.size 0 .none → a.it t s1.heap.objs.size 0 h' → (∀ b o, s1.heap.get? b = some o → h'.get? b = some o) →
      PIE X pins σ (.Tuple elts kk tpos) R (.ref (s1.heap.objs.size + 1)) { s1 with heap := h' } := fun h' t hfp he hit hk => by
    have I2 : Inv X pins σ H1 { s1 with heap := h' } := I1.kept (t' := s1.toks) hk
    refine ⟨s1.heap.objs.size + 1, [s1.heap.objs.size + 1, s1.heap.objs.size], _, _, H1, rfl, I2, turn_enumS t hfp, ⟨⟨.none, he⟩, hit⟩, fun b hb => ?_, q⟩
    have e' : b = s1.heap.objs.size + 1 ∨ b = s1.heap.objs.size := by simpa using hb
    have hle : s1.heap.objs.size ≤ b := by
      rcases e' with z | z
      · rw [z]; exact Nat.le_add_right _ _
      · rw [z]; exact Nat.le_refl _
    exact I1.fpOk hle (I1.hok.fresh hle)
  cases r1 with
  | cons r rr =>
    cases rr
    cases a with
    | txt x =>
      obtain ⟨t, rfl⟩ := r
      exact call_enumerate_str fun h' he hit hsz hk => wpAny_pyIter_enum he (fin h' t (by intro b hb; simp [Sc.fp] at hb) he hit hk)
    | lst a =>
      obtain ⟨its, rv, p', hz⟩ := I1.list (show SqL X.K H1 a xs from hq)
      cases r
      refine call_enumerate_list p'.isList fun h' he hit hsz hk => wpAny_pyIter_enum he (fin h' 0 (fun b hb => ?_) he hit hk)
      have e : b = a := by simpa [Sc.fp] using hb
      rw [e]
      exact p'.lt
    | tup a => exact absurd rfl (nt a)

/-! ### over data -/
/-- the items of data -/
def itemsD : PyData → Option (List PyData)
  | .str x => some (x.cps.toList.map sg)
  | .list ds => some ds
  | .tuple ds => some ds
  | _ => none
theorem va_signs {K : PySem.W.Frag} {H : Hp} : ∀ cs : List Nat, VaAll K H (cs.map fun c => V.str ⟨#[c]⟩) (cs.map sg)
  | [] => .nil
  | c :: cs => .cons (.str _) (va_signs cs)
theorem va_sc {K : PySem.W.Frag} {pool : Hp} {v : V} {d : PyData} {ds : List PyData} (h : Va K pool v d) (e : itemsD d = some ds) : ∃ (a : Sc) (xs : List V), v = a.v ∧ (∀ H, Same pool H → a.xs K H xs) ∧ VaAll K pool xs ds ∧ ((∀ t, d ≠ .tuple t) → ∀ t, a ≠ .tup t) := by
  cases h with
  | str x => cases e; exact ⟨.txt x, _, rfl, fun _ _ => rfl, va_signs _, fun _ _ => (nomatch ·)⟩
  | lst ha hs => cases e; exact ⟨.lst _, _, rfl, fun H s => SqL.of (s _ _ ha), hs, fun _ _ => (nomatch ·)⟩
  | tup ha hs => cases e; exact ⟨.tup _, _, rfl, fun H s => SqT.up s ha, hs, fun n _ => absurd rfl (n _)⟩
  | non => cases e
  | bl b => cases e
  | int i => cases e
  | dct ha => cases e
  | ptr a => cases e
  | ktp _ _ => cases e
  | dcf _ _ _ => cases e
  | dtf _ _ _ => cases e
/-- a pair -/
abbrev pr2 (x y : PyData) : PyData := .tuple [x, y]
theorem sc_get {K : PySem.W.Frag} {L : List Addr} {pool H : Hp} {a : Sc} {xs : List V} {ds : List PyData} {i : Nat} {d : PyData} {v : V} (hx : ∀ H, Same pool H → a.xs K H xs) (hv : VaAll K pool xs ds) (s : Same pool (off L H)) (hd : ds[i]? = some d) (y : ∀ ys, a.xs K H ys → ys[i]? = some v) : Va K (off L H) v d := by
  obtain ⟨v2, e, r⟩ := hv.at hd
  have := y xs (hx H (fun b o q => (off_some (s b o q)).2))
  rw [e] at this
  cases this
  exact r.up s
theorem walk_enumS {K : PySem.W.Frag} {pool : Hp} {a : Sc} {xs : List V} {ds : List PyData} (hx : ∀ H, Same pool H → a.xs K H xs) (hv : VaAll K pool xs ds) : WalkD K pool (IteS K a) (ds.mapIdx fun i d => pr2 (nn i) d) where
  go := fun i H hi s => ⟨xs, hx H s, by rw [hv.length]; simpa using hi⟩
  yld := fun i d H v H' L hd hL s y => by
    obtain ⟨T, x, rfl, hT, rfl, y⟩ := y
    have sm := same_new (o := .tup [.int (i : Nat), x]) hT
    refine ⟨sm, ?_⟩
    rw [List.getElem?_mapIdx] at hd
    obtain ⟨d1, h1, rfl⟩ := Option.map_eq_some_iff.mp hd
    have r := sc_get hx hv s h1 y
    exact .tup (.inl (.inl (off_upd (new_out (fun l h => (hL l h).1) hT)))) (.cons (.int _) (.cons (r.up (XT.same sm)) .nil))
  stop := fun H s => ⟨xs, hx H s, by rw [hv.length]; simp⟩
theorem walk_zipS {K : PySem.W.Frag} {pool : Hp} {a b : Sc} {xs ys : List V} {ds es : List PyData} (hx : ∀ H, Same pool H → a.xs K H xs) (hv : VaAll K pool xs ds) (hy : ∀ H, Same pool H → b.xs K H ys) (hw : VaAll K pool ys es) : WalkD K pool (ItzS K a b) (List.zipWith pr2 ds es) where
  go := fun i H hi s => ⟨xs, ys, hx H s, hy H s, by rw [List.length_zipWith] at hi; rw [hv.length]; omega, by rw [List.length_zipWith] at hi; rw [hw.length]; omega⟩
  yld := fun i d H v H' L hd hL s y => by
    obtain ⟨T, x, z, rfl, hT, rfl, y1, y2⟩ := y
    have sm := same_new (o := .tup [x, z]) hT
    refine ⟨sm, ?_⟩
    rw [List.getElem?_zipWith] at hd
    cases e1 : ds[i]? with
    | none => rw [e1] at hd; simp at hd
    | some d1 =>
      cases e2 : es[i]? with
      | none => rw [e1, e2] at hd; simp at hd
      | some d2 =>
        rw [e1, e2] at hd
        cases hd
        have r1 := sc_get hx hv s e1 y1
        have r2 := sc_get hy hw s e2 y2
        exact .tup (.inl (.inl (off_upd (new_out (fun l h => (hL l h).1) hT)))) (.cons (r1.up (XT.same sm)) (.cons (r2.up (XT.same sm)) .nil))
  stop := fun H s => ⟨xs, ys, hx H s, hy H s, by rw [hv.length, hw.length, List.length_zipWith]⟩
section
variable {X : Cx} {W : Wd} {Γ : List DV} {μ : Mu} {α β : Type} {a b : Expr} {pos p tpos : Pos} {elts : List Expr} {kk : Nat} {d d2 : PyData} {enc : α → PyData} {enc2 : β → PyData} {xs : List α} {ys : List β}
/-- enumerate(text), enumerate(list): pairs of place and item -/
theorem it_enum (h : Ed X W Γ μ a d) (hm : X.mg "enumerate" = none) (e : itemsD d = some (xs.map enc)) (hd : ∀ t, d ≠ .tuple t := by intro _; nofun) (hg : Gl X "enumerate" := by rfl) (hs : starEach [a] X.env = [(false, eval a X.env)] := by rfl) :
    IterD X W Γ μ (.Tuple elts kk tpos) (.Call (.Name "enumerate" p) [a] [] pos) (fun q : Nat × α => pr2 (nn q.1) (enc q.2)) (xs.mapIdx Prod.mk) := ⟨_, pi_enumS hg hm wA.pa hs, fun σ H R R' k => (ea_cons h ea_nil (by rw [hs]; rfl)) σ H R _ fun vs H1 R1 e1 r => by
  cases r with
  | cons r rr =>
    cases rr
    obtain ⟨sc, vs, rfl, h1, h2, h3⟩ := va_sc r e
    refine ⟨sc, vs, rfl, h3 hd, h1 H1 same_off, k _ _ H1 rfl R1 e1 ?_⟩
    have z := walk_enumS h1 h2
    have e : ((xs.map enc).mapIdx fun i d => pr2 (nn i) d) = (xs.mapIdx Prod.mk).map fun q : Nat × α => pr2 (nn q.1) (enc q.2) := by
      apply List.ext_getElem?
      intro i
      simp only [List.getElem?_mapIdx, List.getElem?_map, Option.map_map]
      rfl
    rw [e] at z
    exact z⟩
/-- zip of two -/
theorem it_zip (h1 : Ed X W Γ μ a d) (h2 : Ed X W Γ μ b d2) (hm : X.mg "zip" = none) (e1 : itemsD d = some (xs.map enc)) (e2 : itemsD d2 = some (ys.map enc2)) (hg : Gl X "zip" := by rfl) (hs : starEach [a, b] X.env = (false, eval a X.env) :: starEach [b] X.env := by rfl) (hs2 : starEach [b] X.env = [(false, eval b X.env)] := by rfl) (hpl : (backTo pos (starEach [b] X.env)).any (·.1) = false := by rfl) :
    IterD X W Γ μ (.Tuple elts kk tpos) (.Call (.Name "zip" p) [a, b] [] pos) (fun q : α × β => pr2 (enc q.1) (enc2 q.2)) (xs.zip ys) := ⟨_, pi_zipS hg hm wA.pa hs hpl, fun σ H R R' k => (ea_cons h1 (ea_cons h2 ea_nil hs2) hs) σ H R _ fun vs H1 R1 x1 r => by
  cases r with
  | cons r rr =>
    cases rr with
    | cons r2 rr =>
      cases rr
      obtain ⟨s1, v1, rfl, g1, g2, g3⟩ := va_sc r e1
      obtain ⟨s2, v2, rfl, f1, f2, f3⟩ := va_sc r2 e2
      refine ⟨s1, s2, v1, v2, rfl, g1 H1 same_off, f1 H1 same_off, k _ _ H1 rfl R1 x1 ?_⟩
      have z := walk_zipS g1 g2 f1 f2
      have e : List.zipWith pr2 (xs.map enc) (ys.map enc2) = (xs.zip ys).map fun q : α × β => pr2 (enc q.1) (enc2 q.2) := by
        rw [List.zipWith_map, List.zip, List.map_zipWith]
      rw [e] at z
      exact z⟩
end
end HW
set_option maxHeartbeats 4000000
namespace HW
open PySem PySem.Spec PyProof.Rows L2
open SX (S)
/-! ### the distinct items, as they are first met -/
section
variable {α : Type} [DecidableEq α]
def uqS (acc : List α) (k : α) : List α := if k ∈ acc then acc else acc ++ [k]
def uq (ks : List α) : List α := ks.foldl uqS []
theorem uq_snoc (ks : List α) (k : α) : uq (ks ++ [k]) = uqS (uq ks) k := by unfold uq; rw [List.foldl_append]; rfl
theorem mem_uqS {acc : List α} {k x : α} : x ∈ uqS acc k ↔ x ∈ acc ∨ x = k := by
  unfold uqS
  by_cases h : k ∈ acc
  · rw [if_pos h]
    exact ⟨.inl, fun q => q.elim id fun e => e ▸ h⟩
  · rw [if_neg h, List.mem_append, List.mem_singleton]
theorem mem_foldl_uqS {x : α} : ∀ {ks acc : List α}, x ∈ ks.foldl uqS acc ↔ x ∈ acc ∨ x ∈ ks
  | [], acc => by simp
  | k :: ks, acc => by
    rw [List.foldl_cons, mem_foldl_uqS, mem_uqS, List.mem_cons, or_assoc]
theorem mem_uq {x : α} {ks : List α} : x ∈ uq ks ↔ x ∈ ks := by unfold uq; rw [mem_foldl_uqS]; simp
theorem nodup_uqS {acc : List α} {k : α} (h : acc.Nodup) : (uqS acc k).Nodup := by
  unfold uqS
  by_cases q : k ∈ acc
  · rw [if_pos q]; exact h
  · rw [if_neg q]
    exact List.nodup_append.mpr ⟨h, by simp, fun a ha b hb => by rw [List.mem_singleton] at hb; rintro rfl; exact q (hb ▸ ha)⟩
theorem nodup_foldl_uqS : ∀ {ks acc : List α}, acc.Nodup → (ks.foldl uqS acc).Nodup
  | [], _, h => h
  | k :: ks, _, h => nodup_foldl_uqS (ks := ks) (nodup_uqS h)
theorem nodup_uq (ks : List α) : (uq ks).Nodup := nodup_foldl_uqS List.nodup_nil
theorem len_foldl_uqS : ∀ (ks acc : List α), (ks.foldl uqS acc).length ≤ acc.length + ks.length
  | [], acc => Nat.le_refl _
  | k :: ks, acc => by
    rw [List.foldl_cons]
    have h := len_foldl_uqS ks (uqS acc k)
    have h2 : (uqS acc k).length ≤ acc.length + 1 := by
      unfold uqS
      split
      · omega
      · simp
    rw [List.length_cons]
    omega
theorem len_uq (ks : List α) : (uq ks).length ≤ ks.length := by
  have h := len_foldl_uqS ks []
  simpa [uq] using h
theorem foldl_uqS_nodup : ∀ {ks acc : List α}, (acc ++ ks).Nodup → ks.foldl uqS acc = acc ++ ks
  | [], acc, _ => by simp
  | k :: ks, acc, h => by
    have hk : k ∉ acc := fun q => (List.nodup_append.mp h).2.2 k q k List.mem_cons_self rfl
    rw [List.foldl_cons]
    have e : uqS acc k = acc ++ [k] := if_neg hk
    rw [e, foldl_uqS_nodup (by rw [List.append_assoc]; exact h), List.append_assoc]
    rfl
theorem uq_nodup {ks : List α} (h : ks.Nodup) : uq ks = ks := by
  have := foldl_uqS_nodup (ks := ks) (acc := []) (by simpa using h)
  simpa [uq] using this
theorem uq_len_iff {ks : List α} : (uq ks).length = ks.length ↔ ks.Nodup := by
  constructor
  · intro h
    -- count strictly falls at a repeated item
    have key : ∀ (ks acc : List α), acc.Nodup → (ks.foldl uqS acc).length = acc.length + ks.length → (acc ++ ks).Nodup := by
      intro ks
      induction ks with
      | nil => intro acc ha _; simpa using ha
      | cons k ks ih =>
        intro acc ha e
        rw [List.foldl_cons] at e
        by_cases q : k ∈ acc
        · have e2 : uqS acc k = acc := if_pos q
          rw [e2] at e
          have := len_foldl_uqS ks acc
          rw [List.length_cons] at e
          omega
        · have e2 : uqS acc k = acc ++ [k] := if_neg q
          rw [e2] at e
          have z := ih (acc ++ [k]) (by rw [← e2]; exact nodup_uqS ha) (by rw [e]; simp; omega)
          rw [List.append_assoc] at z
          exact z
    have z := key ks [] List.nodup_nil (by simpa [uq] using h)
    simpa using z
  · intro h
    rw [uq_nodup h]
end
/-! ### set(list) of keys of one kind -/
section
variable {prog : Program} {w : World} {K : Type} [DecidableEq K] {knd : KeyKind prog w K} {A : Around} {R : Result → Shared → Prop} {I : Addr} {fp wr : List Addr} {G : Array GenState → Array GenState → Prop} {n : Nat} {P : Nat → Value → Prop} {St : Nat → Shared → Prop}
theorem set_congr {h : Heap} {a : Addr} {S S' : K → Bool} {n n' : Nat} (hS : h.SetOf knd a S n) (e : ∀ k, S k = S' k) (en : n = n') : h.SetOf knd a S' n' := by
  have : S = S' := funext e
  subst this; subst en; exact hS
theorem set_loop (W : WalksS prog w A.in1 I fp wr G n P St) (S : Addr) (hSf : S ∉ fp) (ks : List K) (hn : ks.length = n) (hb : n + 1 < scanBound)
    (hval : ∀ i v, P i v → ∃ k, ks[i]? = some k ∧ knd.is k v = true ∧ v.scannable = true) :
    ∀ (k i : Nat) (s : Shared), n - i = k → i ≤ n → St i s →
      s.heap.SetOf knd S (fun k' => decide (k' ∈ ks.take i)) (uq (ks.take i)).length →
      (∀ s', Moved (S :: wr) G s s' → s'.heap.SetOf knd S (fun k' => decide (k' ∈ ks)) (uq ks).length → R (.ok (.ret .none)) s') →
      codeAny (model prog w) A (.builtin "set.update.loop" ⟨[.ref S, .ref I], []⟩) R s := by
  have hSw : S ∉ wr := fun h => hSf (W.sub _ h)
  have hsub : ∀ b ∈ wr, b ∈ S :: wr := fun b hb => List.mem_cons_of_mem _ hb
  intro k
  induction k with
  | zero =>
    intro i s hk hi hst hS hR
    have hin : i = n := by omega
    subst hin
    refine codeAny_builtin PyProof.Rows.F.entry_set_update_loop ?_
    rw [Around.under_plainId PyProof.Rows.F.plain_set_update_loop _]
    show wpAny _ A.in1 (pyNext (.ref I) >>= _) _ _ s
    refine wpAny_bind (W.done s _ _ hst fun s' hm => ?_)
    show wpAny _ A.in1 (ret Value.none) _ _ s'
    rw [← hn, List.take_length] at hS
    exact wpAny_pure (hR s' (hm.mono hsub) (by
      obtain ⟨o, es, ep, t, ho, rest⟩ := hS
      exact ⟨o, es, ep, t, hm.heap S _ hSw ho, rest⟩))
  | succ k ih =>
    intro i s hk hi hst hS hR
    have hlt : i < n := by omega
    refine codeAny_builtin PyProof.Rows.F.entry_set_update_loop ?_
    rw [Around.under_plainId PyProof.Rows.F.plain_set_update_loop _]
    show wpAny _ A.in1 (pyNext (.ref I) >>= _) _ _ s
    refine wpAny_bind (W.item i s _ _ hlt hst fun v s' hP hst' hm => ?_)
    obtain ⟨q, hq, his, hsc⟩ := hval i v hP
    have hS' : s'.heap.SetOf knd S (fun k' => decide (k' ∈ ks.take i)) (uq (ks.take i)).length := by
      obtain ⟨o, es, ep, tb, ho, rest⟩ := hS
      exact ⟨o, es, ep, tb, hm.heap S _ hSw ho, rest⟩
    show wpAny _ A.in1 (holding [v] (setAdd S v) >>= _) _ _ s'
    refine wpAny_bind (wpAny_holding ?_)
    unfold setAdd
    refine wpAny_holding ?_
    refine wpAny_bind (knd.pyHash (k := q) his ?_)
    have hroom : (uq (ks.take i)).length + 1 < scanBound := by
      have h1 := len_uq (ks.take i)
      have h2 : (ks.take i).length ≤ i := by simp; omega
      omega
    refine wpAny_setAddHashed_of (knd := knd) (s := { s' with toks := s'.toks + 1 }) his hsc hS' hroom fun h' hsb hS2 => ?_
    have et : ks.take (i + 1) = ks.take i ++ [q] := by
      rw [List.take_add_one, hq]
      rfl
    have hSi : h'.SetOf knd S (fun k' => decide (k' ∈ ks.take (i + 1))) (uq (ks.take (i + 1))).length := by
      refine set_congr hS2 (fun k' => ?_) ?_
      · rw [et]
        simp only [List.mem_append, List.mem_singleton]
        by_cases h1 : k' ∈ ks.take i <;> by_cases h2 : k' = q <;> simp [h1, h2]
      · rw [et, uq_snoc]
        unfold uqS
        by_cases h1 : q ∈ ks.take i
        · rw [if_pos (decide_eq_true h1), if_pos (mem_uq.mpr h1)]
        · rw [if_neg (by simpa using h1), if_neg (fun z => h1 (mem_uq.mp z)), List.length_append]
          rfl
    refine wpAny_pure ⟨plainId_quiet PyProof.Rows.F.plain_set_update_loop _, ih (i + 1) _ (by omega) hlt (W.frame _ s' _ _ hst' (Nat.le_succ _) fun b hb o e => ?_) hSi fun s'' hm'' hS'' => ?_⟩
    · rw [hsb.2 b (fun h : b = S => hSf (by rw [← h]; exact hb))]; exact e
    · refine hR s'' (Moved.trans W.gtrans ((hm.mono hsub).then_heap (Nat.le_succ _) fun b o hb e => ?_) hm'') hS''
      rw [hsb.2 b (fun h : b = S => hb (by rw [h]; exact List.mem_cons_self))]; exact e
end
section
variable {prog : Program} {w : World} {K : Type} [DecidableEq K] {knd : KeyKind prog w K} {A : Around} {E : Value → Shared → Prop} {s : Shared}
set_option maxHeartbeats 3200000 in
theorem call_setK {l : Addr} {items : Array Value} {ks : List K} {Q : Value → Shared → Prop}
    (hh : A.handled = none) (hl : s.heap.IsList l items) (hsz : ks.length = items.size) (hval : ∀ (i : Nat) (v : Value), items[i]? = some v → ∃ k, ks[i]? = some k ∧ knd.is k v = true ∧ v.scannable = true) (hb : items.size + 1 < scanBound)
    (h : ∀ (h' : Heap) (tk : Nat), h'.SetOf knd s.heap.objs.size (fun k' => decide (k' ∈ ks)) (uq ks).length →
      (∀ b o, b < s.heap.objs.size → s.heap.get? b = some o → h'.get? b = some o) → Q (.ref s.heap.objs.size) { s with heap := h', toks := tk }) :
    wpAny (model prog w) A (call (.type "set") [.ref l]) Q E s := by
  obtain ⟨c, tl, hmro⟩ := PySem.F.called_set.mro
  have hmade := PySem.F.called_set.made
  have hsub := PySem.F.called_set.sub
  refine wpAny_call (codeAny_of_tree ?_)
  show wpAny _ _ (callAny (.type "set") _) _ _ _
  refine wpAny_pure ⟨Code.quiet_builtin _ (by decide +kernel), codeAny_builtin PySem.F.entry_type_call ?_⟩
  rw [Around.under_plain (weight_type_call_type "set" [.ref l] []) rfl]
  have h1 := PySem.F.called_set.notType
  have h2 := PySem.F.called_set.canCreate
  have hct := PySem.F.typeCall_set_1 (.ref l)
  repeat (any_goals (first | assumption | wp_step))
  refine codeAny_mono (code_set_new_1 (.ref l) (E := E) (Q₁ := fun obj s₁ => ∃ led : Bool, obj = .ref s.heap.objs.size ∧ s₁ = { s with heap := s.heap.push { cls := .type "set", dict := none, data := .set #[] 0 (.fresh 0 0 led) } }) fun led => ⟨led, rfl, rfl⟩) fun r s₁ hr => ?_
  cases r with
  | error e => exact hr
  | ok fl =>
    cases fl with
    | ret obj =>
      obtain ⟨led, rfl, rfl⟩ := hr
      have hS : (s.heap.push { cls := .type "set", dict := none, data := .set #[] 0 (.fresh 0 0 led) }).get? s.heap.objs.size = some { cls := .type "set", dict := none, data := .set #[] 0 (.fresh 0 0 led) } := Heap.get?_push_size _ rfl
      have hT : Shared.TypeIs { s with heap := s.heap.push { cls := .type "set", dict := none, data := .set #[] 0 (.fresh 0 0 led) } } (.ref s.heap.objs.size) "set" := ⟨_, hS, rfl⟩
      have hli := PySem.F.called_set.init.lookup
      have hbi := PySem.F.called_set.init.bind (.ref s.heap.objs.size)
      repeat (any_goals (first | assumption | wp_step))
      refine codeAny_mono (codeAny_call_builtin (R := wants (fun r s₂ => r = .none ∧ ∃ h' tk, s₂ = { s with heap := h', toks := tk } ∧
          h'.SetOf knd s.heap.objs.size (fun k' => decide (k' ∈ ks)) (uq ks).length ∧
          (∀ b o, b < s.heap.objs.size → s.heap.get? b = some o → h'.get? b = some o)) E) PySem.F.called_set.init.plain PySem.F.entry_set_init (check_set_init_1 hT ?_)) fun r₂ s₂ hr₂ => ?_
      · obtain ⟨ol, hol, hcl, nl, hdl⟩ := hl
        obtain ⟨ocls, odict, odata, oslots⟩ := ol
        simp only at hcl hdl
        subst hcl; subst hdl
        have hol' : (s.heap.push { cls := .type "set", dict := none, data := .set #[] 0 (.fresh 0 0 led) }).get? l = some { cls := .type "list", dict := odict, data := .seq items nl, slots := oslots } := Heap.get?_push_of_some _ hol
        have hsls := PySem.F.sub_list_set
        have hslf := PySem.F.sub_list_frozenset
        have hne : (Value.type "list" == Value.type "dict") = false := by decide
        have hl1 : (s.heap.push { cls := .type "set", dict := none, data := .set #[] 0 (.fresh 0 0 led) }).IsList l items := ⟨_, hol', rfl, nl, rfl⟩
        unfold Builtin.«set.__init__» noKeywords Builtin.Frozenset.updateFrom
        generalize hPI : pyIter = PI
        wp_walk
        subst hPI
        refine wpAny_pyIter_list hl1 ?_
        refine wpAny_bind (wpAny_runValue ?_)
        have hlS : l < s.heap.objs.size := Heap.lt_size hol
        have hh3 : A.in1.in1.in1.handled = none := by simp [hh]
        have hneI : l ≠ (s.heap.push { cls := .type "set", dict := none, data := .set #[] 0 (.fresh 0 0 led) }).objs.size := by
          rw [Heap.size_push]; exact Nat.ne_of_lt (Nat.lt_succ_of_lt hlS)
        have hSf : s.heap.objs.size ∉ [(s.heap.push { cls := .type "set", dict := none, data := .set #[] 0 (.fresh 0 0 led) }).objs.size, l] := by
          rw [Heap.size_push]; simp only [List.mem_cons, List.mem_singleton, List.not_mem_nil, or_false, not_or]
          exact ⟨Nat.ne_of_lt (Nat.lt_succ_self _), Nat.ne_of_gt hlS⟩
        refine set_loop (knd := knd) ((Walks.list hh3 _ l hneI items).toS) s.heap.objs.size
          hSf ks hsz hb hval (items.size - 0) 0 _ (by omega) (Nat.zero_le _)
          ⟨⟨_, Heap.get?_push_size _ rfl, rfl, rfl⟩, (hl1.push _)⟩ ?hS0 ?hR
        case hS0 =>
          have hget : ((s.heap.push { cls := .type "set", dict := none, data := .set #[] 0 (.fresh 0 0 led) }).push { cls := .type "list_iterator", data := .fields #[.ref l, .int 0 0] }).get? s.heap.objs.size
              = some { cls := .type "set", dict := none, data := .set #[] 0 (.fresh 0 0 led) } := Heap.get?_push_of_some _ hS
          exact set_congr ((PyProof.Rows.setObjOf_fresh (knd := knd) led).setOf hget (by unfold scanBound; omega)) (fun k => by simp) rfl
        case hR =>
          intro s' hm hS'
          obtain ⟨h', g', d', tk', os'⟩ := s'
          have eg : g' = s.gens := hm.gens
          have ed : d' = s.drawn := hm.drawn
          have eo : os' = s.os := hm.os
          subst eg; subst ed; subst eo
          show wpAny _ _ _ _ _ _
          refine wpAny_pure ?_
          show wpAny _ _ (ret Value.none) _ _ _
          refine wpAny_pure ⟨rfl, h', tk', rfl, hS', fun b o hb e => ?_⟩
          have hb1 : b ≠ s.heap.objs.size := Nat.ne_of_lt hb
          have hb2 : b ≠ (s.heap.push { cls := .type "set", dict := none, data := .set #[] 0 (.fresh 0 0 led) }).objs.size := by
            rw [Heap.size_push]; exact Nat.ne_of_lt (Nat.lt_succ_of_lt hb)
          exact hm.heap b o (by simp only [List.mem_cons, List.mem_singleton, List.not_mem_nil, or_false, not_or]; exact ⟨hb1, hb2⟩) (Heap.get?_push_of_some _ (Heap.get?_push_of_some _ e))
      · cases r₂ with
        | error e => exact hr₂
        | ok fl₂ =>
          cases fl₂ with
          | ret r =>
            obtain ⟨rfl, h', tk, rfl, hS', hk'⟩ := hr₂
            repeat (any_goals (first | assumption | wp_step))
            exact h _ _ hS' hk'
          | _ => exact hr₂.elim
    | _ => exact hr.elim
end
/-! ### len(set(texts)) -/
def tLenSetS (K : PySem.W.Frag) (ta : TE) : TE := fun σ H Q => ta σ H fun x H1 => ∃ (l : Addr) (ws : List Str), x = .ref l ∧ SqL K H1 l (ws.map V.str) ∧ ws.length ≤ 4000 ∧ Q (.int ((uq ws).length : Nat)) H1
theorem pe_lenSetS {X : Cx} {a : Expr} {ta : TE} {p p2 q pos : Pos} (hg : Gl X "len") (hm : X.mg "len" = none) (hg2 : Gl X "set") (hm2 : X.mg "set" = none) (ha : PE X a ta) (hc : X.calm = true)
    (na : starEach [a] X.env = (false, eval a X.env) :: starEach [] X.env := by rfl) : PE X (.Call (.Name "len" p) [.Call (.Name "set" p2) [a] [] q] [] pos) (tLenSetS X.K ta) := by
  refine ⟨fun pins s σ H Q I h => ?_⟩
  refine Call_ (ld_blt I hg hm boot_len ?_)
  refine PyProof.Rows.callWith_builtin1 (PyProof.Rows.args_cons ?_ rfl) rfl rfl
  refine Call_ (ld_blt I hg2 hm2 boot_set ?_)
  refine PyProof.Rows.callWith_type1 (PyProof.Rows.args_cons (thn (ha.run pins s σ H _ I h) fun v s1 ⟨x, H1, I1, r1, q1⟩ => PyProof.Rows.args_nil ?_) na) na rfl
  obtain ⟨l, ws, rfl, hq, hl, q1⟩ := q1
  cases r1
  obtain ⟨its, r, pl, hz⟩ := I1.list hq
  have hlen : ws.length = its.toArray.size := by rw [List.size_toArray, ← r.length, List.length_map]
  refine call_setK (knd := PySem.strKind X.prog X.w) (ks := ws) (I1.ok.hd hc) pl.isList hlen (fun i v hv => ?_) (by rw [← hlen]; unfold scanBound; omega) fun h' tk hS hk => ?_
  · have hv' : its[i]? = some v := by simpa using hv
    have hli : i < ws.length := by
      have := (List.getElem?_eq_some_iff.mp hv').1
      rw [hlen, List.size_toArray]
      exact this
    have hw : ws[i]? = some ws[i] := List.getElem?_eq_getElem hli
    have hx : (ws.map V.str)[i]? = some (.str ws[i]) := by rw [List.getElem?_map, hw]; rfl
    obtain ⟨u, hu, ru⟩ := r.get hx
    rw [hv'] at hu
    cases hu
    obtain ⟨t, rfl⟩ := ru
    exact ⟨_, hw, strKind_is _ _ _ _, rfl⟩
  refine PyProof.Rows.args_nil ?_
  have hu := len_uq ws
  obtain ⟨o, es, ep, t, ho, hex, hd, _, _, _, hf, hn⟩ := hS
  have I2 : Inv X pins σ H1 { s1 with heap := h', toks := tk } := I1.kept fun b o e => hk b o (Heap.lt_size e) e
  exact call_len_set ho hex hd hf (by rw [hn] <;> omega) ⟨.int (uq ws).length, H1, I2.tok _, ⟨_, by rw [hn]⟩, q1⟩
section
variable {X : Cx} {W : Wd} {Γ : List DV} {μ : Mu} {a : Expr} {p p2 q pos : Pos} {ds : List PyData} {ws : List (List Nat)}
theorem S_inj {a b : List Nat} (h : S a = S b) : a = b := by
  have e : decide (V.str (S a) = V.str (S b)) = decide (a = b) := S_eq
  rw [h] at e
  simpa using e
theorem mem_S {w : List Nat} {ws : List (List Nat)} : S w ∈ ws.map S ↔ w ∈ ws := by
  rw [List.mem_map]
  constructor
  · rintro ⟨v, hv, e⟩
    rw [← S_inj e]
    exact hv
  · exact fun h => ⟨w, h, rfl⟩
theorem uq_S (ws : List (List Nat)) : (uq (ws.map S)).length = (uq ws).length := by
  have key : ∀ (ws acc : List (List Nat)), (ws.map S).foldl uqS (acc.map S) = (ws.foldl uqS acc).map S := by
    intro ws
    induction ws with
    | nil => intro acc; rfl
    | cons w ws ih =>
      intro acc
      rw [List.map_cons, List.foldl_cons, List.foldl_cons]
      have e : uqS (acc.map S) (S w) = (uqS acc w).map S := by
        unfold uqS
        by_cases h : w ∈ acc
        · rw [if_pos h, if_pos (mem_S.mpr h)]
        · rw [if_neg h, if_neg (fun z => h (mem_S.mp z)), List.map_append]
          rfl
      rw [e, ih]
  have e := key ws []
  unfold uq
  rw [show ([] : List Str) = ([] : List (List Nat)).map S from rfl, e, List.length_map]
/-- len(set(texts)) -/
theorem ed_lenSet (ha : Ed X W Γ μ a (.list ds)) (hm : X.mg "len" = none) (hm2 : X.mg "set" = none) (hc : X.calm = true) (e : ds = ws.map fun w => .str (S w)) (hl : ws.length ≤ 4000) (hg : Gl X "len" := by rfl) (hg2 : Gl X "set" := by rfl)
    (na : starEach [a] X.env = (false, eval a X.env) :: starEach [] X.env := by rfl) : Ed X W Γ μ (.Call (.Name "len" p) [.Call (.Name "set" p2) [a] [] q] [] pos) (nn (uq ws).length) := fun σ H R Q k => by
  refine (pe_lenSetS hg hm hg2 hm2 wE.pe hc na).w (ha σ H R _ fun v H2 R2 e2 r2 => ?_)
  subst e
  cases r2 with
  | lst hl' hv =>
    have ev := vaAll_S hv
    refine ⟨_, ws.map S, rfl, by rw [← ev]; exact SqL.of (off_some hl').2, by simpa using hl, ?_⟩
    rw [uq_S]
    exact k _ H2 R2 e2 (.int _)
end
end HW
set_option maxHeartbeats 4000000
namespace HW
open PySem PySem.Spec PyProof.Rows L2
open SX (S)
section
variable {X : Cx} {W W0 : Wd} {Γ : List DV} {μ : Mu} {a : Expr} {i : Str} {pos : Pos}
theorem ed_S {p : Pos} {j} (l : List Nat) (e : i = S l := by decide +kernel) : Ed X W Γ μ (.Constant (.str i) j p) (.str (S l)) := e ▸ ed_str
theorem ed_gS {n z : Str} (l : List Nat) (hm : ∃ t, X.mg n = some (.str z t)) (e : z = S l := by decide +kernel) (hg : Gl X n := by rfl) (h1 : (n == ("__debug__" : Str)) = false := by decide) : Ed X W Γ μ (.Name n pos) (.str (S l)) := e ▸ ed_gstr hm hg h1
theorem run_end {P : PyData → Prop} {rt : VK} {bk ct : L2.St → Hp → Prop} (hp : P .none) (hW : Wle W0 W := by first | exact Wle.refl | assumption) : Run X W Γ μ [] ⟨fun _ H' => RetP X.K W0 P .non H', rt, bk, ct⟩ := run_nil fun σ H R => ⟨R.fr.down hW, .none, hp, .non⟩
theorem ed_neg {z : Int} (h : Ed X W Γ μ a (.int z)) : Ed X W Γ μ (.UnaryOp .USub a pos) (.int (-z)) := fun σ H R Q q => (pe_un un_neg wE.pe).w (h σ H R _ fun v H2 R2 e2 r => by
  cases r
  exact ⟨z, rfl, q _ H2 R2 e2 (.int _)⟩)
end
section
variable {X : Cx} {l : List Nat} {ds es : List PyData}
/-! ### tuples -/
theorem o_catT (h : ds.length + es.length ≤ 16777216) : OpD X (binaryOp .Add) (.tuple ds) (.tuple es) (.tuple (ds ++ es)) := OpR.to op_catA fun a b H Q ⟨L, hL, ha, hb, k⟩ => by
  cases ha with
  | tup ha hs =>
    cases hb with
    | tup hb ht =>
      refine ⟨_, _, _, _, rfl, rfl, SqT.up same_off ha, SqT.up same_off hb, by rw [hs.length, ht.length]; exact h, fun e => ?_, fun _ e => ?_, fun _ _ p hp => ?_⟩
      · subst e
        cases hs
        exact k _ _ (Same.refl _) (.tup hb ht)
      · subst e
        cases ht
        rw [List.append_nil] at k
        exact k _ _ (Same.refl _) (.tup ha hs)
      · exact k _ _ (same_new hp) (.tup (.inl (.inl (off_upd (new_out hL hp)))) ((hs.app ht).up (XT.same (same_new hp))))
theorem s_tup {lo hi : Option Int} : SlD X (.tuple ds) lo hi (.tuple ((ds.drop (HT.sIx ds.length 0 lo)).take (HT.sIx ds.length ds.length hi - HT.sIx ds.length 0 lo))) := SlR.to sl_tupA fun v l u H Q ⟨e1, e2, L, hL, hv, k⟩ => by
  subst e1 e2
  cases hv with
  | tup ha hs =>
    refine ⟨_, _, rfl, SqT.up same_off ha, fun hw => ?_, fun _ p hp => ?_⟩
    · rw [hs.length] at hw
      rw [hw.1, hw.2] at k
      simp only [List.drop_zero, Nat.sub_zero, List.take_length] at k
      exact k _ _ (Same.refl _) (.tup ha hs)
    · refine k _ _ (same_new hp) (.tup (.inl (.inl (off_upd (new_out hL hp)))) ?_)
      unfold cutV
      rw [hs.length]
      exact ((hs.drop _).take _).up (XT.same (same_new hp))
end
end HW
set_option maxHeartbeats 4000000
namespace HW
open PySem PySem.Spec PyProof.Rows L2
open SX (S)
section
variable {X : Cx} {W : Wd} {Γ : List DV} {μ : Mu} {α : Type} {iter elt t : Expr} {scope : Scope} {pos p1 p2 tpos : Pos} {kk : Nat} {e1 e2 : α → PyData} {xs : List α} {n1 n2 : Str}
/-- [elt for n1, n2 in iter] -/
theorem lcP0 (k1 k2 : Nat) (hi : IterD X W Γ μ (.Tuple [.Name n1 p1, .Name n2 p2] kk tpos) iter (fun x => pr2 (e1 x) (e2 x)) xs) (hz : xs.length ≤ 16777216) (f : α → PyData)
    (he : ∀ x ∈ xs, ∀ W1, Wle W W1 → ∀ s H C cl fp, Ed (blkOf X scope s H C cl fp) W1 (((wipeD [k1, k2] Γ).set k1 (.d (e1 x))).set k2 (.d (e2 x))) μ elt (f x)) (hN : X.N.Nodup) (hn1 : X.N[k1]? = some n1 := by rfl) (hn2 : X.N[k2]? = some n2 := by rfl)
    (hv1 : ∀ s H C cl fp, Loc (blkOf X scope s H C cl fp).env.scope n1 := by intro _ _ _ _ _; first | exact Or.inl rfl | exact Or.inr rfl) (hf1 : ∀ s H C cl fp, (blkOf X scope s H C cl fp).fn n1 = true ∨ (blkOf X scope s H C cl fp).env.scope.names.lookup n1 = some .local := by intro _ _ _ _ _; first | exact .inr rfl | exact .inl rfl)
    (hv2 : ∀ s H C cl fp, Loc (blkOf X scope s H C cl fp).env.scope n2 := by intro _ _ _ _ _; first | exact Or.inl rfl | exact Or.inr rfl) (hf2 : ∀ s H C cl fp, (blkOf X scope s H C cl fp).fn n2 = true ∨ (blkOf X scope s H C cl fp).env.scope.names.lookup n2 = some .local := by intro _ _ _ _ _; first | exact .inr rfl | exact .inl rfl)
    (hcm : ∀ s H C cl fp, (blkOf X scope s H C cl fp).calm = true := by intro _ _ _ _ _; rfl)
    (hb : BlkOk X.N X.env.scope scope [(n1, k1), (n2, k2)] := by exact blkOk_by (by kernel_rfl)) :
    LcEv X W Γ μ elt (.Tuple [.Name n1 p1, .Name n2 p2] kk tpos) iter [] scope (fun ys => ys = xs.map f) := by
  have h := lc0 (E := fun x y => y = f x) (elt := elt) (scope := scope) [(n1, k1), (n2, k2)] hi (tg_pair (tg_name (K := X.K) k1) (tg_name k2))
    (fun s H C cl fp => pg_tup (hcm s H C cl fp) (pgs_cons (pg_name hN hn1 (hv1 s H C cl fp) (hf1 s H C cl fp)) (pgs_cons (pg_name hN hn2 (hv2 s H C cl fp) (hf2 s H C cl fp)) pgs_nil))) (fun _ _ x _ => ⟨e1 x, e2 x, rfl, trivial, trivial⟩) (fun _ e => e ▸ hz) (fun _ e x hx W1 l s H C cl fp => (he x (e ▸ hx) W1 l s H C cl fp).ev) hb (by simp)
  obtain ⟨wi, g, tt, te, own, h1, h2, h3, h4, h5, h6⟩ := h.ex
  exact ⟨wi, g, tt, te, own, h1, h2, h3, h4, h5, fun σ H R Q k => h6 σ H R Q fun ys v H2 ⟨l, e, hp⟩ => k ys v H2 (by rw [← e]; exact paired_map hp)⟩
/-- [elt for n1, n2 in iter if t] -/
theorem lcP1 (k1 k2 : Nat) (hi : IterD X W Γ μ (.Tuple [.Name n1 p1, .Name n2 p2] kk tpos) iter (fun x => pr2 (e1 x) (e2 x)) xs) (hz : xs.length ≤ 16777216) (c : α → Bool) (f : α → PyData)
    (ht : ∀ x ∈ xs, ∀ W1, Wle W W1 → ∀ s H C cl fp, EdT (blkOf X scope s H C cl fp) W1 (((wipeD [k1, k2] Γ).set k1 (.d (e1 x))).set k2 (.d (e2 x))) μ t (c x))
    (he : ∀ x ∈ xs, c x = true → ∀ W1, Wle W W1 → ∀ s H C cl fp, Ed (blkOf X scope s H C cl fp) W1 (((wipeD [k1, k2] Γ).set k1 (.d (e1 x))).set k2 (.d (e2 x))) μ elt (f x)) (hN : X.N.Nodup) (hn1 : X.N[k1]? = some n1 := by rfl) (hn2 : X.N[k2]? = some n2 := by rfl)
    (hv1 : ∀ s H C cl fp, Loc (blkOf X scope s H C cl fp).env.scope n1 := by intro _ _ _ _ _; first | exact Or.inl rfl | exact Or.inr rfl) (hf1 : ∀ s H C cl fp, (blkOf X scope s H C cl fp).fn n1 = true ∨ (blkOf X scope s H C cl fp).env.scope.names.lookup n1 = some .local := by intro _ _ _ _ _; first | exact .inr rfl | exact .inl rfl)
    (hv2 : ∀ s H C cl fp, Loc (blkOf X scope s H C cl fp).env.scope n2 := by intro _ _ _ _ _; first | exact Or.inl rfl | exact Or.inr rfl) (hf2 : ∀ s H C cl fp, (blkOf X scope s H C cl fp).fn n2 = true ∨ (blkOf X scope s H C cl fp).env.scope.names.lookup n2 = some .local := by intro _ _ _ _ _; first | exact .inr rfl | exact .inl rfl)
    (hcm : ∀ s H C cl fp, (blkOf X scope s H C cl fp).calm = true := by intro _ _ _ _ _; rfl)
    (hb : BlkOk X.N X.env.scope scope [(n1, k1), (n2, k2)] := by exact blkOk_by (by kernel_rfl)) :
    LcEv X W Γ μ elt (.Tuple [.Name n1 p1, .Name n2 p2] kk tpos) iter [t] scope (fun ys => ys = (xs.filter c).map f) := by
  have h := lc1 (E := fun x y => y = f x) (c := c) (t := t) (elt := elt) (scope := scope) [(n1, k1), (n2, k2)] hi (tg_pair (tg_name (K := X.K) k1) (tg_name k2))
    (fun s H C cl fp => pg_tup (hcm s H C cl fp) (pgs_cons (pg_name hN hn1 (hv1 s H C cl fp) (hf1 s H C cl fp)) (pgs_cons (pg_name hN hn2 (hv2 s H C cl fp) (hf2 s H C cl fp)) pgs_nil))) (fun _ _ x _ => ⟨e1 x, e2 x, rfl, trivial, trivial⟩) (fun _ e => e ▸ hz)
    (fun _ e x hx W1 l s H C cl fp => ht x (e ▸ hx) W1 l s H C cl fp) (fun _ e x hx hc W1 l s H C cl fp => (he x (e ▸ hx) hc W1 l s H C cl fp).ev) hb (by simp)
  obtain ⟨wi, g, tt, te, own, h1, h2, h3, h4, h5, h6⟩ := h.ex
  exact ⟨wi, g, tt, te, own, h1, h2, h3, h4, h5, fun σ H R Q k => h6 σ H R Q fun ys v H2 ⟨l, e, hp⟩ => k ys v H2 (by rw [← e]; exact paired_map hp)⟩
end
end HW
set_option maxHeartbeats 4000000
namespace HW
open PySem PySem.Spec PyProof.Rows L2
open SX (S)
section
variable {X : Cx} {W : Wd} {Γ : List DV} {μ : Mu} {α : Type} {iter elt t : Expr} {scope : Scope} {pos p : Pos} {enc : α → PyData} {n : Str} {P : List α → Prop} {E : α → PyData → Prop}
end
section
variable {X : Cx} {W : Wd} {Γ : List DV} {μ : Mu} {e o : Expr} {pos apos : Pos}
theorem sg_flat (cs : List Nat) : (cs.map fun c => [c]).flatten = cs := by
  induction cs with
  | nil => rfl
  | cons a r ih => rw [List.map_cons, List.flatten_cons, ih]; rfl
theorem sg_sum (cs : List Nat) : ((cs.map fun c => [c]).map List.length).sum = cs.length := by
  induction cs with
  | nil => rfl
  | cons a r ih => rw [List.map_cons, List.map_cons, List.sum_cons, ih, List.length_cons, Nat.add_comm]; rfl
/-- "".join of signs -/
theorem ev_joinC {Ws : List Nat → Prop} (ho : Ed X W Γ μ o (.str (S []))) (he : Ev X W Γ μ e (fun z => ∃ cs : List Nat, z = .list (cs.map sg) ∧ Ws cs)) (hz : ∀ cs, Ws cs → cs.length ≤ 16777216)
    (hs : starEach [e] X.env = [(false, eval e X.env)] := by rfl) (hbase : attributeBase o "join" X.env (eval o X.env) = eval o X.env := by rfl) (hline : (apos.endLine == pos.line) = true := by rfl) :
    Ev X W Γ μ (.Call (.Attribute o "join" apos) [e] [] pos) (fun z => ∃ cs, z = .str (S cs) ∧ Ws cs) :=
  (ev_join (Ws := fun ws => ∃ cs : List Nat, ws = cs.map (fun c => [c]) ∧ Ws cs) ho (he.imp fun d ⟨cs, e1, e2⟩ => ⟨cs.map fun c => [c], by rw [e1, List.map_map]; rfl, cs, rfl, e2⟩) (fun ws ⟨cs, e1, e2⟩ => by rw [e1, sg_sum]; exact hz cs e2) hs hbase hline).imp fun d ⟨ws, e1, cs, e2, e3⟩ => ⟨cs, by rw [e1, e2, sg_flat], e3⟩
theorem ed_joinC (cs : List Nat) {ds : List PyData} (ho : Ed X W Γ μ o (.str (S []))) (he : Ed X W Γ μ e (.list ds)) (hd : ds = cs.map sg) (hz : cs.length ≤ 16777216)
    (hs : starEach [e] X.env = [(false, eval e X.env)] := by rfl) (hbase : attributeBase o "join" X.env (eval o X.env) = eval o X.env := by rfl) (hline : (apos.endLine == pos.line) = true := by rfl) :
    Ed X W Γ μ (.Call (.Attribute o "join" apos) [e] [] pos) (.str (S cs)) :=
  (ev_joinC (Ws := fun z => z = cs) ho (he.evP ⟨cs, by rw [hd], rfl⟩) (fun _ q => q ▸ hz) hs hbase hline |>.imp (B := fun z => z = .str (S cs)) fun d ⟨w, e1, e2⟩ => by rw [e1, e2]).ed
end
/-! ### to forget -/
theorem Slots.weak {K : PySem.W.Frag} {H : Hp} {σ : L2.St} {Γ Γ' : List DV} (s : Slots K H σ Γ) (h : wk Γ Γ') : Slots K H σ Γ' := by
  obtain ⟨h1, h2⟩ := wk.at h
  refine ⟨s.len.trans h1, fun i dv e => ?_⟩
  rcases h2 i dv e with q | q
  · subst q
    have hl : i < σ.length := by
      rw [s.len, h1]
      exact (List.getElem?_eq_some_iff.mp e).1
    exact ⟨σ[i], List.getElem?_eq_getElem hl, trivial⟩
  · exact s.at_ i dv q
section
variable {X : Cx} {W : Wd} {Γ Γ' : List DV} {μ : Mu} {sts : List Stmt} {D : Ends}
theorem run_weak (h : Run X W Γ' μ sts D) (w : wk Γ Γ') : Run X W Γ μ sts D := fun σ H R => h σ H ⟨R.wd, R.fr, R.sl.weak w, R.mu, R.nd⟩
/-- the end of a turn, the state forgotten down to Γ' -/
theorem run_turnW {Φ : List DV → Mu → Prop} (Γ' : List DV) (w : wk Γ Γ') (h : Φ Γ' μ) (hD : D.nx = StP X.K W Φ := by rfl) : Run X W Γ μ [] D := run_weak (run_turn hD h) w
end
/-! ### a law's beginning: its row of draws -/
def tLst2 (K : PySem.W.Frag) (t : TA) : TE := fun σ H Q => t σ H fun xs H1 => xs.length ≤ sizeLine ∧ ∀ p, H1 p = none → (∀ a ys, SqL K H1 a ys → a ≠ p) → Q (.ref p) (upd H1 p (.lst xs))
/-- a list displayed: it is none of the lists that are there -/
theorem pe_lst2 {X : Cx} {es : List Expr} {t : TA} {pos : Pos} (h : PA X es t) : PE X (.List es pos) (tLst2 X.K t) := by
  refine ⟨fun pins s σ H Q I hq => wpAny_List_spliced (thn (h.run pos pins s σ H _ I hq) fun us s1 ⟨xs, H1, I1, r, z, q⟩ => ⟨by rw [← r.length]; exact z, ?_⟩)⟩
  refine ⟨.ref s1.heap.objs.size, _, I1.laid (t' := s1.toks) (o := .lst xs) (fun b u e => Heap.get?_push_of_some _ e) (Nat.le_refl _) ⟨z, us, 0, r, Heap.get?_push_size _ rfl⟩, rfl, q _ (I1.hok.fresh (Nat.le_refl _)) fun a ys hl => ?_⟩
  obtain ⟨its, _, pl, _⟩ := I1.list hl
  exact Nat.ne_of_lt pl.lt
/-- a law: the script at a, True comes -/
def spLaw (K : PySem.W.Frag) : Sp := fun vs H Q _ => ∃ (a : Addr) (ns : List Int), vs = [.ref a] ∧ ns.length ≤ 63 ∧ SqL K H a (ns.map V.int) ∧ ∀ H', Q (.bl true) H'
section
variable {P : Program} {w : World} {K : PySem.W.Frag} {mg : Str → Option Value} {base : Heap} {qual : Str} {params : Arguments} {rest : List Stmt} {scope : Scope} {f : Addr} {fd : FuncData} {N : List Str} {k : Nat} {p0 p1 p2 p3 p4 p5 p6 : Pos} {j1 j2 j3 : Nat} {sd : Int}
theorem fd_law {body : List Stmt} (F : FunD K "law" qual params body scope [] [] f fd) (S : FnScope N ["_law_script"] scope) (hN : N = ("_law_script" : Str) :: ("_law_row" : Str) :: N.drop 2)
    (hb : body = .Assign [.Name "_law_row" p0] (.List [.Name "_law_script" p1, .Constant (.int 0) j1 p2, .Constant (.int sd) j2 p3, .Constant (.int 0) j3 p4] p5) p6 :: rest)
    (hx : ∀ (cdv : Value) (A : Around) (outer : List Env) (s : Shared) (H : Hp) (E : XK), Loc (cxOf CX0 P w K mg base N qual scope f cdv A outer s H E).nox.env.scope "_law_row" := by intro _ _ _ _ _ _; first | exact Or.inl rfl | exact Or.inr rfl)
    (hv : ∀ (cdv : Value) (A : Around) (outer : List Env) (s : Shared) (H : Hp) (E : XK), Vis (cxOf CX0 P w K mg base N qual scope f cdv A outer s H E).nox.env.scope "_law_script" := by intro _ _ _ _ _ _; first | exact Or.inl rfl | exact Or.inr (Or.inl rfl) | exact Or.inr (Or.inr rfl))
    (hs : ∀ (cdv : Value) (A : Around) (outer : List Env) (s : Shared) (H : Hp) (E : XK), swapsWith (.List [.Name "_law_script" p1, .Constant (.int 0) j1 p2, .Constant (.int sd) j2 p3, .Constant (.int 0) j3 p4] p5) (some (.Name "_law_row" p0)) p6.line (cxOf CX0 P w K mg base N qual scope f cdv A outer s H E).nox.env = pure false := by intro _ _ _ _ _ _; rfl)
    (hf : ∀ (cdv : Value) (A : Around) (outer : List Env) (s : Shared) (H : Hp) (E : XK), (cxOf CX0 P w K mg base N qual scope f cdv A outer s H E).nox.fn "_law_row" = true ∨ (cxOf CX0 P w K mg base N qual scope f cdv A outer s H E).nox.env.scope.names.lookup ("_law_row" : Str) = some .local := by intro _ _ _ _ _ _; first | exact .inr rfl | exact .inl rfl)
    (h : ∀ (cdv : Value) (A : Around) (outer : List Env) (s : Shared) (H : Hp) (E : XK), Room k (A.deeper (envOfC qual scope s.heap.objs.size f cdv)) → ∀ (W : Wd) (r scr : Addr) (ns : List Int), W.row = some (r, scr, ns) →
      Run (cxOf CX0 P w K mg base N qual scope f cdv A outer s H E).nox W (.no :: .r r :: List.replicate (N.length - 2) .no) [] rest { nx := fun _ H' => RetP K W (fun z => z = .bool true) .non H', rt := RetP K W (fun z => z = .bool true) }) :
    FnOk P w K mg base CX0 (k + 1) f fd ["_law_script"] (spLaw K) := by
  refine F.ok S (fun vs H Q E ⟨a, ns, e, _⟩ => by rw [e]; rfl) fun cdv A outer s H vs Q E hr ⟨a, ns, e, hns, hl, q⟩ => ?_
  subst e
  refine ⟨_, PSs.nox wSs.ps, ?_⟩
  rw [hb]
  have hN0 : N[0]? = some ("_law_script" : Str) := by rw [hN]; rfl
  have hN1 : N[1]? = some ("_law_row" : Str) := by rw [hN]; rfl
  refine wSs_cons ((ps_set (i := 1) S.nd hN1 (hx cdv A outer s H E) (pe_lst2 (pa_cons (pe_var (i := 0) hN0 (hv cdv A outer s H E)) (pa_cons pe_int (pa_cons pe_int (pa_cons pe_int pa_nil))))) (hs cdv A outer s H E) (hf cdv A outer s H E)).w ?_)
  have hst : start N [.ref a] = some (.ref a) :: none :: List.replicate (N.length - 2) none := by
    rw [hN]
    show some (V.ref a) :: List.replicate _ none = _
    simp [List.replicate_succ]
  rw [hst]
  refine ⟨_, rfl, Nat.le_of_ble_eq_true rfl, fun r hr' hfr => ?_⟩
  have har : a ≠ r := hfr a _ hl
  let row : HO := .lst [.ref a, .int 0, .int sd, .int 0]
  let W : Wd := ⟨upd H r row, [r], some (r, a, ns)⟩
  have hW : upd H r row r = some row := upd_same
  have ok : WdOk K W := ⟨fun b hb => by
    rw [List.mem_singleton.mp hb]
    show upd H r row r ≠ none
    rw [hW]
    simp, fun r' s' n' e => by
    cases e
    exact ⟨List.mem_cons_self, SqL.up (fun o e => by show upd H r row a = some o; rw [upd_ne har]; exact e) hl, har, hns⟩, fun b hb => by
    rw [List.mem_singleton.mp hb]
    show ∀ xs, upd H r row r ≠ some (.tup xs)
    rw [hW]
    exact fun xs e => (nomatch (show some (HO.lst _) = some (HO.tup xs) from e))⟩
  have sl : Slots K (off (hd W []) (upd H r row)) (some (.ref a) :: some (.ref r) :: List.replicate (N.length - 2) none) (.no :: .r r :: List.replicate (N.length - 2) .no) := by
    refine ⟨by simp, fun i dv e => ?_⟩
    match i, e with
    | 0, e => cases e; exact ⟨_, rfl, trivial⟩
    | 1, e => cases e; exact ⟨_, rfl, rfl⟩
    | i + 2, e =>
      have e' : (List.replicate (N.length - 2) DV.no)[i]? = some dv := e
      rw [List.getElem?_replicate] at e'
      split at e'
      · rename_i hi
        cases e'
        refine ⟨none, ?_, trivial⟩
        show (List.replicate (N.length - 2) (none : Option V))[i]? = some none
        rw [List.getElem?_replicate, if_pos hi]
      · cases e'
  have ret : ∀ v H', RetP K W (fun z => z = .bool true) v H' → Q v H' := fun v H' ⟨fr, d', e, hv'⟩ => by
    subst e
    cases hv'
    exact q H'
  have z := h cdv A outer s H E hr W r a ns rfl _ _ ⟨ok, ⟨fun _ _ _ e => e, fun r' s' n' e => by cases e; exact ⟨0, sd, 0, hW, Int.le_refl _⟩⟩, sl, fun _ z => (nomatch z), List.nodup_nil⟩
  intro pins st I
  refine wpAny_mono (z pins st I) (fun fl s' hq => ?_) fun _ _ z => z
  cases fl with
  | next =>
    obtain ⟨σ', H', I', q'⟩ := hq
    exact ⟨σ', H', I', ret _ _ q'⟩
  | brk => exact hq
  | cont => exact hq
  | ret u =>
    obtain ⟨v, σ', H', I', r', q'⟩ := hq
    exact ⟨v, σ', H', I', r', ret _ _ q'⟩
end
end HW
set_option maxHeartbeats 4000000
namespace HW
open PySem PySem.Spec PyProof.Rows L2
open SX (S)
/-- the end of a turn, the state forgotten down to Γ' -/
theorem run_go {X : Cx} {W : Wd} {Γ : List DV} {μ : Mu} {Φ : List DV → Mu → Prop} {rt : VK} {bk ct : L2.St → Hp → Prop} (Γ' : List DV) (w : wk Γ Γ') (h : Φ Γ' μ) : Run X W Γ μ [] ⟨StP X.K W Φ, rt, bk, ct⟩ := run_turnW Γ' w h rfl
/-! ### shapes, for == -/
theorem Shp.ok {n : Nat} {d : PyData} (h : Shp n d) (l : n ≤ 64 := by decide) : SeqAt.shaped d = true := by
  unfold SeqAt.shaped
  rw [h.lay, decide_eq_true (Nat.le_trans h.dep l)]
  rfl
section
variable {X : Cx} {x y : PyData} {n : Nat}
theorem c_eqSame (hu : X.A.units + 64 < cLine) (h : Shp n x) (hn : n ≤ 64 := by decide) : OpD X (compareOp .Eq) x x (.bool true) := by
  have z := c_eqD (X := X) hu (h.ok hn) (h.ok hn)
  rw [SeqAt.eqv_refl x h.lay] at z
  exact z
theorem c_neSame (hu : X.A.units + 64 < cLine) (h : Shp n x) (hn : n ≤ 64 := by decide) : OpD X (compareOp .NotEq) x x (.bool false) := by
  have z := c_neD (X := X) hu (h.ok hn) (h.ok hn)
  rw [SeqAt.eqv_refl x h.lay] at z
  exact z
end
end HW
set_option maxHeartbeats 4000000
namespace HW
open PySem PySem.Spec PyProof.Rows L2
open SX (S)
abbrev FnP (K : PySem.W.Frag) (x : Str) (st : Stmt) (f : Addr) (fd : FuncData) : Prop := FunD K x x (defArgs st) (defBody st) (defScope st) [] [] f fd
structure Gs (mg : Str → Option Value) : Prop where
  isinstance : mg "isinstance" = none
  str : mg "str" = none
  int : mg "int" = none
  len : mg "len" = none
  all : mg "all" = none
  range : mg "range" = none
  set : mg "set" = none
  enumerate : mg "enumerate" = none
  zip : mg "zip" = none
  min : mg "min" = none
  max : mg "max" = none
  sorted : mg "sorted" = none
  any : mg "any" = none
  tuple : mg "tuple" = none
  list : mg "list" = none
  bool : mg "bool" = none
  dict : mg "dict" = none
  abs : mg "abs" = none
  sum : mg "sum" = none
abbrev gSEEN (mg : Str → Option Value) : Prop := ∃ t, mg "SEEN" = some (.str "x" t)
abbrev gHOLE (mg : Str → Option Value) : Prop := ∃ t, mg "HOLE" = some (.str "." t)
abbrev gOPEN (mg : Str → Option Value) : Prop := ∃ t, mg "OPEN" = some (.str "?" t)
abbrev gLETTERS (mg : Str → Option Value) : Prop := ∃ t, mg "LETTERS" = some (.str "abcd" t)
abbrev gMOST_MASK (mg : Str → Option Value) : Prop := ∃ t, mg "MOST_MASK" = some (.int 12 t)
abbrev gMOST_ROW (mg : Str → Option Value) : Prop := ∃ t, mg "MOST_ROW" = some (.int 60 t)
/-! the plain words -/
def rowB (l : List Nat) : Bool := decide (l.length ≤ 60) && l.all (fun c => decide (c ∈ [97, 98, 99, 100]))
abbrev sD (l : List Nat) : PyData := .str (S l)
abbrev nD (l : List Nat) : PyData := .list (l.map nn)
abbrev wD (l : List (List Nat)) : PyData := .list (l.map sD)
def R_is_mask (ds : List PyData) (d : PyData) : Prop := ∃ m : List Nat, ds = [sD m] ∧ maskB m = true ∧ d = .bool true
def R_need_mask (ds : List PyData) (d : PyData) : Prop := ∃ m : List Nat, ds = [sD m] ∧ maskB m = true ∧ d = .none
def R_is_row (ds : List PyData) (d : PyData) : Prop := ∃ l : List Nat, ds = [sD l] ∧ rowB l = true ∧ d = .bool true
def R_need_row (ds : List PyData) (d : PyData) : Prop := ∃ l : List Nat, ds = [sD l] ∧ rowB l = true ∧ d = .none
def R_seen_by (ds : List PyData) (d : PyData) : Prop := ∃ m : List Nat, ds = [sD m] ∧ m.length ≤ 16777216 ∧ d = nD (seenL m)
theorem map_fst_le {α β : Type} (l : List (α × β)) (p : α × β → Bool) : ((l.filter p).map Prod.fst).length ≤ l.length := by
  rw [List.length_map]
  exact List.length_filter_le ..
/-! ### the draws -/
section
variable {X : Cx} {σ : L2.St} {H : Hp} {a b : Expr} {x y z : V} {Q : VK} {pos : Pos}
/-- e gives v here, whatever the heap is then: the heap stays -/
def At (X : Cx) (σ : L2.St) (H : Hp) (e : Expr) (v : V) : Prop := ∀ Q : VK, Q v H → wE X e σ H Q
theorem at_var (i : Nat) {n : Str} (h : σ[i]? = some (some x)) (hN : X.N[i]? = some n := by rfl) (hv : Vis X.env.scope n := by first | exact Or.inl rfl | exact Or.inr (Or.inl rfl) | exact Or.inr (Or.inr rfl))
    (h1 : (n == ("__debug__" : Str)) = false := by decide) (h2 : (n == ("__classdict__" : Str)) = false := by decide) : At X σ H (.Name n pos) x := fun Q q => (pe_var hN hv h1 h2).w ⟨x, h, q⟩
theorem at_k {e : Expr} {v : V} (h : At X σ H e v) (q : Q v H) : wE X e σ H Q := h Q q
theorem at_int {i : Int} {j p} : At X σ H (.Constant (.int i) j p) (.int i) := fun Q q => pe_int.w q
theorem at_op {op : Operator} {r : R2} (o : OpR X (binaryOp op) r) (ha : At X σ H a x) (hb : At X σ H b y) (hz : ∀ Q : VK, Q z H → r x y H Q) : At X σ H (.BinOp a op b pos) z := fun Q q => (pe_op o wE.pe wE.pe).w (ha _ (hb _ (hz Q q)))
theorem at_ix {p : Addr} {xs : List V} {i : Int} (ha : At X σ H a (.ref p)) (hb : At X σ H b (.int i)) (hl : SqL X.K H p xs) (hx : atI xs i = some x) (hs : PlainIx b := by exact fun _ _ => rfl) : At X σ H (.Subscript a b pos) x := fun Q q =>
  (pe_ix ix_list wE.pe wE.pe hs).w (ha _ (hb _ ⟨p, xs, i, x, rfl, rfl, hl, hx, q⟩))
theorem at_int1 {p : Pos} {i : Int} (ha : At X σ H a (.int i)) (hm : X.mg "int" = none) (hg : Gl X "int" := by rfl) (hs : starEach [a] X.env = (false, eval a X.env) :: starEach [] X.env := by rfl) (hpl : (backTo pos (starEach [] X.env)).any (·.1) = false := by rfl) : At X σ H (.Call (.Name "int" p) [a] [] pos) (.int i) := fun Q q =>
  (pe_callTy call_int1 hg hm boot_int (pa_cons wE.pe pa_nil hs) (by decide) (by decide) hs hpl).w (ha _ (.inl ⟨i, rfl, q⟩))
theorem at_len {p : Pos} {l : Addr} {xs : List V} (ha : At X σ H a (.ref l)) (hl : SqL X.K H l xs) (hm : X.mg "len" = none) (hg : Gl X "len" := by rfl) (hs : starEach [a] X.env = (false, eval a X.env) :: starEach [] X.env := by rfl) (hpl : (backTo pos (starEach [] X.env)).any (·.1) = false := by rfl) : At X σ H (.Call (.Name "len" p) [a] [] pos) (.int xs.length) := fun Q q =>
  (pe_callB call_len_seq hg hm boot_len (pa_cons wE.pe pa_nil hs) (by decide) (by decide) hs hpl).w (ha _ ⟨l, xs, rfl, .inl hl, q⟩)
theorem at_cmp {op : CmpOp} {r : R2} {k : Bool} (o : OpR X (compareOp op) r) (ha : At X σ H a x) (hb : At X σ H b y) (hz : ∀ Q : VK, Q (.bl k) H → r x y H Q) {Qb : Bool → Hp → Prop} (q : Qb k H) (hm : behindInMarks op b = false := by first | exact nomark _ | rfl) : wT X (.Compare a [op] [b] pos) σ H Qb :=
  (pt_cmpR o wE.pe wE.pe hm).w (ha _ (hb _ (hz _ ⟨k, rfl, q⟩)))
end
def R_taken_pre (ds : List PyData) : Prop := ∃ m : Int, ds = [.int m] ∧ 0 < m ∧ m < 1073741824
def R_taken_post (ds : List PyData) (d : PyData) : Prop := ∃ m : Int, ∃ k : Nat, ds = [.int m] ∧ d = .int (k : Int) ∧ (k : Int) < m
/-! ### rings -/
def R_need_ring (ds : List PyData) (d : PyData) : Prop := ∃ l : List Nat, ds = [sD l] ∧ rowB l = true ∧ l ≠ [] ∧ d = .none
def R_rvo (ds : List PyData) (d : PyData) : Prop := ∃ l m : List Nat, ds = [sD l, sD m] ∧ l.length ≤ 4000 ∧ m.length ≤ 4000 ∧ d = wD (ringV l (seenL m))
def R_ring_views (ds : List PyData) (d : PyData) : Prop := ∃ l m : List Nat, ds = [sD l, sD m] ∧ rowB l = true ∧ l ≠ [] ∧ maskB m = true ∧ d = wD (ringV l (seenL m))
def R_ring_tells (ds : List PyData) (d : PyData) : Prop := ∃ l m : List Nat, ds = [sD l, sD m] ∧ rowB l = true ∧ l ≠ [] ∧ maskB m = true ∧ d = .bool (decide ((ringV l (seenL m)).Nodup))
theorem rowB_len {l : List Nat} (h : rowB l = true) : l.length ≤ 60 := by
  unfold rowB at h
  simp only [Bool.and_eq_true, decide_eq_true_eq] at h
  exact h.1
theorem maskB_len {m : List Nat} (h : maskB m = true) : m.length ≤ 12 := by
  unfold maskB at h
  simp only [Bool.and_eq_true, decide_eq_true_eq] at h
  exact h.1.1.1.2
theorem seenL_len (m : List Nat) : (seenL m).length ≤ m.length := by
  unfold seenL
  refine Nat.le_trans (map_fst_le _ _) ?_
  simp
/-! ### the law's own defs -/
abbrev DRAW (P : Program) (w : World) (K : PySem.W.Frag) (mg : Str → Option Value) (base : Heap) (k : Nat) : Prop := Fd P w K mg base k "_law_taken" ["_law_row", "_law_many"] (spW K R_taken_pre R_taken_post)
section
variable {X : Cx} {W : Wd} {Γ : List DV} {μ : Mu} {a : Expr} {pos p p2 : Pos} {n : Str} {r scr : Addr} {ns : List Int} {k : Nat}
/-- _law_taken(_law_row, a) -/
theorem ev_taken {A : PyData → Prop} (m : Nat) (F : DRAW X.prog X.w X.K X.mg X.base k) (hr : Room k X.A) (hrow : W.row = some (r, scr, ns)) (i : Nat) (ha : Ev X W Γ μ a A) (hm : ∀ d, A d → ∃ z : Nat, d = nn z ∧ 1 ≤ z ∧ z ≤ m) (hm2 : m < 1000000 := by decide)
    (hi : Γ[i]? = some (.r r) := by rfl) (hN : X.N[i]? = some n := by rfl) (hv : Vis X.env.scope n := by first | exact Or.inl rfl | exact Or.inr (Or.inl rfl) | exact Or.inr (Or.inr rfl))
    (h1 : (n == ("__debug__" : Str)) = false := by decide) (h2 : (n == ("__classdict__" : Str)) = false := by decide) (hg : Gl X "_law_taken" := by rfl)
    (he : starEach (.Name n p2 :: [a]) X.env = (false, eval (.Name n p2) X.env) :: starEach [a] X.env := by rfl) (hpl : (backTo pos (starEach [a] X.env)).any (·.1) = false := by rfl) (he2 : starEach [a] X.env = (false, eval a X.env) :: starEach [] X.env := by rfl) :
    Ev X W Γ μ (.Call (.Name "_law_taken" p) (.Name n p2 :: [a]) [] pos) (fun d => ∃ z k : Nat, A (nn z) ∧ d = nn k ∧ k < z ∧ z ≤ m) :=
  (ev_draw F hr hrow i (eva_cons ha eva_nil he2) (fun ds ⟨x, r, e, ax, er⟩ => by
    obtain ⟨z, e2, h3, h4⟩ := hm x ax
    subst er
    exact ⟨(z : Int), by rw [e, e2], by omega, by omega⟩) hi hN hv h1 h2 hg (by decide) he hpl).imp fun d ⟨ds, ⟨x, r, e, ax, er⟩, m', k', e3, e4, h5⟩ => by
    obtain ⟨z, e2, h3, h4⟩ := hm x ax
    subst er
    rw [e, e2] at e3
    have e5 : (z : Int) = m' := by
      have := (List.cons.inj e3).1
      exact PyData.int.inj this
    exact ⟨z, k', e2 ▸ ax, e4, by omega, h4⟩
theorem ev_takenN (m : Nat) (F : DRAW X.prog X.w X.K X.mg X.base k) (hr : Room k X.A) (hrow : W.row = some (r, scr, ns)) (i : Nat) {z : Int} (ha : Ed X W Γ μ a (.int z)) (e : z = (m : Int)) (h1m : 1 ≤ m := by decide) (hm2 : m < 1000000 := by decide)
    (hi : Γ[i]? = some (.r r) := by rfl) (hN : X.N[i]? = some n := by rfl) (hv : Vis X.env.scope n := by first | exact Or.inl rfl | exact Or.inr (Or.inl rfl) | exact Or.inr (Or.inr rfl))
    (h1 : (n == ("__debug__" : Str)) = false := by decide) (h2 : (n == ("__classdict__" : Str)) = false := by decide) (hg : Gl X "_law_taken" := by rfl)
    (he : starEach (.Name n p2 :: [a]) X.env = (false, eval (.Name n p2) X.env) :: starEach [a] X.env := by rfl) (hpl : (backTo pos (starEach [a] X.env)).any (·.1) = false := by rfl) (he2 : starEach [a] X.env = (false, eval a X.env) :: starEach [] X.env := by rfl) :
    Ev X W Γ μ (.Call (.Name "_law_taken" p) (.Name n p2 :: [a]) [] pos) (fun d => ∃ k : Nat, d = nn k ∧ k < m) :=
  (ev_taken (A := fun d => d = nn m) m F hr hrow i (ha.evP (by rw [e])) (fun d e => ⟨m, e, h1m, Nat.le_refl _⟩) hm2 hi hN hv h1 h2 hg he hpl he2).imp fun d ⟨z, k, e1, e2, h3, h4⟩ => ⟨k, e2, by omega⟩
end
/-! ### the plain law -/
theorem shp_w {ws : List (List Nat)} (h : ∀ v ∈ ws, ∀ c ∈ v, c < 128) : Shp 1 (wD ws) := Shp.list fun x hx => by
  obtain ⟨v, hv, rfl⟩ := List.mem_map.mp hx
  exact Shp.str (h v hv)

end HW
set_option maxHeartbeats 4000000
namespace HW
open PySem PySem.Spec PyProof.Rows L2
open SX (S)
section
variable {X : Cx} {W W0 : Wd} {Γ : List DV} {μ : Mu} {e c a b : Expr} {rest sts body : List Stmt} {D : Ends} {d x y : PyData} {pos p p1 p2 p3 : Pos} {n n1 n2 : Str} {α : Type}
/-- l.extend(e) -/
theorem run_extP {P : List PyData → Prop} (i j : Nat) {l : Addr} {ys : List PyData} (he : Ev X W Γ μ e (fun z => ∃ zs, z = .list zs ∧ P zs)) (hl : ∀ zs, P zs → ys.length + zs.length ≤ 16777216) (h : ∀ zs, P zs → Run X W Γ (μ.set j (l, .lst (ys ++ zs))) rest D)
    (hi : Γ[i]? = some (.r l) := by rfl) (hj : μ[j]? = some (l, .lst ys) := by rfl) (hN : X.N[i]? = some n := by rfl) (hv : Vis X.env.scope n := by first | exact Or.inl rfl | exact Or.inr (Or.inl rfl) | exact Or.inr (Or.inr rfl))
    (h1 : (n == ("__debug__" : Str)) = false := by decide) (h2 : (n == ("__classdict__" : Str)) = false := by decide)
    (hbase : attributeBase (.Name n p1) "extend" X.env (eval (.Name n p1) X.env) = eval (.Name n p1) X.env := by rfl)
    (hfew : ((backTo p3 (starEach [e] X.env)).all (fun x => !x.1) && (backToKw p3 (keywordEach [] X.env)).all (fun x => x.1.isSome)
      && decide ([e].length + ([] : List Keyword).length + (if ([] : List Keyword).isEmpty then 0 else 1) < 30)) = true := by rfl)
    (hline : (p2.endLine == p3.line) = true := by rfl) (hs : starEach [e] X.env = (false, eval e X.env) :: starEach [] X.env := by rfl) (hplain : (backTo p3 (starEach [] X.env)).any (·.1) = false := by rfl)
    (hsw : swapsWith (.Call (.Attribute (.Name n p1) "extend" p2) [e] [] p3) none pos.line X.env = pure false := by rfl) :
    Run X W Γ μ (.Expr (.Call (.Attribute (.Name n p1) "extend" p2) [e] [] p3) pos :: rest) D := fun σ H R => by
  refine wSs_cons ((ps_expr (pe_bm PySem.F.plainAttrs_list PySem.F.slot_list_extend PySem.F.type_list_extend mt_extend (pe_var hN hv h1 h2) (pa_cons wE.pe pa_nil hs) hbase hfew hline hs hplain) hsw).w ?_)
  obtain ⟨o, e1, e2⟩ := R.sl.at_ i _ hi
  have e2' : o = some (.ref l) := e2
  subst e2'
  have hmem : (l, MO.lst ys) ∈ μ := List.mem_of_getElem? hj
  obtain ⟨xs, hx, _⟩ := (R.mu _ hmem).2
  refine ⟨_, e1, .inl ⟨rfl, _, SqL.of hx⟩, ?_⟩
  refine he σ H R _ fun v d H2 R2 e2 r ⟨zs, ed, p⟩ => ?_
  subst ed
  cases r with
  | lst ha hv =>
    obtain ⟨xs2, hx2, hv2⟩ := (R2.mu _ hmem).2
    refine ⟨l, _, xs2, _, rfl, rfl, hx2, (off_some ha).2, by rw [hv2.length, hv.length]; exact hl zs p, ?_⟩
    exact h zs p _ _ (R2.chg hj ⟨_, upd_same, hv2.app hv⟩)
theorem run_ext (i j : Nat) {l : Addr} {ys zs : List PyData} (he : Ed X W Γ μ e (.list zs)) (hl : ys.length + zs.length ≤ 16777216) (h : Run X W Γ (μ.set j (l, .lst (ys ++ zs))) rest D)
    (hi : Γ[i]? = some (.r l) := by rfl) (hj : μ[j]? = some (l, .lst ys) := by rfl) (hN : X.N[i]? = some n := by rfl) (hv : Vis X.env.scope n := by first | exact Or.inl rfl | exact Or.inr (Or.inl rfl) | exact Or.inr (Or.inr rfl))
    (h1 : (n == ("__debug__" : Str)) = false := by decide) (h2 : (n == ("__classdict__" : Str)) = false := by decide)
    (hbase : attributeBase (.Name n p1) "extend" X.env (eval (.Name n p1) X.env) = eval (.Name n p1) X.env := by rfl)
    (hfew : ((backTo p3 (starEach [e] X.env)).all (fun x => !x.1) && (backToKw p3 (keywordEach [] X.env)).all (fun x => x.1.isSome)
      && decide ([e].length + ([] : List Keyword).length + (if ([] : List Keyword).isEmpty then 0 else 1) < 30)) = true := by rfl)
    (hline : (p2.endLine == p3.line) = true := by rfl) (hs : starEach [e] X.env = (false, eval e X.env) :: starEach [] X.env := by rfl) (hplain : (backTo p3 (starEach [] X.env)).any (·.1) = false := by rfl)
    (hsw : swapsWith (.Call (.Attribute (.Name n p1) "extend" p2) [e] [] p3) none pos.line X.env = pure false := by rfl) :
    Run X W Γ μ (.Expr (.Call (.Attribute (.Name n p1) "extend" p2) [e] [] p3) pos :: rest) D :=
  run_extP (P := fun w => w = zs) i j (he.evP ⟨zs, rfl, rfl⟩) (fun _ e => e ▸ hl) (fun _ e => e ▸ h) hi hj hN hv h1 h2 hbase hfew hline hs hplain hsw
/-- for n1, n2 in iter -/
theorem run_for2 {xs : List α} {iter : Expr} {e1 e2 : α → PyData} {kk : Nat} {tpos : Pos} (k1 k2 : Nat) (hi : IterD X W Γ μ (.Tuple [.Name n1 p1, .Name n2 p2] kk tpos) iter (fun x => pr2 (e1 x) (e2 x)) xs) (J : Nat → List DV → Mu → Prop) (h0 : J 0 Γ μ)
    (hs : ∀ W1, Wle W W1 → ∀ i x Γ' μ', xs[i]? = some x → J i Γ' μ' → Run X W1 ((Γ'.set k1 (.d (e1 x))).set k2 (.d (e2 x))) μ' body { D with nx := StP X.K W1 (J (i + 1)), ct := StP X.K W1 (J (i + 1)), bk := wSs X rest D })
    (hd' : ∀ Γ' μ', J xs.length Γ' μ' → Run X W Γ' μ' rest D) (hN : X.N.Nodup) (hn1 : X.N[k1]? = some n1 := by rfl) (hn2 : X.N[k2]? = some n2 := by rfl) (hx1 : Loc X.env.scope n1 := by first | exact Or.inl rfl | exact Or.inr rfl) (hx2 : Loc X.env.scope n2 := by first | exact Or.inl rfl | exact Or.inr rfl)
    (hf1 : X.fn n1 = true ∨ X.env.scope.names.lookup n1 = some .local := by first | exact .inr rfl | exact .inl rfl) (hf2 : X.fn n2 = true ∨ X.env.scope.names.lookup n2 = some .local := by first | exact .inr rfl | exact .inl rfl)
    (hp : PassesOwn (model X.prog X.w) X.A X.env X.xe := by exact PassesOwn.never) (hc : X.calm = true := by rfl) (hf : ∀ x, foldedSetIterable iter X.env x = pure x := by intro _; rfl) :
    Run X W Γ μ (.For (.Tuple [.Name n1 p1, .Name n2 p2] kk tpos) iter body [] pos :: rest) D :=
  run_forG hi (tg_pair (tg_name (K := X.K) k1) (tg_name k2)) (pg_tup hc (pgs_cons (pg_name hN hn1 hx1 hf1) (pgs_cons (pg_name hN hn2 hx2 hf2) pgs_nil))) (fun _ _ x _ => ⟨e1 x, e2 x, rfl, trivial, trivial⟩) (fun _ => J) (fun _ _ => h0) (fun _ e W1 l i x Γ' μ' h j => hs W1 l i x Γ' μ' (e ▸ h) j) (fun _ e Γ' μ' j => hd' Γ' μ' (e ▸ j)) hp hc hf
/-- n1, n2 = a, b : two plain names -/
theorem run_parP {As : List PyData → Prop} (i j : Nat) {kt k2 : Nat} {pt pt2 : Pos} (ha : EvA X W Γ μ [a, b] As) (h : ∀ ds, As ds → ∃ x y, ds = [x, y] ∧ Run X W ((Γ.set i (.d x)).set j (.d y)) μ rest D) (hN : X.N.Nodup) (hij : i ≠ j := by decide) (hi : X.N[i]? = some n1 := by rfl) (hj : X.N[j]? = some n2 := by rfl)
    (hx : X.env.scope.names.lookup n1 = some .local := by rfl) (hy : X.env.scope.names.lookup n2 = some .local := by rfl) (hc : X.calm = true := by rfl)
    (hw : swappedStores [.Tuple [.Name n1 p1, .Name n2 p2] kt pt] (.Tuple [a, b] k2 pt2) X.env = pure (some [n1, n2]) := by rfl)
    (hs : swapsWithSole [.Tuple [.Name n1 p1, .Name n2 p2] kt pt] (.Tuple [a, b] k2 pt2) pos.line X.env = pure false := by rfl) :
    Run X W Γ μ (.Assign [.Tuple [.Name n1 p1, .Name n2 p2] kt pt] (.Tuple [a, b] k2 pt2) pos :: rest) D := fun σ H R =>
  wSs_cons ((ps_par hc hN hi hj hij hx hy wA.pa hw hs).w (ha σ H R _ fun vs ds H2 R2 e2 r pa => by
    obtain ⟨x, y, rfl, hr⟩ := h ds pa
    cases r with
    | cons r1 r =>
      cases r with
      | cons r2 r =>
        cases r
        exact ⟨_, _, rfl, hr _ _ ⟨R2.wd, R2.fr, (R2.sl.set i r1).set j r2, R2.mu, R2.nd⟩⟩))
theorem run_par (i j : Nat) {kt k2 : Nat} {pt pt2 : Pos} (ha : EdA X W Γ μ [a, b] [x, y]) (h : Run X W ((Γ.set i (.d x)).set j (.d y)) μ rest D) (hN : X.N.Nodup) (hij : i ≠ j := by decide) (hi : X.N[i]? = some n1 := by rfl) (hj : X.N[j]? = some n2 := by rfl)
    (hx : X.env.scope.names.lookup n1 = some .local := by rfl) (hy : X.env.scope.names.lookup n2 = some .local := by rfl) (hc : X.calm = true := by rfl)
    (hw : swappedStores [.Tuple [.Name n1 p1, .Name n2 p2] kt pt] (.Tuple [a, b] k2 pt2) X.env = pure (some [n1, n2]) := by rfl)
    (hs : swapsWithSole [.Tuple [.Name n1 p1, .Name n2 p2] kt pt] (.Tuple [a, b] k2 pt2) pos.line X.env = pure false := by rfl) :
    Run X W Γ μ (.Assign [.Tuple [.Name n1 p1, .Name n2 p2] kt pt] (.Tuple [a, b] k2 pt2) pos :: rest) D :=
  run_parP (As := fun l => l = [x, y]) i j (ha.ev rfl) (fun ds e => ⟨x, y, e, h⟩) hN hij hi hj hx hy hc hw hs
/-- n1, n2 = e : a pair of data (also where a name is a cell) -/
theorem run_asg2P {P : PyData → Prop} (i j : Nat) {kt : Nat} {pt : Pos} (he : Ev X W Γ μ e P) (h : ∀ d, P d → ∃ x y, d = .tuple [x, y] ∧ Run X W ((Γ.set i (.d x)).set j (.d y)) μ rest D) (hN : X.N.Nodup) (hi : X.N[i]? = some n1 := by rfl) (hj : X.N[j]? = some n2 := by rfl)
    (hx1 : Loc X.env.scope n1 := by first | exact Or.inl rfl | exact Or.inr rfl) (hx2 : Loc X.env.scope n2 := by first | exact Or.inl rfl | exact Or.inr rfl)
    (hf1 : X.fn n1 = true ∨ X.env.scope.names.lookup n1 = some .local := by first | exact .inr rfl | exact .inl rfl) (hf2 : X.fn n2 = true ∨ X.env.scope.names.lookup n2 = some .local := by first | exact .inr rfl | exact .inl rfl) (hc : X.calm = true := by rfl)
    (hs : swapsWithSole [.Tuple [.Name n1 p1, .Name n2 p2] kt pt] e pos.line X.env = pure false := by rfl) (hw : swappedStores [.Tuple [.Name n1 p1, .Name n2 p2] kt pt] e X.env = pure none := by rfl)
    (h1 : (assignEach [.Tuple [.Name n1 p1, .Name n2 p2] kt pt] X.env).map (·.2) = [assign (.Tuple [.Name n1 p1, .Name n2 p2] kt pt) X.env] := by rfl) :
    Run X W Γ μ (.Assign [.Tuple [.Name n1 p1, .Name n2 p2] kt pt] e pos :: rest) D := fun σ H R =>
  wSs_cons ((ps_asg wE.pe (pg_tup hc (pgs_cons (pg_name hN hi hx1 hf1) (pgs_cons (pg_name hN hj hx2 hf2) pgs_nil))) hs hw h1).w (he σ H R _ fun v d H2 R2 e2 r pd => by
    obtain ⟨x, y, rfl, hr⟩ := h d pd
    refine (tg_pair (tg_name (K := X.K) i) (tg_name j)).run _ v _ σ H2 Γ _ r ⟨x, y, rfl, trivial, trivial⟩ R2.sl fun σ3 s3 _ _ => ?_
    exact hr _ _ ⟨R2.wd, R2.fr, s3, R2.mu, R2.nd⟩))
theorem run_asg2 (i j : Nat) {kt : Nat} {pt : Pos} (he : Ed X W Γ μ e (.tuple [x, y])) (h : Run X W ((Γ.set i (.d x)).set j (.d y)) μ rest D) (hN : X.N.Nodup) (hi : X.N[i]? = some n1 := by rfl) (hj : X.N[j]? = some n2 := by rfl)
    (hx1 : Loc X.env.scope n1 := by first | exact Or.inl rfl | exact Or.inr rfl) (hx2 : Loc X.env.scope n2 := by first | exact Or.inl rfl | exact Or.inr rfl)
    (hf1 : X.fn n1 = true ∨ X.env.scope.names.lookup n1 = some .local := by first | exact .inr rfl | exact .inl rfl) (hf2 : X.fn n2 = true ∨ X.env.scope.names.lookup n2 = some .local := by first | exact .inr rfl | exact .inl rfl) (hc : X.calm = true := by rfl)
    (hs : swapsWithSole [.Tuple [.Name n1 p1, .Name n2 p2] kt pt] e pos.line X.env = pure false := by rfl) (hw : swappedStores [.Tuple [.Name n1 p1, .Name n2 p2] kt pt] e X.env = pure none := by rfl)
    (h1 : (assignEach [.Tuple [.Name n1 p1, .Name n2 p2] kt pt] X.env).map (·.2) = [assign (.Tuple [.Name n1 p1, .Name n2 p2] kt pt) X.env] := by rfl) :
    Run X W Γ μ (.Assign [.Tuple [.Name n1 p1, .Name n2 p2] kt pt] e pos :: rest) D :=
  run_asg2P (P := fun z => z = .tuple [x, y]) i j he.ev (fun _ e => ⟨x, y, e, h⟩) hN hi hj hx1 hx2 hf1 hf2 hc hs hw h1
/-- while c: the state J m with the measure m; c tells b m -/
theorem run_while {c : Expr} (J : Nat → List DV → Mu → Prop) (B : Nat → Bool) (m0 : Nat) (h0 : J m0 Γ μ) (hc : ∀ W1, Wle W W1 → ∀ m Γ' μ', J m Γ' μ' → EdT X W1 Γ' μ' c (B m))
    (hs : ∀ W1, Wle W W1 → ∀ m Γ' μ', B m = true → J m Γ' μ' → Run X W1 Γ' μ' body { D with nx := StP X.K W1 (fun Γ2 μ2 => ∃ m', m' < m ∧ J m' Γ2 μ2), ct := StP X.K W1 (fun Γ2 μ2 => ∃ m', m' < m ∧ J m' Γ2 μ2), bk := wSs X rest D })
    (hd' : ∀ m Γ' μ', B m = false → J m Γ' μ' → Run X W Γ' μ' rest D) (hp : PassesOwn (model X.prog X.w) X.A X.env X.xe := by exact PassesOwn.never) :
    Run X W Γ μ (.While c body [] pos :: rest) D := fun σ H R => by
  refine wSs_cons ((ps_while hp wT.pt wSs.ps).w ⟨fun m => StP X.K (W.now μ H) (J m), ⟨m0, Γ, μ, h0, R.now⟩, ?_⟩)
  have le1 : Wle W (W.now μ H) := R.now_le
  rintro m σ' H' ⟨Γ', μ', j, R'⟩
  refine hc _ le1 m Γ' μ' j σ' H' R' _ fun H2 R2 _ => ?_
  cases hb : B m with
  | true =>
    refine iteT ⟨StP X.K (W.now μ H) (fun Γ2 μ2 => ∃ m', m' < m ∧ J m' Γ2 μ2), fun σ2 H3 ⟨Γ2, μ2, ⟨m', hm, j'⟩, R3⟩ => ⟨m', hm, Γ2, μ2, j', R3⟩, ?_⟩
    exact hs _ le1 m Γ' μ' hb j σ' H2 R2
  | false => exact iteF (hd' m Γ' μ' hb j σ' H2 (R2.wdown le1 R.wd))
end
end HW
set_option maxHeartbeats 4000000
namespace HW
open PySem PySem.Spec PyProof.Rows L2
open SX (S)
/-! ### views -/
def R_view_by (ds : List PyData) (d : PyData) : Prop := ∃ (l m : List Nat) (p : Nat), ds = [sD l, sD m, nn p] ∧ l.length ≤ 4000 ∧ m.length ≤ 4000 ∧ p + m.length ≤ l.length ∧ d = sD (viewL l m p)
def R_views_of (ds : List PyData) (d : PyData) : Prop := ∃ l m : List Nat, ds = [sD l, sD m] ∧ l.length ≤ 4000 ∧ 1 ≤ m.length ∧ m.length ≤ 4000 ∧ d = wD (viewsL l m)
def R_views (ds : List PyData) (d : PyData) : Prop := ∃ l m : List Nat, ds = [sD l, sD m] ∧ rowB l = true ∧ maskB m = true ∧ d = wD (viewsL l m)
def R_tells_by (ds : List PyData) (d : PyData) : Prop := ∃ l m : List Nat, ds = [sD l, sD m] ∧ l.length ≤ 4000 ∧ 1 ≤ m.length ∧ m.length ≤ 4000 ∧ d = .bool (tellsB l m)
def R_tells (ds : List PyData) (d : PyData) : Prop := ∃ l m : List Nat, ds = [sD l, sD m] ∧ rowB l = true ∧ maskB m = true ∧ d = .bool (tellsB l m)
def R_is_from (ds : List PyData) (d : PyData) : Prop := ∃ v a b : Int, ds = [.int v, .int a, .int b] ∧ d = .bool (decide (a ≤ v) && decide (v ≤ b))
def R_need_letters (ds : List PyData) (d : PyData) : Prop := ∃ n : Nat, ds = [nn n] ∧ 1 ≤ n ∧ n ≤ 4 ∧ d = .none
def R_need_row_in (ds : List PyData) (d : PyData) : Prop := ∃ (l : List Nat) (n : Nat), ds = [sD l, nn n] ∧ 1 ≤ n ∧ n ≤ 4 ∧ rowB l = true ∧ lowL n l ∧ d = .none
def chgL (l : List Nat) (i c : Nat) : List Nat := l.take i ++ [c] ++ l.drop (i + 1)
theorem chgL_len (l : List Nat) (i c : Nat) (h : i < l.length) : (chgL l i c).length = l.length := by simp [chgL]; omega
def weakAt (l m : List Nat) (n i : Nat) : List PyData := (((letL n).filter fun c => decide (c ≠ l.getD i 0)).filter fun c => tellsB (chgL l i c) m).map fun c => pr2 (nn i) (sg c)
def weakL (l m : List Nat) (n : Nat) : List PyData := (List.range l.length).flatMap (weakAt l m n)
def R_weak (ds : List PyData) (d : PyData) : Prop := ∃ (l m : List Nat) (n : Nat), ds = [sD l, sD m, nn n] ∧ 1 ≤ n ∧ n ≤ 4 ∧ rowB l = true ∧ lowL n l ∧ maskB m = true ∧ d = .list (weakL l m n)
theorem weakAt_len (l m : List Nat) {n : Nat} (hn : n ≤ 4) (i : Nat) : (weakAt l m n i).length ≤ 4 := by
  unfold weakAt
  rw [List.length_map]
  refine Nat.le_trans (List.length_filter_le ..) (Nat.le_trans (List.length_filter_le ..) ?_)
  rw [letL_len hn]
  exact hn
/-! ### draws in use -/
section
variable {X : Cx} {W : Wd} {Γ : List DV} {μ : Mu} {a b e i : Expr} {pos p p2 : Pos} {n : Str} {r scr : Addr} {ns : List Int} {k : Nat}
end
end HW
set_option maxHeartbeats 4000000
namespace HW
open PySem PySem.Spec PyProof.Rows L2
open SX (S)
section
variable {X : Cx} {w : List Nat} {ws : List (List Nat)} {ds : List PyData}
theorem inV_S (w : List Nat) : ∀ ws : List (List Nat), inV (.str (S w)) ((ws.map S).map V.str) = decide (w ∈ ws)
  | [] => rfl
  | v :: ws => by
    have ih := inV_S w ws
    unfold inV at ih ⊢
    rw [List.map_cons, List.map_cons, List.any_cons, ih]
    have e : eqV (V.str (S v)) (V.str (S w)) = decide (w = v) := by
      show (S v == S w) = _
      rw [SX.S_beq_eq]
      exact decide_eq_decide.mpr ⟨Eq.symm, Eq.symm⟩
    rw [e]
    by_cases h : w = v
    · subst h; simp
    · simp [h]
theorem flat_S : ∀ ws : List (List Nat), ((ws.map S).map V.str).all flatV = true
  | [] => rfl
  | v :: ws => by rw [List.map_cons, List.map_cons, List.all_cons, flat_S ws]; rfl
theorem c_inLS : OpD X (compareOp .In) (sD w) (wD ws) (.bool (decide (w ∈ ws))) := OpR.to op_in_seq fun a b H Q ⟨L, _, ha, hb, k⟩ => by
  cases ha
  cases hb with
  | lst hl hv =>
    have ev := vaAll_S hv
    subst ev
    refine ⟨_, _, rfl, .inl (SqL.of (off_some hl).2), rfl, flat_S ws, ?_⟩
    show Q (.bl (inV _ _)) H
    rw [inV_S]
    exact k _ _ (Same.refl _) (.bl _)
theorem c_ninTS : OpD X (compareOp .NotIn) (sD w) (.tuple (ws.map sD)) (.bool (!decide (w ∈ ws))) := OpR.to op_notIn_seq fun a b H Q ⟨L, _, ha, hb, k⟩ => by
  cases ha
  cases hb with
  | tup hl hv =>
    have ev := vaAll_S hv
    subst ev
    refine ⟨_, _, rfl, .inr (SqT.up same_off hl), rfl, flat_S ws, ?_⟩
    show Q (.bl (!inV _ _)) H
    rw [inV_S]
    exact k _ _ (Same.refl _) (.bl _)
/-- tuple(list), list(list), list(tuple) -/
theorem c_tupL : CallD X (.type "tuple") [.list ds] (.tuple ds) := CallR.to call_tuple_of fun vs H Q ⟨L, hL, hv, k⟩ => by
  cases hv with
  | cons h1 h2 =>
    cases h2
    cases h1 with
    | lst ha hs => exact ⟨_, _, rfl, .inl ⟨SqL.of (off_some ha).2, fun l hl => k _ _ (same_new hl) (.tup (.inl (.inl (off_upd (new_out hL hl)))) (hs.up (XT.same (same_new hl))))⟩⟩
theorem c_listL : CallD X (.type "list") [.list ds] (.list ds) := CallR.to call_list_of fun vs H Q ⟨L, hL, hv, k⟩ => by
  cases hv with
  | cons h1 h2 =>
    cases h2
    cases h1 with
    | lst ha hs => exact ⟨_, _, rfl, .inl (SqL.of (off_some ha).2), fun l hl => k _ _ (same_new hl) (.lst (off_upd (new_out hL hl)) (hs.up (XT.same (same_new hl))))⟩
/-- xs == [], xs != [] -/
theorem eqv_nil (ds : List PyData) : PyData.eqv (.list ds) (.list []) = ds.isEmpty := by cases ds <;> rfl
theorem c_eqNil {n : Nat} (hu : X.A.units + 64 < cLine) (h : Shp n (.list ds)) (hn : n ≤ 64 := by decide) : OpD X (compareOp .Eq) (.list ds) (.list []) (.bool ds.isEmpty) := by
  have z := c_eqD (X := X) (y := .list []) hu (h.ok hn) rfl
  rw [eqv_nil] at z
  exact z
theorem c_neNil {n : Nat} (hu : X.A.units + 64 < cLine) (h : Shp n (.list ds)) (hn : n ≤ 64 := by decide) : OpD X (compareOp .NotEq) (.list ds) (.list []) (.bool (!ds.isEmpty)) := by
  have z := c_neD (X := X) (y := .list []) hu (h.ok hn) rfl
  rw [eqv_nil] at z
  exact z
end
end HW
set_option maxHeartbeats 4000000
namespace HW
open PySem PySem.Spec PyProof.Rows L2
open SX (S)
section
variable {X : Cx} {W W0 : Wd} {Γ : List DV} {μ : Mu} {b : Expr} {rest : List Stmt} {D : Ends} {x y : PyData} {pos p p1 p2 pl : Pos} {n1 n2 : Str}
/-- n1, n2 = [], b : n1 a local list -/
theorem run_parL0 (i j : Nat) {kt k2 : Nat} {pt pt2 : Pos} (hb : ∀ l, Ed X W Γ ((l, .lst []) :: μ) b y) (h : ∀ l, Run X W ((Γ.set i (.r l)).set j (.d y)) ((l, .lst []) :: μ) rest D) (hN : X.N.Nodup) (hij : i ≠ j := by decide) (hi : X.N[i]? = some n1 := by rfl) (hj : X.N[j]? = some n2 := by rfl)
    (hx : X.env.scope.names.lookup n1 = some .local := by rfl) (hy : X.env.scope.names.lookup n2 = some .local := by rfl) (hc : X.calm = true := by rfl)
    (hw : swappedStores [.Tuple [.Name n1 p1, .Name n2 p2] kt pt] (.Tuple [.List [] pl, b] k2 pt2) X.env = pure (some [n1, n2]) := by rfl)
    (hs : swapsWithSole [.Tuple [.Name n1 p1, .Name n2 p2] kt pt] (.Tuple [.List [] pl, b] k2 pt2) pos.line X.env = pure false := by rfl)
    (hs1 : starEach [.List [] pl, b] X.env = (false, eval (.List [] pl) X.env) :: starEach [b] X.env := by rfl) (hs2 : starEach [b] X.env = (false, eval b X.env) :: starEach [] X.env := by rfl) :
    Run X W Γ μ (.Assign [.Tuple [.Name n1 p1, .Name n2 p2] kt pt] (.Tuple [.List [] pl, b] k2 pt2) pos :: rest) D := fun σ H R =>
  wSs_cons ((ps_par hc hN hi hj hij hx hy (pa_cons (pe_lst pa_nil) (pa_cons wE.pe pa_nil hs2) hs1) hw hs).w ⟨Nat.zero_le _, fun l hl => by
    have R1 := R.born (m := .lst []) (o := .lst []) hl ⟨[], upd_same, .nil⟩
    exact hb l σ _ R1 _ fun v H2 R2 x2 r2 => ⟨_, _, rfl, h l _ _ ⟨R2.wd, R2.fr, (R2.sl.setr i).set j r2, R2.mu, R2.nd⟩⟩⟩)
/-- n1, n2 = a, [] : n2 a local list -/
theorem run_parL1 {a : Expr} (i j : Nat) {kt k2 : Nat} {pt pt2 : Pos} (ha : Ed X W Γ μ a x) (h : ∀ l, Run X W ((Γ.set i (.d x)).set j (.r l)) ((l, .lst []) :: μ) rest D) (hN : X.N.Nodup) (hij : i ≠ j := by decide) (hi : X.N[i]? = some n1 := by rfl) (hj : X.N[j]? = some n2 := by rfl)
    (hx : X.env.scope.names.lookup n1 = some .local := by rfl) (hy : X.env.scope.names.lookup n2 = some .local := by rfl) (hc : X.calm = true := by rfl)
    (hw : swappedStores [.Tuple [.Name n1 p1, .Name n2 p2] kt pt] (.Tuple [a, .List [] pl] k2 pt2) X.env = pure (some [n1, n2]) := by rfl)
    (hs : swapsWithSole [.Tuple [.Name n1 p1, .Name n2 p2] kt pt] (.Tuple [a, .List [] pl] k2 pt2) pos.line X.env = pure false := by rfl)
    (hs1 : starEach [a, .List [] pl] X.env = (false, eval a X.env) :: starEach [.List [] pl] X.env := by rfl) (hs2 : starEach [.List [] pl] X.env = (false, eval (.List [] pl) X.env) :: starEach [] X.env := by rfl) :
    Run X W Γ μ (.Assign [.Tuple [.Name n1 p1, .Name n2 p2] kt pt] (.Tuple [a, .List [] pl] k2 pt2) pos :: rest) D := fun σ H R =>
  wSs_cons ((ps_par hc hN hi hj hij hx hy (pa_cons wE.pe (pa_cons (pe_lst pa_nil) pa_nil hs2) hs1) hw hs).w (ha σ H R _ fun v H2 R2 x2 r2 => ⟨Nat.zero_le _, fun l hl => by
    have sm := same_new (o := .lst []) hl
    have R3 : Rep X.K W (Γ.set i (.d x)) μ (σ.set i (some v)) H2 := ⟨R2.wd, R2.fr, R2.sl.set i r2, R2.mu, R2.nd⟩
    have R1 := R3.born (m := .lst []) (o := .lst []) hl ⟨[], upd_same, .nil⟩
    exact ⟨_, _, rfl, h l _ _ ⟨R1.wd, R1.fr, R1.sl.setr j, R1.mu, R1.nd⟩⟩⟩))
end
/-! ### the rows that are told, letter by letter -/
/-! counting -/
theorem lev_nil {m : List Nat} {n k : Nat} (h : lev m n k = []) : ∀ j, k ≤ j → lev m n j = []
  | 0, hj => by have : k = 0 := by omega
                subst this; exact h
  | j + 1, hj => by
    by_cases e : k = j + 1
    · subst e; exact h
    · show nextL m n (lev m n j) = []
      rw [lev_nil h j (by omega)]
      rfl
/-- where the levels end -/
theorem exists_top (m : List Nat) (n T : Nat) (hT : lev m n T = []) : ∃ K, K ≤ T ∧ lev m n K = [] ∧ ∀ j, j < K → lev m n j ≠ [] := by
  induction T with
  | zero => exact ⟨0, Nat.le_refl _, hT, fun j hj => by omega⟩
  | succ T ih =>
    by_cases e : lev m n T = []
    · obtain ⟨K, h1, h2, h3⟩ := ih e
      exact ⟨K, by omega, h2, h3⟩
    · refine ⟨T + 1, Nat.le_refl _, hT, fun j hj q => ?_⟩
      exact e (lev_nil q T (by omega))
theorem Small.ends {m : List Nat} {n : Nat} (h : Small m n) : lev m n (16 + m.length) = [] := by
  by_cases e : lev m n (16 + m.length) = []
  · exact e
  · have := h.top e
    omega
/-- the least k without a row -/
noncomputable def topK (m : List Nat) (n : Nat) : Nat := open Classical in if h : ∃ K, lev m n K = [] ∧ ∀ j, j < K → lev m n j ≠ [] then h.choose else 0
theorem Small.topK {m : List Nat} {n : Nat} (h : Small m n) : lev m n (topK m n) = [] ∧ ∀ j, j < HW.topK m n → lev m n j ≠ [] := by
  have ex : ∃ K, lev m n K = [] ∧ ∀ j, j < K → lev m n j ≠ [] := by
    obtain ⟨K, _, h2⟩ := exists_top m n _ h.ends
    exact ⟨K, h2⟩
  unfold HW.topK
  rw [dif_pos ex]
  exact ex.choose_spec
theorem topK_eq {m : List Nat} {n K : Nat} (hs : Small m n) (h1 : lev m n K = []) (h2 : ∀ j, j < K → lev m n j ≠ []) : K = topK m n := by
  obtain ⟨g1, g2⟩ := hs.topK
  rcases Nat.lt_trichotomy K (topK m n) with h | h | h
  · exact absurd h1 (g2 K h)
  · exact h
  · exact absurd g1 (h2 _ h)
theorem Small.topK_pos {m : List Nat} {n : Nat} (h : Small m n) : 1 ≤ HW.topK m n := by
  obtain ⟨g1, g2⟩ := h.topK
  rcases Nat.eq_zero_or_pos (HW.topK m n) with e | e
  · rw [e] at g1
    simp [lev] at g1
  · exact e
/-! as data -/
abbrev rowT (m r : List Nat) : PyData := pr2 (sD r) (.tuple ((viewsL r m).map sD))
abbrev rowsT (m : List Nat) (rs : List (List Nat)) : PyData := .list (rs.map (rowT m))
def R_need_small (ds : List PyData) (d : PyData) : Prop := ∃ (m : List Nat) (n : Nat), ds = [sD m, nn n] ∧ Small m n ∧ d = .none
def R_longer (ds : List PyData) (d : PyData) : Prop := ∃ (rs : List (List Nat)) (m : List Nat) (n : Nat), ds = [rowsT m rs, sD m, nn n] ∧ 1 ≤ n ∧ n ≤ 4 ∧ maskB m = true ∧ (∀ r ∈ rs, r.length ≤ 3000) ∧ rs.length ≤ 16777216 ∧ (nextL m n rs).length < 16777216 ∧ d = rowsT m (nextL m n rs)
noncomputable def levelsD (m : List Nat) (n : Nat) : PyData := .list ((List.range (topK m n)).map fun j => wD (lev m n j))
def R_levels_of (ds : List PyData) (d : PyData) : Prop := ∃ (m : List Nat) (n : Nat), ds = [sD m, nn n] ∧ Small m n ∧ d = levelsD m n
def R_longest (ds : List PyData) (d : PyData) : Prop := ∃ (m : List Nat) (n : Nat), ds = [sD m, nn n] ∧ Small m n ∧ d = .int ((topK m n : Nat) - 1 : Int)
theorem low_128 {n : Nat} {l : List Nat} (hn : n ≤ 4) (h : lowL n l) : ∀ c ∈ l, c < 128 := fun c hc => by
  have := h c hc
  omega
theorem shp_rowT {n : Nat} (hn : n ≤ 4) {m r : List Nat} (h : lowL n r) : Shp 2 (rowT m r) := Shp.tup fun x hx => by
  rcases List.mem_cons.mp hx with e | hx
  · rw [e]; exact (Shp.str (low_128 hn h)).up (by decide)
  · rw [List.mem_singleton.mp hx]
    refine Shp.tup fun y hy => ?_
    obtain ⟨v, hv, rfl⟩ := List.mem_map.mp hy
    unfold viewsL at hv
    obtain ⟨p, hp, rfl⟩ := List.mem_map.mp hv
    have := List.mem_range.mp hp
    by_cases hm : 1 ≤ m.length
    · exact Shp.str (low_128 hn (viewL_low h (by omega)))
    · have em : m = [] := List.length_eq_zero_iff.mp (by omega)
      subst em
      exact Shp.str (l := viewL r [] p) (fun c hc => by
        have e : viewL r [] p = [] := rfl
        rw [e] at hc
        cases hc)
theorem shp_lev {m : List Nat} {n : Nat} (hm : 1 ≤ m.length) (hn : n ≤ 4) (k : Nat) : Shp 3 (rowsT m (lev m n k)) := Shp.list fun x hx => by
  obtain ⟨r, hr, rfl⟩ := List.mem_map.mp hx
  exact shp_rowT hn ((mem_lev hm hn).mp hr).2.1
end HW
set_option maxHeartbeats 4000000
namespace HW
open PySem PySem.Spec PyProof.Rows L2
open SX (S)
section
variable {X : Cx} {W : Wd} {Γ : List DV} {μ : Mu} {n : Str} {pos : Pos} {ns : List Int}
theorem va_ints {K : PySem.W.Frag} {H : Hp} : ∀ ns : List Int, VaAll K H (ns.map V.int) (ns.map PyData.int)
  | [] => .nil
  | n :: ns => .cons (.int n) (va_ints ns)
/-- a constant tuple of ints -/
theorem ed_gtup (hm : HX.gTup X.K X.mg n ns) (hg : Gl X n := by rfl) (h1 : (n == ("__debug__" : Str)) = false := by decide) : Ed X W Γ μ (.Name n pos) (.tuple (ns.map PyData.int)) := by
  obtain ⟨a, hm, hs⟩ := hm
  exact ed_c (pe_glob hg hm (v := .ref a) rfl h1) fun H => .tup (hs H) (va_ints ns)
end
abbrev gWID (K : PySem.W.Frag) (mg : Str → Option Value) : Prop := HX.gTup K mg "MOST_WIDTHS" [12, 8, 5, 4]
abbrev gSEE (K : PySem.W.Frag) (mg : Str → Option Value) : Prop := HX.gTup K mg "MOST_SEEN" [12, 4, 2, 1]
end HW
set_option maxHeartbeats 4000000
namespace HW
open PySem PySem.Spec PyProof.Rows L2
open SX (S)
/-! ### comprehensions with two for -/
theorem wI.pi {X : Cx} {tg iter : Expr} : PI X tg iter (wI X tg iter) := ⟨fun pins s _ _ _ I h => h pins s I⟩
def wIb (X : Cx) (scope : Scope) (tg iter : Expr) : TI := fun σ H R => ∀ s H0 C cl fp, wI (blkOf X scope s H0 C cl fp) tg iter σ H R
theorem wIb.pi {X : Cx} {scope : Scope} {tg iter : Expr} (s : Shared) (H : Hp) (C : Addr) (cl : List (Str × Addr)) (fp : List Addr) : PI (blkOf X scope s H C cl fp) tg iter (wIb X scope tg iter) := ⟨fun pins st _ _ _ I h => h s H C cl fp pins st I⟩
section
variable {X : Cx} {W : Wd} {Γ : List DV} {μ : Mu} {α β : Type} {tg iter tg1 iter1 elt : Expr} {scope : Scope} {enc : α → PyData} {enc1 : β → PyData} {xs : List α} {ys : α → List β} {f : α → β → PyData} {k1 k2 : Nat}
theorem flat_take_succ {γ : Type} {g : α → List γ} {i : Nat} {x : α} (h : xs[i]? = some x) : (xs.take (i + 1)).flatMap g = (xs.take i).flatMap g ++ g x := by
  rw [List.take_add_one, h, List.flatMap_append]
  simp
theorem flat_take_le {γ : Type} {g : α → List γ} (i : Nat) : ((xs.take i).flatMap g).length ≤ (xs.flatMap g).length := by
  have e : xs.flatMap g = (xs.take i).flatMap g ++ (xs.drop i).flatMap g := by rw [← List.flatMap_append, List.take_append_drop]
  rw [e, List.length_append]
  omega
theorem yes_ (σ : L2.St) (H : Hp) (Q : Bool → Hp → Prop) (q : Q true H) : tYes σ H Q := q
theorem lc2_read {wi : TI} (hk : k1 ≠ k2)
    (hi : ∀ σ H, Rep X.K W Γ μ σ H → ∀ R : It → Hp → Prop, (∀ J H1, Rep X.K W Γ μ σ H1 → XT (hd W μ) H H1 → WalkD X.K (off (hd W μ) H1) J (xs.map enc) → R J H1) → wi σ H R)
    (hi1 : ∀ x ∈ xs, ∀ W1, Wle W W1 → ∀ s H C cl fp, IterD (blkOf X scope s H C cl fp) W1 ((wipeD [k1, k2] Γ).set k1 (.d (enc x))) μ tg1 iter1 enc1 (ys x)) (hz : (xs.flatMap fun x => (ys x).map (f x)).length ≤ 16777216)
    (he : ∀ x ∈ xs, ∀ y ∈ ys x, ∀ W1, Wle W W1 → ∀ s H C cl fp, Ed (blkOf X scope s H C cl fp) W1 ((wipeD [k2] ((wipeD [k1, k2] Γ).set k1 (.d (enc x)))).set k2 (.d (enc1 y))) μ elt (f x y))
    {σ : L2.St} {H : Hp} (R : Rep X.K W Γ μ σ H) {Q : VK} (q : ∀ v H2, Rep X.K W Γ μ σ H2 → XT (hd W μ) H H2 → Va X.K (off (hd W μ) H2) v (.list (xs.flatMap fun x => (ys x).map (f x))) → Q v H2) :
    tLc2 wi (gName k1) tYes (wIb X scope tg1 iter1) (gName k2) tYes (wEb X scope elt) [k1, k2] [k2] σ H Q := by
  refine hi σ H R _ fun J H1 R1 e1 wkk D hD => ?_
  let g : α → List PyData := fun x => (ys x).map (f x)
  let vs : List Nat := [k1, k2]
  let Pv : Nat → Hp → Prop := fun i H' => Rep X.K (W.now μ H1) (wipeD vs Γ) ((D, .lst ((xs.take i).flatMap g)) :: μ) (wipe σ vs) H'
  have R1n := R1.now
  have Rw : Rep X.K (W.now μ H1) (wipeD vs Γ) μ (wipe σ vs) H1 := ⟨R1n.wd, R1n.fr, R1n.sl.wipe vs, R1n.mu, R1n.nd⟩
  have h0 : Pv 0 (upd H1 D (.lst [])) := Rw.born hD ⟨[], upd_same, .nil⟩
  have nDmu : ∀ {i H'}, Pv i H' → Same (off (hd W μ) H1) H' := fun Rp a o e => by
    obtain ⟨h1, h2⟩ := off_some e
    refine Rp.fr.keep a o (fun z => h1 (List.mem_append_left _ (Rep.isRow_M Rp.wd z))) ?_
    show off (μ.map (·.1)) H1 a = some o
    rw [off_out (fun z => h1 (List.mem_append_right _ z))]
    exact h2
  have le1 : Wle W (W.now μ H1) := R1.now_le
  refine ⟨fun i m H' => m = xs.length - i ∧ i ≤ xs.length ∧ Pv i H', ⟨xs.length, by simp, Nat.zero_le _, h0⟩, ?_⟩
  rintro i m H' ⟨rfl, hile, Rp⟩
  by_cases hlt : i < xs.length
  · refine .inr ⟨wkk.go i H' (by simpa using hlt) (nDmu Rp), Pv (i + 1), fun H2 p' => ⟨xs.length - (i + 1), by omega, rfl, hlt, p'⟩, fun v H2 y => ?_⟩
    obtain ⟨x, hx⟩ : ∃ x, xs[i]? = some x := ⟨xs[i], by simp [hlt]⟩
    have xin : x ∈ xs := List.mem_of_getElem? hx
    have dx : (xs.map enc)[i]? = some (enc x) := by rw [List.getElem?_map, hx]; rfl
    have pool : Same (off (hd W μ) H1) (off (hd (W.now μ H1) ((D, .lst ((xs.take i).flatMap g)) :: μ)) H') := fun a o e => by
      obtain ⟨h1, h2⟩ := off_some e
      have na : a ≠ D := fun z => by rw [z, hD] at h2; cases h2
      rw [off_out (fun z => by
        rcases List.mem_append.mp z with z | z
        · exact h1 (List.mem_append_left _ z)
        · rw [List.map_cons] at z
          rcases List.mem_cons.mp z with z | z
          · exact na z
          · exact h1 (List.mem_append_right _ z))]
      exact nDmu Rp a o e
    obtain ⟨s2, r2⟩ := wkk.yld i (enc x) H' v H2 _ dx Rp.nts pool y
    have Rp2 := Rp.same s2
    refine (tg_name (K := X.K) k1).run _ v (enc x) (wipe σ vs) H2 _ _ r2 trivial Rp2.sl fun σ3 sl3 l3 u3 => ?_
    refine ⟨wipe_eq (ks := [k1]) (by intro k hk; rw [List.mem_singleton.mp hk]; exact List.mem_cons_self) l3 u3, ?_⟩
    have R3 : Rep X.K (W.now μ H1) ((wipeD vs Γ).set k1 (.d (enc x))) ((D, .lst ((xs.take i).flatMap g)) :: μ) σ3 H2 := ⟨Rp2.wd, Rp2.fr, sl3, Rp2.mu, Rp2.nd⟩
    refine yes_ _ _ _ ?_
    refine iteT ?_
    intro s0 H0 C0 cl0 fp0
    obtain ⟨wj, pj, rj⟩ := hi1 x xin _ (le1.trans (park_le R3)) s0 H0 C0 cl0 fp0
    refine pj.w (rj σ3 H2 R3.park _ fun zs J1 H4 ez R4 x4 wk1 => ?_)
    subst ez
    have x4' := park_xt R3 R4
    have R4' := R3.unpark R4
    -- the inner world
    let acc := (xs.take i).flatMap g
    let WB := (W.now μ H1).now ((D, .lst acc) :: μ) H4
    have leB : Wle (W.now μ H1) WB := R4'.now_le
    let Pw : Nat → Hp → Prop := fun j H5 => Rep X.K WB (wipeD [k2] ((wipeD vs Γ).set k1 (.d (enc x)))) ((D, .lst (acc ++ ((ys x).take j).map (f x))) :: μ) (wipe σ3 [k2]) H5
    have RB := R4'.now
    have w0 : Pw 0 H4 := by
      show Rep X.K WB _ ((D, .lst (acc ++ ((ys x).take 0).map (f x))) :: μ) _ H4
      rw [List.take_zero, List.map_nil, List.append_nil]
      exact ⟨RB.wd, RB.fr, RB.sl.wipe [k2], RB.mu, RB.nd⟩
    have keepB : ∀ {j H5}, Pw j H5 → XT (hd (W.now μ H1) ((D, .lst acc) :: μ)) H4 H5 := fun Rj a o e => by
      obtain ⟨h1, h2⟩ := off_some e
      rw [off_out h1]
      refine Rj.fr.keep a o (fun z => h1 (List.mem_append_left _ (Rep.isRow_M Rj.wd z))) ?_
      show off ((((D, MO.lst acc) :: μ)).map (·.1)) H4 a = some o
      rw [off_out (fun z => h1 (List.mem_append_right _ z))]
      exact h2
    have pk : ∀ a, a ∈ hd ((W.now μ H1).park μ D H2) μ ↔ a ∈ hd (W.now μ H1) ((D, .lst acc) :: μ) := fun a => mem_park
    have pool1 : ∀ {j H5}, Pw j H5 → Same (off (hd ((W.now μ H1).park μ D H2) μ) H4) (off (hd WB ((D, .lst (acc ++ ((ys x).take j).map (f x))) :: μ)) H5) := fun Rj a o e => by
      obtain ⟨h1, h2⟩ := off_some e
      have h1' : a ∉ hd (W.now μ H1) ((D, .lst acc) :: μ) := fun z => h1 ((pk a).mpr z)
      exact keepB Rj a o (by rw [off_out h1']; exact h2)
    have pool1' : ∀ {j H5}, Pw j H5 → Same (off (hd ((W.now μ H1).park μ D H2) μ) H4) H5 := fun Rj a o e => (off_some (pool1 Rj a o e)).2
    have hacc : ∀ j, j ≤ (ys x).length → (acc ++ ((ys x).take j).map (f x)).length ≤ ((xs.take (i + 1)).flatMap g).length := fun j hj => by
      have h3 : ((xs.take (i + 1)).flatMap g).length = acc.length + (ys x).length := by
        rw [flat_take_succ hx, List.length_append]
        show _ + ((ys x).map (f x)).length = _
        rw [List.length_map]
      have h4 : (acc ++ ((ys x).take j).map (f x)).length ≤ acc.length + (ys x).length := by
        rw [List.length_append, List.length_map, List.length_take]
        omega
      exact Nat.le_trans h4 (Nat.le_of_eq h3.symm)
    have hz' : (xs.flatMap g).length ≤ 16777216 := hz
    have htot := flat_take_le (xs := xs) (g := g) (i + 1)
    refine ⟨fun j k H5 => k = (ys x).length - j ∧ j ≤ (ys x).length ∧ Pw j H5, ⟨(ys x).length, by simp, Nat.zero_le _, w0⟩, ?_⟩
    rintro j k H5 ⟨rfl, hjle, Rj⟩
    by_cases hlj : j < (ys x).length
    · refine .inr ⟨wk1.go j H5 (by simpa using hlj) (pool1' Rj), Pw (j + 1), fun H6 p' => ⟨(ys x).length - (j + 1), by omega, rfl, hlj, p'⟩, fun v1 H6 y1 => ?_⟩
      obtain ⟨b, hb⟩ : ∃ b, (ys x)[j]? = some b := ⟨(ys x)[j], by simp [hlj]⟩
      have bin : b ∈ ys x := List.mem_of_getElem? hb
      have db : ((ys x).map enc1)[j]? = some (enc1 b) := by rw [List.getElem?_map, hb]; rfl
      obtain ⟨s6, r6⟩ := wk1.yld j (enc1 b) H5 v1 H6 _ db Rj.nts (pool1 Rj) y1
      have Rj2 := Rj.same s6
      refine (tg_name (K := X.K) k2).run _ v1 (enc1 b) (wipe σ3 [k2]) H6 _ _ r6 trivial Rj2.sl fun σ4 sl4 l4 u4 => ?_
      refine ⟨wipe_eq (ks := [k2]) (by intro k hk; exact hk) l4 u4, ?_⟩
      have R6 : Rep X.K WB ((wipeD [k2] ((wipeD vs Γ).set k1 (.d (enc x)))).set k2 (.d (enc1 b))) ((D, .lst (acc ++ ((ys x).take j).map (f x))) :: μ) σ4 H6 := ⟨Rj2.wd, Rj2.fr, sl4, Rj2.mu, Rj2.nd⟩
      refine yes_ _ _ _ ?_
      refine iteT ?_
      intro s9 H9 C9 cl9 fp9
      refine he x xin b bin _ ((le1.trans leB).trans (park_le R6)) s9 H9 C9 cl9 fp9 σ4 H6 R6.park _ fun v5 H7 R7 x7 r7 => ?_
      have x7' := park_xt R6 R7
      have R7' := R6.unpark R7
      obtain ⟨ac, ha, hv⟩ := (R7'.mu _ List.mem_cons_self).2
      refine ⟨ac, ha, ?_, ?_⟩
      · rw [hv.length]
        have h3 := hacc (j + 1) hlj
        rw [List.take_add_one, hb, List.map_append] at h3
        simp only [List.length_append, List.length_map] at h3 ⊢
        have h4 : ((some b).toList.map (f x)).length = 1 := rfl
        simp only [List.length_map] at h4
        show _ < 16777216
        omega
      · have oc : off (hd (WB.park μ D H6) μ) H7 = off (hd WB ((D, .lst (acc ++ ((ys x).take j).map (f x))) :: μ)) H7 := off_cong fun a => mem_park
        have Rb : Rep X.K WB (wipeD [k2] ((wipeD vs Γ).set k1 (.d (enc x)))) ((D, .lst (acc ++ ((ys x).take j).map (f x))) :: μ) (wipe σ3 [k2]) H7 := ⟨R7'.wd, R7'.fr, Rj2.sl.up x7', R7'.mu, R7'.nd⟩
        have z := Rb.chg (j := 0) (m' := .lst ((acc ++ ((ys x).take j).map (f x)) ++ [f x b])) rfl ⟨ac ++ [v5], upd_same, hv.app (.cons (oc ▸ r7) .nil)⟩
        show Rep X.K WB _ ((D, .lst (acc ++ ((ys x).take (j + 1)).map (f x))) :: μ) _ _
        have e : acc ++ ((ys x).take (j + 1)).map (f x) = (acc ++ ((ys x).take j).map (f x)) ++ [f x b] := by
          rw [List.take_add_one, hb, List.map_append, List.append_assoc]
          rfl
        rw [e]
        exact z
    · have e : j = (ys x).length := by omega
      subst e
      refine .inl ⟨by have := wk1.stop H5 (pool1' Rj); simpa using this, ?_⟩
      have xk := keepB Rj
      have x25 : XT (hd (W.now μ H1) ((D, .lst acc) :: μ)) H2 H5 := x4'.trans xk
      have Rd := Rj.wdown leB R4'.wd
      have e2 : (xs.take (i + 1)).flatMap g = acc ++ ((ys x).take (ys x).length).map (f x) := by
        rw [flat_take_succ hx, List.take_length]
      show Rep X.K (W.now μ H1) (wipeD vs Γ) ((D, .lst ((xs.take (i + 1)).flatMap g)) :: μ) (wipe σ vs) H5
      rw [e2]
      exact ⟨Rd.wd, Rd.fr, (Rp2.sl.up x25 : _), Rd.mu, Rd.nd⟩
  · have e : i = xs.length := by omega
    subst e
    refine .inl ⟨by have := wkk.stop H' (nDmu Rp); simpa using this, ?_⟩
    have sm := nDmu Rp
    have Rp' : Rep X.K (W.now μ H1) (wipeD vs Γ) ((D, .lst (xs.flatMap g)) :: μ) (wipe σ vs) H' := by
      have z := Rp
      show Rep X.K (W.now μ H1) (wipeD vs Γ) ((D, .lst (xs.flatMap g)) :: μ) (wipe σ vs) H'
      have e3 : (xs.take xs.length).flatMap g = xs.flatMap g := by rw [List.take_length]
      rw [← e3]
      exact z
    obtain ⟨ac, ha, hv, nl, sl⟩ := Rp'.freeze
    have up : XT (hd W μ) H1 H' := fun a o e => by
      rw [off_out (off_some e).1]
      exact sm a o e
    refine q (.ref D) H' ⟨R.wd, Rp.fr.down le1, R1.sl.up up, fun p hp => ⟨(R1.mu p hp).1, (Rp.mu p (List.mem_cons_of_mem _ hp)).2.up (same_offs fun a ha => ?_) fun _ z => z⟩, R.nd⟩ (e1.trans up) (.lst (off_out nl |>.trans ha) hv)
    rcases List.mem_append.mp ha with z | z
    · exact List.mem_append_left _ z
    · exact List.mem_append_right _ (by rw [List.map_cons]; exact List.mem_cons_of_mem _ z)
end
section
variable {X : Cx} {W : Wd} {Γ : List DV} {μ : Mu} {α β : Type} {iter iter1 elt : Expr} {scope : Scope} {pos p1 p2 : Pos} {enc : α → PyData} {enc1 : β → PyData} {xs : List α} {n1 n2 : Str}
/-- x = [elt for n1 in iter for n2 in iter1] -/
theorem run_setLc2 {rest : List Stmt} {D : Ends} {spos py : Pos} {nm : Str} (i k1 k2 : Nat) (hi : IterD X W Γ μ (.Name n1 p1) iter enc xs) (ys : α → List β) (f : α → β → PyData) (hz : (xs.flatMap fun x => (ys x).map (f x)).length ≤ 16777216)
    (hi1 : ∀ x ∈ xs, ∀ W1, Wle W W1 → ∀ s H C cl fp, IterD (blkOf X scope s H C cl fp) W1 ((wipeD [k1, k2] Γ).set k1 (.d (enc x))) μ (.Name n2 p2) iter1 enc1 (ys x))
    (he : ∀ x ∈ xs, ∀ y ∈ ys x, ∀ W1, Wle W W1 → ∀ s H C cl fp, Ed (blkOf X scope s H C cl fp) W1 ((wipeD [k2] ((wipeD [k1, k2] Γ).set k1 (.d (enc x)))).set k2 (.d (enc1 y))) μ elt (f x y))
    (hr : Run X W (Γ.set i (.d (.list (xs.flatMap fun x => (ys x).map (f x))))) μ rest D) (hN : X.N.Nodup) (hk : k1 ≠ k2 := by decide) (hn : X.N[i]? = some nm := by rfl) (hn1 : X.N[k1]? = some n1 := by rfl) (hn2 : X.N[k2]? = some n2 := by rfl)
    (hl : X.env.scope.names.lookup nm = some .local := by rfl)
    (hsw : swapsWith (.ListComp elt [⟨.Name n1 p1, iter, [], 0⟩, ⟨.Name n2 p2, iter1, [], 0⟩] scope pos) (some (.Name nm py)) spos.line X.env = pure true := by exact (sw_true rfl rfl rfl (by decide +kernel)))
    (hv1 : ∀ s H C cl fp, Loc (blkOf X scope s H C cl fp).env.scope n1 := by intro _ _ _ _ _; first | exact Or.inl rfl | exact Or.inr rfl) (hf1 : ∀ s H C cl fp, (blkOf X scope s H C cl fp).fn n1 = true ∨ (blkOf X scope s H C cl fp).env.scope.names.lookup n1 = some .local := by intro _ _ _ _ _; first | exact .inr rfl | exact .inl rfl)
    (hv2 : ∀ s H C cl fp, Loc (blkOf X scope s H C cl fp).env.scope n2 := by intro _ _ _ _ _; first | exact Or.inl rfl | exact Or.inr rfl) (hf2 : ∀ s H C cl fp, (blkOf X scope s H C cl fp).fn n2 = true ∨ (blkOf X scope s H C cl fp).env.scope.names.lookup n2 = some .local := by intro _ _ _ _ _; first | exact .inr rfl | exact .inl rfl)
    (hb : BlkOk X.N X.env.scope scope [(n1, k1), (n2, k2)] := by exact blkOk_by (by kernel_rfl)) (hc : X.calm = true := by rfl) (hs : ∀ x, foldedSetIterable iter X.env x = pure x := by intro _; rfl) (hs1 : ∀ env x, foldedSetIterable iter1 env x = pure x := by intro _ _; rfl) :
    Run X W Γ μ (.Assign [.Name nm py] (.ListComp elt [⟨.Name n1 p1, iter, [], 0⟩, ⟨.Name n2 p2, iter1, [], 0⟩] scope pos) spos :: rest) D := fun σ H R => by
  obtain ⟨wi, h1, h2⟩ := hi
  refine wSs_cons ((ps_setLc2 (vs1 := [k2]) hc hN hn hl hsw h1 hb (fun i hi => by rw [List.mem_singleton.mp hi]; simp) (fun s H C cl fp => pg_name hN hn1 (hv1 s H C cl fp) (hf1 s H C cl fp)) (fun _ _ _ _ _ => pts_nil) (wIb.pi (scope := scope)) (fun s H C cl fp => pg_name hN hn2 (hv2 s H C cl fp) (hf2 s H C cl fp)) (fun _ _ _ _ _ => pts_nil) wEb.pe hs hs1).w ?_)
  exact lc2_read hk (fun σ H R Rr k => h2 σ H R Rr fun l J H1 e R1 x1 wkk => k J H1 R1 x1 (e ▸ wkk)) hi1 hz he R fun v H2 R2 x2 r => hr _ _ ⟨R2.wd, R2.fr, R2.sl.set i r, R2.mu, R2.nd⟩
end
end HW
set_option maxHeartbeats 4000000
namespace HW
open PySem PySem.Spec PyProof.Rows L2
open SX (S)
section
variable {X : Cx} {W : Wd} {Γ : List DV} {μ μ' : Mu} {sts a b rest : List Stmt} {D D' : Ends} {c : Expr} {pos : Pos}
/-- local objects forgotten -/
theorem run_sub (h : Run X W Γ μ' sts D) (s : μ'.Sublist μ) : Run X W Γ μ sts D := fun σ H R => by
  have sk : (μ'.map (·.1)).Sublist (μ.map (·.1)) := s.map _
  have sub : Same (off (hd W μ) H) (off (hd W μ') H) := same_offs fun a ha => by
    rcases List.mem_append.mp ha with z | z
    · exact List.mem_append_left _ z
    · exact List.mem_append_right _ (sk.subset z)
  exact h σ H ⟨R.wd, R.fr, R.sl.up sub, fun p hp => ⟨(R.mu p (s.subset hp)).1, (R.mu p (s.subset hp)).2.up sub fun _ z => z⟩, R.nd.sublist sk⟩
/-- weaker ends -/
theorem Run.mono (h : Run X W Γ μ sts D) (h1 : ∀ σ H, D.nx σ H → D'.nx σ H) (h2 : ∀ v H, D.rt v H → D'.rt v H) (h3 : ∀ σ H, D.bk σ H → D'.bk σ H) (h4 : ∀ σ H, D.ct σ H → D'.ct σ H) : Run X W Γ μ sts D' := fun σ H R pins s I =>
  wpAny_mono (h σ H R pins s I) (fun fl s' q => by
    cases fl with
    | next => obtain ⟨σ', H', I', q'⟩ := q; exact ⟨σ', H', I', h1 _ _ q'⟩
    | brk => obtain ⟨σ', H', I', q'⟩ := q; exact ⟨σ', H', I', h3 _ _ q'⟩
    | cont => obtain ⟨σ', H', I', q'⟩ := q; exact ⟨σ', H', I', h4 _ _ q'⟩
    | ret u => obtain ⟨v, σ', H', I', r, q'⟩ := q; exact ⟨v, σ', H', I', r, h2 _ _ q'⟩) fun _ _ z => z
/-- if, both ways on to one state Φ -/
theorem run_ifJ {k : Bool} (Φ : List DV → Mu → Prop) (hc : EdT X W Γ μ c k) (h1 : k = true → Run X W Γ μ a { D with nx := StP X.K W Φ }) (h2 : k = false → Run X W Γ μ b { D with nx := StP X.K W Φ }) (hr : ∀ Γ' μ', Φ Γ' μ' → Run X W Γ' μ' rest D) : Run X W Γ μ (.If c a b pos :: rest) D :=
  have on : ∀ σ H, StP X.K W Φ σ H → wSs X rest D σ H := fun σ H ⟨Γ', μ', p, R⟩ => hr Γ' μ' p σ H R
  run_if hc (fun q => (h1 q).mono on (fun _ _ z => z) (fun _ _ z => z) (fun _ _ z => z)) (fun q => (h2 q).mono on (fun _ _ z => z) (fun _ _ z => z) (fun _ _ z => z))
/-- the end of a branch, a turn: on to Φ -/
theorem run_to {Φ : List DV → Mu → Prop} {rt : VK} {bk ct : L2.St → Hp → Prop} (Γ' : List DV) (μ' : Mu) (w : wk Γ Γ') (s : μ'.Sublist μ) (h : Φ Γ' μ') : Run X W Γ μ [] ⟨StP X.K W Φ, rt, bk, ct⟩ := run_sub (run_go Γ' w h) s
end
/-! ### all masks -/
def maskG : Nat → List (List Nat)
  | 0 => [[120]]
  | k + 1 => (maskG k).flatMap fun v => [46, 120].map fun c => v ++ [c]
def masksL (w : Nat) : List (List Nat) := if w = 1 then [[120]] else (maskG (w - 2)).map fun v => v ++ [120]
def R_all_masks (ds : List PyData) (d : PyData) : Prop := ∃ w : Nat, ds = [nn w] ∧ 1 ≤ w ∧ w ≤ 12 ∧ d = wD (masksL w)
theorem maskG_len : ∀ k, (maskG k).length = 2 ^ k
  | 0 => rfl
  | k + 1 => by
    have h : ∀ l : List (List Nat), (l.flatMap fun v => [46, 120].map fun c => v ++ [c]).length = l.length * 2 := by
      intro l
      induction l with
      | nil => rfl
      | cons v l ih => rw [List.flatMap_cons, List.length_append, ih, List.length_cons]; simp; omega
    rw [maskG, h, maskG_len k, Nat.pow_succ]
theorem mem_maskG : ∀ {k : Nat} {v : List Nat}, v ∈ maskG k → v.length = k + 1 ∧ v[0]? = some 120 ∧ ∀ c ∈ v, c = 120 ∨ c = 46
  | 0, v, h => by
    have e : v = [120] := by simpa [maskG] using h
    subst e
    exact ⟨rfl, rfl, fun c hc => .inl (by simpa using hc)⟩
  | k + 1, v, h => by
    obtain ⟨u, hu, hv⟩ := List.mem_flatMap.mp h
    obtain ⟨c, hc, rfl⟩ := List.mem_map.mp hv
    obtain ⟨h1, h2, h3⟩ := mem_maskG hu
    refine ⟨by simp [h1], ?_, fun x hx => ?_⟩
    · rw [List.getElem?_append_left (by omega)]
      exact h2
    · rcases List.mem_append.mp hx with z | z
      · exact h3 x z
      · rw [List.mem_singleton.mp z]
        have : c = 46 ∨ c = 120 := by simpa using hc
        omega
theorem mem_masksL {w : Nat} {m : List Nat} (h1 : 1 ≤ w) (h2 : w ≤ 12) (h : m ∈ masksL w) : maskB m = true ∧ m.length = w := by
  unfold masksL at h
  by_cases e : w = 1
  · rw [if_pos e] at h
    have e2 : m = [120] := by simpa using h
    subst e2
    subst e
    exact ⟨by decide, rfl⟩
  · rw [if_neg e] at h
    obtain ⟨v, hv, rfl⟩ := List.mem_map.mp h
    obtain ⟨g1, g2, g3⟩ := mem_maskG hv
    refine ⟨?_, by simp [g1]; omega⟩
    unfold maskB
    simp only [Bool.and_eq_true, decide_eq_true_eq, List.all_eq_true]
    refine ⟨⟨⟨⟨by simp, by simp [g1]; omega⟩, fun c hc => ?_⟩, ?_⟩, List.getLast?_concat⟩
    · rcases List.mem_append.mp hc with z | z
      · rcases g3 c z with e | e <;> (subst e; simp)
      · rw [List.mem_singleton.mp z]; simp
    · rw [List.getElem?_append_left (by omega)]
      exact g2
theorem masksL_len {w : Nat} (h2 : w ≤ 12) : (masksL w).length ≤ 1024 := by
  unfold masksL
  split
  · simp
  · rw [List.length_map, maskG_len]
    exact Nat.le_trans (Nat.pow_le_pow_right (by decide) (show w - 2 ≤ 10 by omega)) (by decide)
/-! the best ones -/
noncomputable def stepB (many n : Nat) (s : Nat × List (List Nat)) (m : List Nat) : Nat × List (List Nat) :=
  if (seenL m).length = many then
    (if topK m n - 1 > s.1 then (topK m n - 1, [m]) else if topK m n - 1 = s.1 then (s.1, s.2 ++ [m]) else s)
  else s
noncomputable def foldB (many n : Nat) (ms : List (List Nat)) : Nat × List (List Nat) := ms.foldl (stepB many n) (0, [])
def allM (w : Nat) : List (List Nat) := (List.range w).flatMap fun i => masksL (i + 1)
theorem foldB_snoc (many n : Nat) (ms : List (List Nat)) (m : List Nat) : foldB many n (ms ++ [m]) = stepB many n (foldB many n ms) m := by unfold foldB; rw [List.foldl_append]; rfl
theorem stepB_len (many n : Nat) (s : Nat × List (List Nat)) (m : List Nat) : (stepB many n s m).2.length ≤ s.2.length + 1 := by
  unfold stepB
  split
  · split
    · simp
    · split
      · simp
      · omega
  · omega
theorem foldB_len (many n : Nat) (ms : List (List Nat)) : (foldB many n ms).2.length ≤ ms.length := by
  have key : ∀ (ms : List (List Nat)) (s : Nat × List (List Nat)), (ms.foldl (stepB many n) s).2.length ≤ s.2.length + ms.length := by
    intro ms
    induction ms with
    | nil => intro s; exact Nat.le_refl _
    | cons m ms ih =>
      intro s
      have h1 := ih (stepB many n s m)
      have h2 := stepB_len many n s m
      rw [List.foldl_cons, List.length_cons]
      omega
  have := key ms (0, [])
  simpa [foldB] using this
theorem allM_len {w : Nat} (h : w ≤ 12) : (allM w).length ≤ 12288 := by
  have h1 := flat_len (fun i => masksL (i + 1)) 1024 (List.range w) (fun i hi => masksL_len (by have := List.mem_range.mp hi; omega))
  rw [List.length_range] at h1
  unfold allM
  omega
def R_best_masks (ds : List PyData) (d : PyData) : Prop := ∃ many w n : Nat, ds = [nn many, nn w, nn n] ∧ 1 ≤ many ∧ many ≤ 12 ∧ 1 ≤ w ∧ w ≤ 12 ∧ 1 ≤ n ∧ n ≤ 4 ∧ w ≤ [12, 8, 5, 4].getD (n - 1) 0 ∧ many ≤ [12, 4, 2, 1].getD (n - 1) 0 ∧
  d = .tuple [nn (foldB many n (allM w)).1, wD (foldB many n (allM w)).2]
theorem rev_ind {α : Type} {p : List α → Prop} (h0 : p []) (h1 : ∀ l a, p l → p (l ++ [a])) (l : List α) : p l := by
  have key : ∀ k (l : List α), l.length = k → p l := by
    intro k
    induction k with
    | zero => intro l h; rw [List.length_eq_zero_iff.mp h]; exact h0
    | succ k ih =>
      intro l h
      have hne : l ≠ [] := by rintro rfl; simp at h
      rw [← List.dropLast_concat_getLast hne]
      exact h1 _ _ (ih _ (by simp [h]))
  exact key _ l rfl
/-- a mask's own width is told -/
theorem Small.reach {m : List Nat} {n : Nat} (h : Small m n) : m.length < HW.topK m n := by
  obtain ⟨g1, g2⟩ := h.topK
  rcases Nat.lt_or_ge m.length (HW.topK m n) with q | q
  · exact q
  · exfalso
    have e := lev_nil g1 m.length q
    have hm : List.replicate m.length 97 ∈ lev m n m.length := by
      refine (mem_lev h.pos h.hi).mpr ⟨by simp, fun c hc => ?_, ?_⟩
      · rw [List.eq_of_mem_replicate hc]
        have := h.lo
        omega
      · unfold tellsB viewsL
        have e1 : (List.replicate m.length 97).length + 1 - m.length = 1 := by simp
        rw [e1]
        simp [List.range_succ]
    rw [e] at hm
    cases hm
end HW
set_option maxHeartbeats 4000000
namespace HW
open PySem PySem.Spec PyProof.Rows L2
open SX (S)
/-! ### x[::-1] of texts and lists -/
section
variable {X : Cx} {W : Wd} {Γ : List DV} {μ : Mu} {e : Expr} {p1 p2 p3 pos : Pos} {k : Nat} {l : List Nat} {ds : List PyData}
end
/-! ### a, b = a list of two -/
section
variable {X : Cx} {W : Wd} {Γ : List DV} {μ : Mu} {e : Expr} {rest : List Stmt} {D : Ends} {pos p1 p2 : Pos} {n1 n2 : Str} {P : PyData → Prop}
end
end HW
set_option maxHeartbeats 4000000
namespace HW
open PySem PySem.Spec PyProof.Rows L2
open SX (S)
section
variable {X : Cx} {i : Nat} {xs : List Nat}
theorem inV_n (i : Nat) : ∀ xs : List Nat, inV (.int (i : Int)) ((xs.map fun x : Nat => (x : Int)).map V.int) = decide (i ∈ xs)
  | [] => rfl
  | x :: xs => by
    have ih := inV_n i xs
    unfold inV at ih ⊢
    rw [List.map_cons, List.map_cons, List.any_cons, ih]
    have e : eqV (V.int (x : Int)) (V.int (i : Int)) = decide (i = x) := by
      show ((x : Int) == (i : Int)) = _
      rw [Bool.eq_iff_iff, beq_iff_eq, decide_eq_true_eq]
      omega
    rw [e]
    by_cases h : i = x
    · subst h; simp
    · simp [h]
theorem flat_n : ∀ xs : List Nat, ((xs.map fun x : Nat => (x : Int)).map V.int).all flatV = true
  | [] => rfl
  | v :: ws => by rw [List.map_cons, List.map_cons, List.all_cons, flat_n ws]; rfl
theorem vaAll_n {K : PySem.W.Frag} {H : Hp} {vs : List V} (h : VaAll K H vs (xs.map nn)) : vs = (xs.map fun x : Nat => (x : Int)).map V.int := by
  have e : xs.map nn = (xs.map fun x : Nat => (x : Int)).map PyData.int := by rw [List.map_map]; rfl
  rw [e] at h
  exact h.ints
theorem c_inLI : OpD X (compareOp .In) (nn i) (nD xs) (.bool (decide (i ∈ xs))) := OpR.to op_in_seq fun a b H Q ⟨L, _, ha, hb, k⟩ => by
  cases ha
  cases hb with
  | lst hl hv =>
    have ev := vaAll_n hv
    subst ev
    refine ⟨_, _, rfl, .inl (SqL.of (off_some hl).2), rfl, flat_n xs, ?_⟩
    show Q (.bl (inV _ _)) H
    rw [inV_n]
    exact k _ _ (Same.refl _) (.bl _)
end
/-! ### unlike -/
def unlikeN (a b : List Nat) : Nat := ((a.zip b).filter fun q => decide (q.1 ≠ q.2)).length
def R_unlike (ds : List PyData) (d : PyData) : Prop := ∃ a b : List Nat, ds = [sD a, sD b] ∧ a.length ≤ 4000 ∧ b.length ≤ 4000 ∧ d = nn (unlikeN a b)
/-! ### the law's small masks -/
def maskOf (kept : List Nat) (top : Nat) : List Nat := (List.range (top + 1)).map fun i => if i ∈ kept then 120 else 46
theorem open_sorted (m : List Nat) : (openL m).Pairwise (· < ·) := by
  unfold openL
  exact List.Pairwise.filter _ List.pairwise_lt_range
theorem open_head {m : List Nat} (h : maskB m = true) : (openL m)[0]? = some 0 := by
  have h1 := maskB_pos h
  have h0 : 0 ∈ openL m := open_get.mpr ⟨h1, by
    unfold maskB at h
    simp only [Bool.and_eq_true, decide_eq_true_eq] at h
    exact h.1.2⟩
  have hs := open_sorted m
  cases e : openL m with
  | nil => rw [e] at h0; cases h0
  | cons a l =>
    rw [e] at h0 hs
    rcases List.mem_cons.mp h0 with z | z
    · rw [← z]; rfl
    · have := (List.pairwise_cons.mp hs).1 0 z
      omega
theorem maskOf_len (kept : List Nat) (top : Nat) : (maskOf kept top).length = top + 1 := by simp [maskOf]
end HW
set_option maxHeartbeats 4000000
namespace HW
open PySem PySem.Spec PyProof.Rows L2
open SX (S)
/-! ### rows whose views differ much -/
def R_longest_rows (ds : List PyData) (d : PyData) : Prop := ∃ (m : List Nat) (n : Nat), ds = [sD m, nn n] ∧ Small m n ∧ d = wD (lev m n (topK m n - 1))
section
variable {X : Cx} {ds : List PyData}
end
end HW
set_option maxHeartbeats 4000000
namespace HW
open PySem PySem.Spec PyProof.Rows L2
open SX (S)
/-! ### shorter turns -/
theorem wk_n : wk [] [] := trivial
theorem wk_s {a : DV} {as bs : List DV} (h : wk as bs) : wk (a :: as) (a :: bs) := ⟨.inr rfl, h⟩
theorem wk_0 {a : DV} {as bs : List DV} (h : wk as bs) : wk (a :: as) (.no :: bs) := ⟨.inl rfl, h⟩
/-- a state that has Γ' and μ' -/
def Stt (K : PySem.W.Frag) (W : Wd) (Γ' : List DV) (μ' : Mu) : L2.St → Hp → Prop := StP K W (fun Γ μ => wk Γ Γ' ∧ μ = μ')
section
variable {X : Cx} {W : Wd} {Γ Γ' : List DV} {μ μ' : Mu} {α : Type} {iter : Expr} {a b body rest : List Stmt} {pos p : Pos} {enc : α → PyData} {D : Ends} {n : Str} {c : Expr}
/-- the end of a turn, a branch -/
theorem run_e {rt : VK} {bk ct : L2.St → Hp → Prop} (hm : μ = μ' := by rfl) (w : wk Γ Γ' := by repeat (first | exact wk_n | refine wk_s ?_ | refine wk_0 ?_)) : Run X W Γ μ [] ⟨Stt X.K W Γ' μ', rt, bk, ct⟩ := run_turn rfl ⟨w, hm⟩
/-- for n in iter: before turn i the state is Γ0 i, μ0 i -/
theorem run_forS {xs : List α} (k : Nat) (hi : IterD X W Γ μ (.Name n p) iter enc xs) (Γ0 : Nat → List DV) (μ0 : Nat → Mu)
    (hs : ∀ W1, Wle W W1 → ∀ i x, xs[i]? = some x → Run X W1 ((Γ0 i).set k (.d (enc x))) (μ0 i) body { D with nx := Stt X.K W1 (Γ0 (i + 1)) (μ0 (i + 1)), ct := Stt X.K W1 (Γ0 (i + 1)) (μ0 (i + 1)), bk := wSs X rest D })
    (hd' : Run X W (Γ0 xs.length) (μ0 xs.length) rest D) (hN : X.N.Nodup) (hk : ∀ i, (Γ0 i)[k]? = some .no := by intro _; rfl) (hm : μ = μ0 0 := by first | rfl | (simp; done)) (w : wk Γ (Γ0 0) := by repeat (first | exact wk_n | refine wk_s ?_ | refine wk_0 ?_)) (hn : X.N[k]? = some n := by rfl) (hx : Loc X.env.scope n := by first | exact Or.inl rfl | exact Or.inr rfl) (hff : X.fn n = true ∨ X.env.scope.names.lookup n = some .local := by first | exact .inr rfl | exact .inl rfl)
    (hp : PassesOwn (model X.prog X.w) X.A X.env X.xe := by exact PassesOwn.never) (hc : X.calm = true := by rfl) (hf : ∀ x, foldedSetIterable iter X.env x = pure x := by intro _; rfl) :
    Run X W Γ μ (.For (.Name n p) iter body [] pos :: rest) D :=
  run_for k hi (fun i Γ μ => wk Γ (Γ0 i) ∧ μ = μ0 i) ⟨w, hm⟩ (fun W1 l i x Γ' μ' h ⟨w', e⟩ => by
    subst e
    refine run_weak (hs W1 l i x h) ?_
    exact wk_set w' k) (fun Γ' μ' ⟨w', e⟩ => by
    subst e
    exact run_weak hd' w') hN hn hx hff hp hc hf
where
  wk_set : ∀ {Γ Γ' : List DV}, wk Γ Γ' → ∀ k {d : DV}, wk (Γ.set k d) (Γ'.set k d)
    | [], [], _, _, _ => trivial
    | a :: as, b :: bs, h, 0, d => ⟨.inr rfl, h.2⟩
    | a :: as, b :: bs, h, k + 1, d => ⟨h.1, wk_set h.2 k⟩
theorem run_for2S {xs : List α} {n1 n2 : Str} {p1 p2 tpos : Pos} {kk : Nat} {e1 e2 : α → PyData} (k1 k2 : Nat) (hi : IterD X W Γ μ (.Tuple [.Name n1 p1, .Name n2 p2] kk tpos) iter (fun x => pr2 (e1 x) (e2 x)) xs) (Γ0 : Nat → List DV) (μ0 : Nat → Mu)
    (hs : ∀ W1, Wle W W1 → ∀ i x, xs[i]? = some x → Run X W1 (((Γ0 i).set k1 (.d (e1 x))).set k2 (.d (e2 x))) (μ0 i) body { D with nx := Stt X.K W1 (Γ0 (i + 1)) (μ0 (i + 1)), ct := Stt X.K W1 (Γ0 (i + 1)) (μ0 (i + 1)), bk := wSs X rest D })
    (hd' : Run X W (Γ0 xs.length) (μ0 xs.length) rest D) (hN : X.N.Nodup) (hm : μ = μ0 0 := by first | rfl | (simp; done)) (w : wk Γ (Γ0 0) := by repeat (first | exact wk_n | refine wk_s ?_ | refine wk_0 ?_)) (hn1 : X.N[k1]? = some n1 := by rfl) (hn2 : X.N[k2]? = some n2 := by rfl) (hx1 : Loc X.env.scope n1 := by first | exact Or.inl rfl | exact Or.inr rfl) (hx2 : Loc X.env.scope n2 := by first | exact Or.inl rfl | exact Or.inr rfl)
    (hf1 : X.fn n1 = true ∨ X.env.scope.names.lookup n1 = some .local := by first | exact .inr rfl | exact .inl rfl) (hf2 : X.fn n2 = true ∨ X.env.scope.names.lookup n2 = some .local := by first | exact .inr rfl | exact .inl rfl)
    (hp : PassesOwn (model X.prog X.w) X.A X.env X.xe := by exact PassesOwn.never) (hc : X.calm = true := by rfl) (hf : ∀ x, foldedSetIterable iter X.env x = pure x := by intro _; rfl) :
    Run X W Γ μ (.For (.Tuple [.Name n1 p1, .Name n2 p2] kk tpos) iter body [] pos :: rest) D :=
  run_for2 k1 k2 hi (fun i Γ μ => wk Γ (Γ0 i) ∧ μ = μ0 i) ⟨w, hm⟩ (fun W1 l i x Γ' μ' h ⟨w', e⟩ => by
    subst e
    exact run_weak (hs W1 l i x h) (run_forS.wk_set (run_forS.wk_set w' k1) k2)) (fun Γ' μ' ⟨w', e⟩ => by
    subst e
    exact run_weak hd' w') hN hn1 hn2 hx1 hx2 hf1 hf2 hp hc hf
/-- while: the state Γ0 m, μ0 m with the measure m, from m to m - 1 -/
theorem run_whileS {c : Expr} (Γ0 : Nat → List DV) (μ0 : Nat → Mu) (B : Nat → Bool) (m0 : Nat) (hc : ∀ W1, Wle W W1 → ∀ m, m ≤ m0 → EdT X W1 (Γ0 m) (μ0 m) c (B m))
    (hs : ∀ W1, Wle W W1 → ∀ m, m + 1 ≤ m0 → B (m + 1) = true → Run X W1 (Γ0 (m + 1)) (μ0 (m + 1)) body { D with nx := Stt X.K W1 (Γ0 m) (μ0 m), ct := Stt X.K W1 (Γ0 m) (μ0 m), bk := wSs X rest D }) (h0 : B 0 = false)
    (hd' : ∀ m, m ≤ m0 → B m = false → Run X W (Γ0 m) (μ0 m) rest D) (hm : μ = μ0 m0 := by rfl) (w : wk Γ (Γ0 m0) := by repeat (first | exact wk_n | refine wk_s ?_ | refine wk_0 ?_)) (hp : PassesOwn (model X.prog X.w) X.A X.env X.xe := by exact PassesOwn.never) :
    Run X W Γ μ (.While c body [] pos :: rest) D :=
  run_while (fun m Γ μ => m ≤ m0 ∧ wk Γ (Γ0 m) ∧ μ = μ0 m) B m0 ⟨Nat.le_refl _, w, hm⟩ (fun W1 l m Γ' μ' ⟨hle, w', e⟩ => by
    subst e
    exact fun σ H R Q q => hc W1 l m hle σ H ⟨R.wd, R.fr, R.sl.weak w', R.mu, R.nd⟩ Q fun H2 R2 x2 => q H2 ⟨R2.wd, R2.fr, R.sl.up x2, R2.mu, R2.nd⟩ x2) (fun W1 l m Γ' μ' hb ⟨hle, w', e⟩ => by
    subst e
    cases m with
    | zero => rw [h0] at hb; cases hb
    | succ m =>
      refine run_weak ((hs W1 l m hle hb).mono ?_ (fun _ _ z => z) (fun _ _ z => z) ?_) w'
      · rintro σ H ⟨Γ2, μ2, ⟨h1, h2⟩, R⟩
        exact ⟨Γ2, μ2, ⟨m, Nat.lt_succ_self _, Nat.le_of_succ_le hle, h1, h2⟩, R⟩
      · rintro σ H ⟨Γ2, μ2, ⟨h1, h2⟩, R⟩
        exact ⟨Γ2, μ2, ⟨m, Nat.lt_succ_self _, Nat.le_of_succ_le hle, h1, h2⟩, R⟩) (fun m Γ' μ' hb ⟨hle, w', e⟩ => by
    subst e
    exact run_weak (hd' m hle hb) w') hp
end
/-! ### len and the like, short -/
section
variable {X : Cx} {W : Wd} {Γ : List DV} {μ : Mu} {a : Expr} {pos p : Pos} {l : List Nat} {ds : List PyData}
theorem lenS (G : Gs X.mg) (h : Ed X W Γ μ a (sD l)) (hl : l.length ≤ 16777216 := by omega) (hg : Gl X "len" := by rfl) (he : starEach [a] X.env = (false, eval a X.env) :: starEach [] X.env := by rfl) : Ed X W Γ μ (.Call (.Name "len" p) [a] [] pos) (nn l.length) := ed_callB G.len boot_len (ea_cons h ea_nil he) (c_lenS hl) hg (he := he)
theorem lenL (G : Gs X.mg) (h : Ed X W Γ μ a (.list ds)) (hg : Gl X "len" := by rfl) (he : starEach [a] X.env = (false, eval a X.env) :: starEach [] X.env := by rfl) : Ed X W Γ μ (.Call (.Name "len" p) [a] [] pos) (nn ds.length) := ed_callB G.len boot_len (ea_cons h ea_nil he) c_lenL hg (he := he)
theorem lenLw {ws : List (List Nat)} (G : Gs X.mg) (h : Ed X W Γ μ a (wD ws)) (hg : Gl X "len" := by rfl) (he : starEach [a] X.env = (false, eval a X.env) :: starEach [] X.env := by rfl) : Ed X W Γ μ (.Call (.Name "len" p) [a] [] pos) (nn ws.length) := (lenL G h hg he).to (by rw [List.length_map])
theorem lenT (G : Gs X.mg) (h : Ed X W Γ μ a (.tuple ds)) (hg : Gl X "len" := by rfl) (he : starEach [a] X.env = (false, eval a X.env) :: starEach [] X.env := by rfl) : Ed X W Γ μ (.Call (.Name "len" p) [a] [] pos) (nn ds.length) := ed_callB G.len boot_len (ea_cons h ea_nil he) c_lenT hg (he := he)
end
end HW
set_option maxHeartbeats 4000000
namespace HW
open PySem PySem.Spec PyProof.Rows L2
open SX (S)
/-! ### what it is to be told -/
/-! ### distances -/
abbrev gMOST_WRONG (mg : Str → Option Value) : Prop := ∃ t, mg "MOST_WRONG" = some (.int 12 t)
theorem views_small (l m : List Nat) : ∀ v ∈ viewsL l m, v.length ≤ m.length := fun v hv => by
  unfold viewsL at hv
  obtain ⟨p, _, rfl⟩ := List.mem_map.mp hv
  rw [viewL_len]
  exact seenL_len m
def distL (ws : List (List Nat)) : List Nat := (List.range ws.length).flatMap fun o => (List.range o).map fun i => unlikeN (ws.getD i []) (ws.getD o [])
def optN : Option Nat → PyData
  | none => .none
  | some n => nn n
theorem distL_len (ws : List (List Nat)) : (distL ws).length ≤ ws.length * ws.length := by
  have h := flat_len (fun o => (List.range o).map fun i => unlikeN (ws.getD i []) (ws.getD o [])) ws.length (List.range ws.length) (fun o ho => by
    have := List.mem_range.mp ho
    rw [List.length_map, List.length_range]
    omega)
  rw [List.length_range] at h
  exact h
def R_distance_of (ds : List PyData) (d : PyData) : Prop := ∃ ws : List (List Nat), ds = [wD ws] ∧ ws.length ≤ 4000 ∧ (∀ w ∈ ws, w.length ≤ 4000) ∧ d = optN (distL ws).min?
def R_distance (ds : List PyData) (d : PyData) : Prop := ∃ l m : List Nat, ds = [sD l, sD m] ∧ rowB l = true ∧ maskB m = true ∧ d = optN (distL (viewsL l m)).min?
def standsB (l m : List Nat) (a b : Nat) : Bool := match (distL (viewsL l m)).min? with
  | none => true
  | some k => decide (2 * a + b < k)
def R_stands (ds : List PyData) (d : PyData) : Prop := ∃ (l m : List Nat) (a b : Nat), ds = [sD l, sD m, nn a, nn b] ∧ rowB l = true ∧ maskB m = true ∧ a ≤ 12 ∧ b ≤ 12 ∧ d = .bool (standsB l m a b)
end HW
set_option maxHeartbeats 4000000
namespace HW
open PySem PySem.Spec PyProof.Rows L2
open SX (S)
/-! ### methods of texts with one text: find, index, count -/
section
variable {X : Cx} {W : Wd} {Γ : List DV} {μ : Mu} {o e : Expr} {apos pos : Pos} {l : List Nat} {c : Nat}
/-- s.index(sign), its place told -/
theorem ed_index1 {i : Nat} {rest : List Nat} (ho : Ed X W Γ μ o (sD l)) (he : Ed X W Γ μ e (sg c)) (hi : Builtin.Str.occurrences (S l) (⟨#[c]⟩ : Str) 0 (S l).length 1 = i :: rest) (hs : starEach [e] X.env = [(false, eval e X.env)] := by rfl) (hbase : attributeBase o "index" X.env (eval o X.env) = eval o X.env := by rfl) (hline : (apos.endLine == pos.line) = true := by rfl) :
    Ed X W Γ μ (.Call (.Attribute o "index" apos) [e] [] pos) (nn i) := fun σ H R Q q => by
  refine (pe_m1 PySem.F.slot_str_index PySem.F.type_str_index mt_sindex wE.pe wE.pe hs hbase hline).w (ho σ H R _ fun v H2 R2 e2 r2 => ?_)
  cases r2
  refine ⟨⟨_, rfl⟩, he σ H2 R2 _ fun v H3 R3 e3 r3 => ?_⟩
  cases r3
  exact ⟨_, _, i, rest, rfl, rfl, hi, q _ H3 R3 (e2.trans e3) (.int _)⟩
/-- "abcd".index(sign) -/
theorem ed_indexL (ho : Ed X W Γ μ o (sD [97, 98, 99, 100])) (he : Ed X W Γ μ e (sg c)) (h1 : 97 ≤ c) (h2 : c < 101) (hs : starEach [e] X.env = [(false, eval e X.env)] := by rfl) (hbase : attributeBase o "index" X.env (eval o X.env) = eval o X.env := by rfl) (hline : (apos.endLine == pos.line) = true := by rfl) :
    Ed X W Γ μ (.Call (.Attribute o "index" apos) [e] [] pos) (nn (c - 97)) := by
  have hc : c = 97 ∨ c = 98 ∨ c = 99 ∨ c = 100 := by omega
  rcases hc with e | e | e | e
  · subst e; exact ed_index1 (i := 0) (rest := []) ho he (by decide +kernel) hs hbase hline
  · subst e; exact ed_index1 (i := 1) (rest := []) ho he (by decide +kernel) hs hbase hline
  · subst e; exact ed_index1 (i := 2) (rest := []) ho he (by decide +kernel) hs hbase hline
  · subst e; exact ed_index1 (i := 3) (rest := []) ho he (by decide +kernel) hs hbase hline
end
/-! ### turned letters, masks with one place more open -/
def turnL (by_ c : Nat) : Nat := 97 + (c - 97 + by_) % 4
theorem turnL_low {b c : Nat} : 97 ≤ turnL b c ∧ turnL b c < 101 := by
  unfold turnL
  have := Nat.mod_lt (c - 97 + b) (show 4 > 0 by decide)
  omega
end HW
set_option maxHeartbeats 4000000
namespace HW
open PySem PySem.Spec PyProof.Rows L2
open SX (S)
open PySem.W (dataLt minD maxD AlikeAll AllAlike Sortable EachIs dataLe alike)
/-! ### the order of data: <, min, max, sorted -/
section
variable {X : Cx} {pins : List (Addr × Obj)} {σ : L2.St} {H : Hp} {s : Shared} {L : List Addr}
theorem va_reads (I : Inv X pins σ H s) {v : V} {u : Value} {d : PyData} (h : Va X.K (off L H) v d) (r : RelV v u) (n : nod d = true) : ∃ as, Reads s.heap u d as := Dp.reads I d v u ((h.up same_off).dp n) r
theorem vaAll_reads (I : Inv X pins σ H s) {vs : List V} {us : List Value} {ds : List PyData} (h : VaAll X.K (off L H) vs ds) (r : Vals vs us) (n : nodAll ds = true) : ∃ as, ReadsAll s.heap us ds as := Dp.readsAll I ds vs us ((h.up same_off).dp n) r
theorem min_mem (x : PyData) : ∀ xs : List PyData, minD x xs ∈ x :: xs := by
  intro xs
  unfold minD
  have key : ∀ (xs : List PyData) (a : PyData) (zs : List PyData), a ∈ zs → (∀ y ∈ xs, y ∈ zs) → xs.foldl (fun a y => if dataLt y a then y else a) a ∈ zs := by
    intro xs
    induction xs with
    | nil => intro a zs h _; exact h
    | cons y ys ih =>
      intro a zs h hs
      rw [List.foldl_cons]
      refine ih _ zs ?_ fun z hz => hs z (List.mem_cons_of_mem _ hz)
      split
      · exact hs y List.mem_cons_self
      · exact h
  exact key xs x _ List.mem_cons_self fun y hy => List.mem_cons_of_mem _ hy
/-- min of a list of alike data -/
theorem c_minD {x : PyData} {xs : List PyData} (hc : X.calm = true) (hu : X.A.units + 64 < cLine) (ha : AlikeAll (x :: xs)) (hd : PyData.depthAll (x :: xs) ≤ 60) (nx : nodAll (x :: xs) = true) : CallD X (.builtin "min") [.list (x :: xs)] (minD x xs) := by
  intro pins s σ H vs us Q I rv ⟨L, hL, hv, k⟩
  cases hv with
  | cons g1 g2 =>
    cases g2
    cases g1 with
    | lst ha' hs =>
      rename_i a ws
      cases rv with
      | cons r1 r2 =>
        cases r2
        cases r1
        obtain ⟨its, rr, pl, hz⟩ := I.list (SqL.of (off_some ha').2)
        obtain ⟨as, hr⟩ := vaAll_reads I hs rr nx
        refine PySem.W.min_list_data (I.ok.hd hc) pl.isList (show ReadsAll s.heap its.toArray.toList (x :: xs) as from hr) ha (by omega) fun i v h' tk bs hi r1 hk => ?_
        have hi' : its[i]? = some v := by simpa using hi
        have hlt : i < ws.length := by
          have := (List.getElem?_eq_some_iff.mp hi').1
          rw [rr.length]
          exact this
        have hwi : ws[i]? = some ws[i] := List.getElem?_eq_getElem hlt
        obtain ⟨u, hu', ru⟩ := rr.get hwi
        rw [hi'] at hu'
        cases hu'
        obtain ⟨d, hd', rd⟩ := hs.get hwi
        have hmem : d ∈ x :: xs := List.mem_of_getElem? hd'
        obtain ⟨cs, r2⟩ := va_reads I rd ru (nodAll_iff.mp nx d hmem)
        have e : d = minD x xs := PySem.W.alike_unique d _ v cs bs (ha.1 _ hmem _ (min_mem x xs)) (PyProof.Rows.Reads.keeps hk r2) r1
        subst e
        have I2 : Inv X pins σ H { s with heap := h', toks := tk } := I.kept hk
        exact ⟨ws[i], H, I2, ru, k _ _ (Same.refl _) rd⟩
end
/-! sorted -/
theorem each_zip {α β : Type} {R : α → β → Prop} : ∀ {as : List α} {bs : List β}, as.length = bs.length → (∀ (i : Nat) (a : α) (b : β), as[i]? = some a → bs[i]? = some b → R a b) → EachIs R as bs
  | [], [], _, _ => .nil
  | a :: as, b :: bs, h, f => .cons (f 0 a b rfl rfl) (each_zip (Nat.succ.inj h) fun i x y hx hy => f (i + 1) x y hx hy)
theorem each_mapV {K : PySem.W.Frag} {H : Hp} : ∀ {out : List Value} {bs : List (V × PyData)}, EachIs (fun u (b : V × PyData) => RelV b.1 u ∧ Va K H b.1 b.2) out bs → Vals (bs.map (·.1)) out ∧ VaAll K H (bs.map (·.1)) (bs.map (·.2))
  | _, _, .nil => ⟨.nil, .nil⟩
  | _, _, .cons h t => by
    obtain ⟨h1, h2⟩ := each_mapV t
    exact ⟨.cons h.1 h1, .cons h.2 h2⟩
section
variable {X : Cx}
/-- the sorted list -/
def sortD (ds : List PyData) : List PyData := ds.mergeSort (dataLe false id)
/-- sorted(list) -/
theorem c_sortedD {ds : List PyData} (hu : X.A.units + 64 < cLine) (hal : AllAlike ds) (hk : Sortable ds) (hl : ds.length ≤ 16777216) (hd : ∀ d ∈ ds, d.depth ≤ 60) (nx : nodAll ds = true := by exact nodAll_map (fun _ => rfl) _) : CallD X (.builtin "sorted") [.list ds] (.list (sortD ds)) := by
  intro pins s σ H vs us Q I rv ⟨L, hL, hv, k⟩
  cases hv with
  | cons g1 g2 =>
    cases g2
    cases g1 with
    | lst ha' hs =>
      rename_i a ws
      cases rv with
      | cons r1 r2 =>
        cases r2
        cases r1
        obtain ⟨its, rr, pl, hz⟩ := I.list (SqL.of (off_some ha').2)
        have hlen : its.length = (ws.zip ds).length := by rw [List.length_zip, hs.length, ← rr.length, hs.length]; omega
        have e1 : EachIs (fun u (b : V × PyData) => RelV b.1 u ∧ Va X.K (off L H) b.1 b.2) its (ws.zip ds) := by
          refine each_zip hlen fun i u b hu hb => ?_
          obtain ⟨hb1, hb2⟩ := List.getElem?_zip_eq_some.mp hb
          obtain ⟨u', hu', ru⟩ := rr.get hb1
          rw [hu] at hu'
          cases hu'
          obtain ⟨d, hd', rd⟩ := hs.get hb1
          rw [hb2] at hd'
          cases hd'
          exact ⟨ru, rd⟩
        have e2 : EachIs (fun u (b : V × PyData) => ∃ as, Reads s.heap u b.2 as) its (ws.zip ds) := by
          refine each_zip hlen fun i u b hu hb => ?_
          obtain ⟨hb1, hb2⟩ := List.getElem?_zip_eq_some.mp hb
          obtain ⟨u', hu', ru⟩ := rr.get hb1
          rw [hu] at hu'
          cases hu'
          obtain ⟨d, hd', rd⟩ := hs.get hb1
          rw [hb2] at hd'
          cases hd'
          exact va_reads I rd ru (nodAll_iff.mp nx _ (List.mem_of_getElem? hb2))
        have hm : (ws.zip ds).map (·.2) = ds := List.map_snd_zip (by rw [hs.length]; exact Nat.le_refl _)
        refine PySem.W.sorted_data (bs := ws.zip ds) (enc := fun b => b.2) pl.isList e1 e2 (by rw [hm]; exact hal) (by rw [hm]; exact hk) (by rw [← hlen, ← rr.length, sizeLine_eq]; rw [hs.length]; exact hl) (fun b hb => by
          have := hd b.2 (by rw [← hm]; exact List.mem_map.mpr ⟨b, hb, rfl⟩)
          omega) fun out ho eo => ?_
        obtain ⟨v1, v2⟩ := each_mapV eo
        obtain ⟨c, hc⟩ := PyProof.Rows.sortedAll_at s.heap its out.toArray
        have hn : H (s.heap.objs.size + 1) = none := I.hok.fresh (Nat.le_succ _)
        have I2 : Inv X pins σ (upd H (s.heap.objs.size + 1) (.lst (((ws.zip ds).mergeSort (dataLe false fun b => b.2)).map (·.1)))) { s with heap := PyProof.Rows.sortedAll s.heap its out.toArray, toks := s.toks } := by
          refine I.laid (t' := s.toks) (fun _ _ q => PyProof.Rows.sortedAll_old q) (Nat.le_succ _) ⟨?_, out, c, v1, hc⟩
          rw [List.length_map, List.length_mergeSort, ← hlen, ← rr.length]
          exact hz
        refine ⟨.ref (s.heap.objs.size + 1), _, I2, rfl, k _ _ (same_new hn) (.lst (off_upd (new_out hL hn)) ?_)⟩
        have em : ((ws.zip ds).mergeSort (dataLe false fun b => b.2)).map (·.2) = sortD ds := by
          unfold sortD
          conv => rhs; rw [← hm]
          rw [List.map_mergeSort]
          intro a _ b _
          rfl
        rw [em] at v2
        exact v2.up (XT.same (same_new hn))
end
/-! texts: the order is that of their signs -/
def minW (a : List Nat) (l : List (List Nat)) : List Nat := l.foldl (fun a y => if y < a then y else a) a
theorem ltS (a b : List Nat) : dataLt (sD a) (sD b) = decide (a < b) := by
  rw [PySem.W.dataLt_str]
theorem minD_S (a : List Nat) (l : List (List Nat)) : minD (sD a) (l.map sD) = sD (minW a l) := by
  unfold minD minW
  induction l generalizing a with
  | nil => rfl
  | cons y l ih =>
    rw [List.map_cons, List.foldl_cons, List.foldl_cons, ltS]
    by_cases h : y < a
    · rw [if_pos (decide_eq_true h), if_pos h]
      exact ih y
    · rw [if_neg (by simpa using h), if_neg h]
      exact ih a
theorem alike_S {ws : List (List Nat)} : AlikeAll (ws.map sD) := ⟨fun x hx y hy => by
  obtain ⟨a, _, rfl⟩ := List.mem_map.mp hx
  obtain ⟨b, _, rfl⟩ := List.mem_map.mp hy
  simp only [alike], fun x hx => by
  obtain ⟨a, _, rfl⟩ := List.mem_map.mp hx
  intro e
  cases e⟩
theorem depth_S : ∀ ws : List (List Nat), PyData.depthAll (ws.map sD) = 0
  | [] => rfl
  | w :: ws => by
    rw [List.map_cons, PyData.depthAll, depth_S ws]
    rfl
theorem c_minS {X : Cx} {a : List Nat} {l : List (List Nat)} (hc : X.calm = true) (hu : X.A.units + 64 < cLine) : CallD X (.builtin "min") [wD (a :: l)] (sD (minW a l)) := by
  have h := c_minD (X := X) (x := sD a) (xs := l.map sD) hc hu (alike_S (ws := a :: l)) (by have := depth_S (a :: l); rw [List.map_cons] at this; omega) (nodAll_map (f := sD) (fun _ => rfl) (a :: l))
  rw [minD_S] at h
  exact h
end HW
set_option maxHeartbeats 4000000
namespace HW
open PySem PySem.Spec PyProof.Rows L2
open SX (S)
/-! ### turns that carry a fact -/
def SttP (K : PySem.W.Frag) (W : Wd) (Γ' : List DV) (μ' : Mu) (p : Prop) : L2.St → Hp → Prop := StP K W (fun Γ μ => wk Γ Γ' ∧ μ = μ' ∧ p)
section
variable {X : Cx} {W : Wd} {Γ Γ' : List DV} {μ μ' : Mu} {α : Type} {iter a b : Expr} {body rest : List Stmt} {pos p : Pos} {enc : α → PyData} {D : Ends} {n : Str} {c : Expr}
theorem run_eP {q : Prop} {rt : VK} {bk ct : L2.St → Hp → Prop} (hq : q) (hm : μ = μ' := by rfl) (w : wk Γ Γ' := by repeat (first | exact wk_n | refine wk_s ?_ | refine wk_0 ?_)) : Run X W Γ μ [] ⟨SttP X.K W Γ' μ' q, rt, bk, ct⟩ := run_turn rfl ⟨w, hm, hq⟩
theorem run_forP {xs : List α} (k : Nat) (hi : IterD X W Γ μ (.Name n p) iter enc xs) (Γ0 : Nat → List DV) (μ0 : Nat → Mu) (Pf : Nat → Prop) (h0 : Pf 0)
    (hs : ∀ W1, Wle W W1 → ∀ i x, xs[i]? = some x → Pf i → Run X W1 ((Γ0 i).set k (.d (enc x))) (μ0 i) body { D with nx := SttP X.K W1 (Γ0 (i + 1)) (μ0 (i + 1)) (Pf (i + 1)), ct := SttP X.K W1 (Γ0 (i + 1)) (μ0 (i + 1)) (Pf (i + 1)), bk := wSs X rest D })
    (hd' : Pf xs.length → Run X W (Γ0 xs.length) (μ0 xs.length) rest D) (hN : X.N.Nodup) (hm : μ = μ0 0 := by first | rfl | (simp; done)) (w : wk Γ (Γ0 0) := by repeat (first | exact wk_n | refine wk_s ?_ | refine wk_0 ?_)) (hn : X.N[k]? = some n := by rfl) (hx : Loc X.env.scope n := by first | exact Or.inl rfl | exact Or.inr rfl) (hff : X.fn n = true ∨ X.env.scope.names.lookup n = some .local := by first | exact .inr rfl | exact .inl rfl)
    (hp : PassesOwn (model X.prog X.w) X.A X.env X.xe := by exact PassesOwn.never) (hc : X.calm = true := by rfl) (hf : ∀ x, foldedSetIterable iter X.env x = pure x := by intro _; rfl) :
    Run X W Γ μ (.For (.Name n p) iter body [] pos :: rest) D :=
  run_for k hi (fun i Γ μ => wk Γ (Γ0 i) ∧ μ = μ0 i ∧ Pf i) ⟨w, hm, h0⟩ (fun W1 l i x Γ' μ' h ⟨w', e, q⟩ => by
    subst e
    exact run_weak (hs W1 l i x h q) (run_forS.wk_set w' k)) (fun Γ' μ' ⟨w', e, q⟩ => by
    subst e
    exact run_weak (hd' q) w') hN hn hx hff hp hc hf
end
/-! ### rings -/
def rots (r : List Nat) : List (List Nat) := (List.range r.length).map fun a => r.drop a ++ r.take a
def minR (r : List Nat) : List Nat := minW ((rots r).headD []) (rots r).tail
def ringOk (m r : List Nat) : Bool := decide (ringV r (seenL m)).Nodup && decide (r = minR r)
def ringsL (m : List Nat) (n L : Nat) : List (List Nat) := (lev m n L).filter (ringOk m)
theorem c_minSL {X : Cx} {ws : List (List Nat)} (hc : X.calm = true) (hu : X.A.units + 64 < cLine) (h : ws ≠ []) : CallD X (.builtin "min") [wD ws] (sD (minW (ws.headD []) ws.tail)) := by
  cases ws with
  | nil => exact absurd rfl h
  | cons a l => exact c_minS hc hu
theorem mem_words_iff {n : Nat} (hn : n ≤ 4) : ∀ {s : Nat} {v : List Nat}, v ∈ words n s → v.length = s ∧ lowL n v
  | 0, v, h => by
    have e : v = [] := by simpa [words] using h
    subst e
    exact ⟨rfl, fun c hc => nomatch hc⟩
  | s + 1, v, h => by
    obtain ⟨u, hu, hv⟩ := List.mem_flatMap.mp h
    obtain ⟨c, hc, rfl⟩ := List.mem_map.mp hv
    obtain ⟨h1, h2⟩ := mem_words_iff hn hu
    refine ⟨by simp [h1], fun x hx => ?_⟩
    rcases List.mem_append.mp hx with z | z
    · exact h2 x z
    · rw [List.mem_singleton.mp z]
      exact (mem_letL hn).mp hc
theorem mem_rings {m : List Nat} {n L : Nat} (hm : 1 ≤ m.length) (hn : n ≤ 4) {r : List Nat} (h : r ∈ ringsL m n L) : r.length = L ∧ lowL n r ∧ (ringV r (seenL m)).Nodup ∧ r = minR r := by
  obtain ⟨h1, h2⟩ := List.mem_filter.mp h
  obtain ⟨g1, g2, _⟩ := (mem_lev hm hn).mp h1
  unfold ringOk at h2
  rw [Bool.and_eq_true, decide_eq_true_iff, decide_eq_true_iff] at h2
  exact ⟨g1, g2, h2.1, h2.2⟩
def R_power (ds : List PyData) (d : PyData) : Prop := ∃ b n : Nat, ds = [nn b, nn n] ∧ b ≤ 4 ∧ n ≤ 12 ∧ d = nn (b ^ n)
def R_all_rings (ds : List PyData) (d : PyData) : Prop := ∃ (m : List Nat) (n L : Nat), ds = [sD m, nn n, nn L] ∧ Small m n ∧ 1 ≤ L ∧ L ≤ 16 ∧ d = wD (ringsL m n L)
def R_full_rings (ds : List PyData) (d : PyData) : Prop := ∃ (m : List Nat) (n : Nat), ds = [sD m, nn n] ∧ Small m n ∧ d = wD (ringsL m n (n ^ (seenL m).length))
def R_longest_ring (ds : List PyData) (d : PyData) : Prop := ∃ (m : List Nat) (n T : Nat), ds = [sD m, nn n] ∧ Small m n ∧ 1 ≤ T ∧ T ≤ n ^ (seenL m).length ∧ ringsL m n T ≠ [] ∧ (∀ L, T < L → L ≤ n ^ (seenL m).length → ringsL m n L = []) ∧ d = sD ((ringsL m n T).headD [])
theorem rots_ne {r : List Nat} (h : 1 ≤ r.length) : rots r ≠ [] := by
  intro e
  have h2 : (rots r).length = r.length := by simp [rots]
  rw [e] at h2
  simp at h2
  omega
end HW
set_option maxHeartbeats 4000000
namespace HW
open PySem PySem.Spec PyProof.Rows L2
open SX (S)
open PySem.W (dataLt minD maxD AlikeAll AllAlike Sortable EachIs dataLe alike)
/-! ### pairs (number, text) in order -/
abbrev prD (q : Nat × List Nat) : PyData := pr2 (nn q.1) (sD q.2)
def pLt (a b : Nat × List Nat) : Bool := decide (a.1 < b.1) || (decide (a.1 = b.1) && decide (a.2 < b.2))
theorem alike_pr (a b : Nat × List Nat) : alike (prD a) (prD b) = true := by simp [alike, PySem.W.alikeAll]
theorem eqv_S (a b : List Nat) : PyData.eqv (sD a) (sD b) = decide (a = b) := by
  show (S a == S b) = _
  rw [SX.S_beq_eq]
theorem lt_pr (a b : Nat × List Nat) : dataLt (prD a) (prD b) = pLt a b := by
  rw [PySem.W.dataLt_pair (by simp [alike]) (by simp [alike]), PySem.W.dataLt_int, ltS, eqv_S]
  have e : PyData.eqv (nn a.1) (nn b.1) = decide (a.1 = b.1) := by
    show ((a.1 : Int) == (b.1 : Int)) = _
    rw [Bool.eq_iff_iff, beq_iff_eq, decide_eq_true_iff]
    omega
  rw [e]
  unfold pLt
  by_cases h : a.1 = b.1
  · rw [if_pos (decide_eq_true h), decide_eq_true h, decide_eq_false (by omega : ¬ a.1 < b.1)]
    by_cases h2 : a.2 = b.2
    · rw [if_pos (decide_eq_true h2), h2]
      have : ¬ b.2 < b.2 := List.lt_irrefl _
      simp [this]
    · rw [if_neg (by simpa using h2)]
      simp
  · rw [if_neg (by simpa using h), decide_eq_false h, Bool.false_and, Bool.or_false]
    exact decide_eq_decide.mpr (by omega)
def minP (a : Nat × List Nat) (l : List (Nat × List Nat)) : Nat × List Nat := l.foldl (fun a y => if pLt y a = true then y else a) a
theorem minD_P (a : Nat × List Nat) (l : List (Nat × List Nat)) : minD (prD a) (l.map prD) = prD (minP a l) := by
  unfold minD minP
  induction l generalizing a with
  | nil => rfl
  | cons y l ih =>
    rw [List.map_cons, List.foldl_cons, List.foldl_cons, lt_pr]
    cases h : pLt y a with
    | true => exact ih y
    | false => exact ih a
section
variable {X : Cx}
theorem alikeP (ps : List (Nat × List Nat)) : AlikeAll (ps.map prD) := ⟨fun x hx y hy => by
  obtain ⟨a, _, rfl⟩ := List.mem_map.mp hx
  obtain ⟨b, _, rfl⟩ := List.mem_map.mp hy
  exact alike_pr a b, fun x hx => by
  obtain ⟨a, _, rfl⟩ := List.mem_map.mp hx
  intro e
  cases e⟩
theorem depthP : ∀ ps : List (Nat × List Nat), PyData.depthAll (ps.map prD) ≤ 1
  | [] => Nat.zero_le _
  | q :: ps => by
    rw [List.map_cons, PyData.depthAll]
    exact Nat.max_le.mpr ⟨by simp [PyData.depth, PyData.depthAll], depthP ps⟩
theorem c_minP {a : Nat × List Nat} {l : List (Nat × List Nat)} (hc : X.calm = true) (hu : X.A.units + 64 < cLine) : CallD X (.builtin "min") [.list (prD a :: l.map prD)] (prD (minP a l)) := by
  have h := c_minD (X := X) (x := prD a) (xs := l.map prD) hc hu (alikeP (a :: l)) (by have := depthP (a :: l); rw [List.map_cons] at this; omega) (nodAll_map (f := prD) (fun _ => rfl) (a :: l))
  rw [minD_P] at h
  exact h
end
/-! ### "".join of signs that are drawn -/
section
variable {X : Cx} {W : Wd} {Γ : List DV} {μ : Mu} {α : Type} {iter elt o : Expr} {scope : Scope} {pos pos2 apos p : Pos} {enc : α → PyData} {n : Str} {P : List α → Prop} {Q : Nat → Prop}
end
abbrev gMOST_MENDED (mg : Str → Option Value) : Prop := ∃ t, mg "MOST_MENDED" = some (.int 8 t)
/-! ### mending -/
def mendL (l m : List Nat) (n : Nat) : List (Nat × List Nat) := ((words n l.length).filter fun v => tellsB v m).map fun v => (unlikeN l v, v)
def mendO (ps : List (Nat × List Nat)) : PyData := match ps with
  | [] => .none
  | a :: l => prD (minP a l)
def R_mend (ds : List PyData) (d : PyData) : Prop := ∃ (l m : List Nat) (n : Nat), ds = [sD l, sD m, nn n] ∧ 1 ≤ n ∧ n ≤ 4 ∧ rowB l = true ∧ lowL n l ∧ maskB m = true ∧ l.length ≤ 8 ∧ d = mendO (mendL l m n)
theorem words_le8 {n k : Nat} (h1 : 1 ≤ n) (hn : n ≤ 4) (hk : k ≤ 8) : (words n k).length ≤ 65536 := Nat.le_trans (words_len hn k) (Nat.le_trans (Nat.pow_le_pow_left hn k) (Nat.le_trans (Nat.pow_le_pow_right (by decide) hk) (by decide)))
end HW
set_option maxHeartbeats 4000000
namespace HW
open PySem PySem.Spec PyProof.Rows L2
open SX (S)
open PySem.W (dataLt minD maxD AlikeAll AllAlike Sortable EachIs dataLe alike)
/-! ### a list in strict order is the sorted one -/
theorem perm_sorted {α : Type} {lt : α → α → Bool} (hirr : ∀ a, lt a a = false) : ∀ {zs s : List α}, s.Perm zs → s.Pairwise (fun a b => lt b a = false) → zs.Pairwise (fun a b => lt a b = true) → s = zs
  | [], s, hp, _, _ => List.Perm.eq_nil hp
  | z :: zs, [], hp, _, _ => by have := hp.length_eq; simp at this
  | z :: zs, x :: s, hp, h1, h2 => by
    have hx : x ∈ z :: zs := hp.mem_iff.mp List.mem_cons_self
    have hz : z ∈ x :: s := hp.mem_iff.mpr List.mem_cons_self
    have e : x = z := by
      rcases List.mem_cons.mp hx with e | hx
      · exact e
      · rcases List.mem_cons.mp hz with e | hz
        · exact e.symm
        · have a := (List.pairwise_cons.mp h2).1 x hx
          have b := (List.pairwise_cons.mp h1).1 z hz
          rw [a] at b
          cases b
    subst e
    rw [perm_sorted hirr (List.Perm.cons_inv hp) (List.pairwise_cons.mp h1).2 (List.pairwise_cons.mp h2).2]
theorem sortD_of {ds zs : List PyData} (hp : ds.Perm zs) (h : zs.Pairwise fun a b => dataLt a b = true) : sortD ds = zs := by
  refine perm_sorted (lt := dataLt) (fun d => PyProof.Rows.lex_irrefl (O := PyProof.Rows.itemOrd) _) ((List.mergeSort_perm ds _).trans hp) ?_ h
  have := PySem.W.sort_pairwise (PySem.W.sortLe_total (PyProof.Rows.listOrd PyProof.Rows.itemOrd) false fun b : PyData => PySem.W.keyToks (id b)) ds
  refine this.imp fun {a b} q => ?_
  have q' : (!dataLt b a) = true := q
  simpa using q'
/-! ### looks -/
def lookB (m t : List Nat) : Bool := decide (t.length = (seenL m).length) && t.all fun c => decide (c ∈ [97, 98, 99, 100, 63])
def missN (v t : List Nat) : Nat := ((v.zip t).filter fun q => decide (q.2 ≠ 63) && decide (q.1 ≠ q.2)).length
def R_is_view (ds : List PyData) (d : PyData) : Prop := ∃ m t : List Nat, ds = [sD m, sD t] ∧ m.length ≤ 4000 ∧ lookB m t = true ∧ d = .bool true
def R_misses (ds : List PyData) (d : PyData) : Prop := ∃ v t : List Nat, ds = [sD v, sD t] ∧ v.length ≤ 4000 ∧ t.length ≤ 4000 ∧ d = nn (missN v t)
theorem lookB_iff {m t : List Nat} : lookB m t = true ↔ t.length = (seenL m).length ∧ ∀ c ∈ t, c = 63 ∨ 97 ≤ c ∧ c < 101 := by
  unfold lookB
  rw [Bool.and_eq_true, decide_eq_true_iff, List.all_eq_true]
  constructor
  · rintro ⟨h1, h2⟩
    exact ⟨h1, fun c hc => by have := of_decide_eq_true (h2 c hc); simp at this; omega⟩
  · rintro ⟨h1, h2⟩
    exact ⟨h1, fun c hc => decide_eq_true (by have := h2 c hc; simp; omega)⟩
theorem maskB_seen {m : List Nat} (h : maskB m = true) : 1 ≤ (seenL m).length := by
  have h0 := open_head h
  rw [open_seen] at h0
  cases e : seenL m with
  | nil => rw [e] at h0; cases h0
  | cons a l => simp
/-! ### either way -/
abbrev Stand := Nat × Bool
def backL (l m : List Nat) (p : Nat) : List Nat := (seenL m).map fun a => l.getD (p - a) 0
def standAt (l m : List Nat) (p : Nat) : List (Stand × List Nat) := (if m.length ≤ p + 1 then [((p, false), backL l m p)] else []) ++ (if p + m.length ≤ l.length then [((p, true), viewL l m p)] else [])
end HW
set_option maxHeartbeats 4000000
namespace HW
open PySem PySem.Spec PyProof.Rows L2
open SX (S)
section
variable {X : Cx} {W : Wd} {Γ Γ' : List DV} {μ μ' : Mu} {α : Type} {iter : Expr} {body rest : List Stmt} {pos : Pos} {D : Ends}
/-- for n1, n2 in iter, with a fact -/
theorem run_for2P {xs : List α} {n1 n2 : Str} {p1 p2 tpos : Pos} {kk : Nat} {e1 e2 : α → PyData} (k1 k2 : Nat) (hi : IterD X W Γ μ (.Tuple [.Name n1 p1, .Name n2 p2] kk tpos) iter (fun x => pr2 (e1 x) (e2 x)) xs) (Γ0 : Nat → List DV) (μ0 : Nat → Mu) (Pf : Nat → Prop) (h0 : Pf 0)
    (hs : ∀ W1, Wle W W1 → ∀ i x, xs[i]? = some x → Pf i → Run X W1 (((Γ0 i).set k1 (.d (e1 x))).set k2 (.d (e2 x))) (μ0 i) body { D with nx := SttP X.K W1 (Γ0 (i + 1)) (μ0 (i + 1)) (Pf (i + 1)), ct := SttP X.K W1 (Γ0 (i + 1)) (μ0 (i + 1)) (Pf (i + 1)), bk := wSs X rest D })
    (hd' : Pf xs.length → Run X W (Γ0 xs.length) (μ0 xs.length) rest D) (hN : X.N.Nodup) (hm : μ = μ0 0 := by first | rfl | (simp; done)) (w : wk Γ (Γ0 0) := by repeat (first | exact wk_n | refine wk_s ?_ | refine wk_0 ?_)) (hn1 : X.N[k1]? = some n1 := by rfl) (hn2 : X.N[k2]? = some n2 := by rfl) (hx1 : Loc X.env.scope n1 := by first | exact Or.inl rfl | exact Or.inr rfl) (hx2 : Loc X.env.scope n2 := by first | exact Or.inl rfl | exact Or.inr rfl)
    (hf1 : X.fn n1 = true ∨ X.env.scope.names.lookup n1 = some .local := by first | exact .inr rfl | exact .inl rfl) (hf2 : X.fn n2 = true ∨ X.env.scope.names.lookup n2 = some .local := by first | exact .inr rfl | exact .inl rfl)
    (hp : PassesOwn (model X.prog X.w) X.A X.env X.xe := by exact PassesOwn.never) (hc : X.calm = true := by rfl) (hf : ∀ x, foldedSetIterable iter X.env x = pure x := by intro _; rfl) :
    Run X W Γ μ (.For (.Tuple [.Name n1 p1, .Name n2 p2] kk tpos) iter body [] pos :: rest) D :=
  run_for2 k1 k2 hi (fun i Γ μ => wk Γ (Γ0 i) ∧ μ = μ0 i ∧ Pf i) ⟨w, hm, h0⟩ (fun W1 l i x Γ' μ' h ⟨w', e, q⟩ => by
    subst e
    exact run_weak (hs W1 l i x h q) (run_forS.wk_set (run_forS.wk_set w' k1) k2)) (fun Γ' μ' ⟨w', e, q⟩ => by
    subst e
    exact run_weak (hd' q) w') hN hn1 hn2 hx1 hx2 hf1 hf2 hp hc hf
end
section
variable {X : Cx} {W : Wd} {Γ : List DV} {μ : Mu} {a b : Expr} {pos p p2 : Pos} {n : Str} {r scr : Addr} {ns : List Int} {k : Nat} {l m : List Nat}
end
/-! ### the first like ones -/
abbrev gOPENm (mg : Str → Option Value) : Prop := ∃ t, mg "OPEN" = some (.str "?" t)
end HW
set_option maxHeartbeats 4000000
namespace HW
open PySem PySem.Spec PyProof.Rows L2
open SX (S)
/-! ### local dicts whose keys are numbers or texts -/
section
variable {κ : Type} [DecidableEq κ]
def vK (kvs : List (κ × PyData)) (k : κ) : Option PyData := (kvs.find? fun kv => decide (kv.1 = k)).map (·.2)
def pK (kvs : List (κ × PyData)) (k : κ) (d : PyData) : List (κ × PyData) := if (kvs.any fun kv => decide (kv.1 = k)) = true then kvs.map fun kv => if kv.1 = k then (kv.1, d) else kv else kvs ++ [(k, d)]
end
abbrev kS (l : List Nat) : L2.Key := .inr (S l)
section
variable {κ : Type} [DecidableEq κ] {K : PySem.W.Frag} {H : Hp} {ks : List (κ × V)} {kvs : List (κ × PyData)} {k : κ} {v : V} {d : PyData}
abbrev KvR (K : PySem.W.Frag) (H : Hp) (ks : List (κ × V)) (kvs : List (κ × PyData)) : Prop := Paired (fun (p : κ × V) (q : κ × PyData) => p.1 = q.1 ∧ Va K H p.2 q.2) ks kvs
theorem kv_val (k : κ) : ∀ {ks : List (κ × V)} {kvs : List (κ × PyData)}, KvR K H ks kvs → (valV ks k = none ∧ vK kvs k = none) ∨ ∃ v d, valV ks k = some v ∧ vK kvs k = some d ∧ Va K H v d
  | _, _, .nil => .inl ⟨rfl, rfl⟩
  | p :: ks, q :: kvs, .cons h t => by
    by_cases e : q.1 = k
    · have e2 : p.1 = k := h.1.trans e
      exact .inr ⟨p.2, q.2, by simp [valV, e2], by simp [vK, e], h.2⟩
    · have e2 : ¬ p.1 = k := fun z => e (h.1.symm.trans z)
      rcases kv_val k t with ⟨h1, h2⟩ | ⟨v, d, h1, h2, h3⟩
      · exact .inl ⟨by rw [valV_neg e2, h1], by simpa [vK, e] using h2⟩
      · exact .inr ⟨v, d, by rw [valV_neg e2, h1], by simpa [vK, e] using h2, h3⟩
theorem kv_any (k : κ) : ∀ {ks : List (κ × V)} {kvs : List (κ × PyData)}, KvR K H ks kvs → (ks.any fun kv => decide (kv.1 = k)) = kvs.any fun kv => decide (kv.1 = k)
  | _, _, .nil => rfl
  | p :: ks, q :: kvs, .cons h t => by rw [List.any_cons, List.any_cons, kv_any k t, h.1]
theorem kv_map (k : κ) (r : Va K H v d) : ∀ {ks : List (κ × V)} {kvs : List (κ × PyData)}, KvR K H ks kvs → KvR K H (ks.map fun kv => if kv.1 = k then (kv.1, v) else kv) (kvs.map fun kv => if kv.1 = k then (kv.1, d) else kv)
  | _, _, .nil => .nil
  | p :: ks, q :: kvs, .cons h t => by
    refine .cons ?_ (kv_map k r t)
    show ((if p.1 = k then (p.1, v) else p) : κ × V).1 = ((if q.1 = k then (q.1, d) else q) : κ × PyData).1 ∧ Va K H ((if p.1 = k then (p.1, v) else p) : κ × V).2 ((if q.1 = k then (q.1, d) else q) : κ × PyData).2
    by_cases e : q.1 = k
    · have e2 : p.1 = k := h.1.trans e
      rw [if_pos e, if_pos e2]
      exact ⟨h.1, r⟩
    · have e2 : ¬ p.1 = k := fun z => e (h.1.symm.trans z)
      rw [if_neg e, if_neg e2]
      exact h
theorem kv_put (k : κ) (r : KvR K H ks kvs) (rv : Va K H v d) : KvR K H (putK ks k v) (pK kvs k d) := by
  unfold putK pK
  rw [kv_any k r]
  by_cases h : (kvs.any fun kv => decide (kv.1 = k)) = true
  · rw [if_pos h, if_pos h]
    exact kv_map k rv r
  · rw [if_neg h, if_neg h]
    exact psnoc r ⟨rfl, rv⟩
theorem pK_new {kvs : List (κ × PyData)} {k : κ} {d : PyData} (h : vK kvs k = none) : pK kvs k d = kvs ++ [(k, d)] := by
  unfold pK
  rw [if_neg]
  intro h2
  obtain ⟨q, hq, e⟩ := List.any_eq_true.mp h2
  unfold vK at h
  rw [Option.map_eq_none_iff] at h
  have := List.find?_eq_none.mp h q hq
  exact this e
end
theorem va_key {K : PySem.W.Frag} {H : Hp} {v : V} {k : L2.Key} (h : Va K H v (kD k)) : v = kV k := by
  cases k <;> cases h <;> rfl
section
variable {X : Cx} {W W0 : Wd} {Γ : List DV} {μ : Mu} {e b value : Expr} {rest : List Stmt} {D : Ends} {pos p p1 p2 pd pos' : Pos} {n n1 n2 : Str} {k : L2.Key} {kvs : List (L2.Key × PyData)} {l : Addr} {d y : PyData}
/-- x = {} -/
theorem run_newD (i : Nat) {p2 : Pos} (h : ∀ l, Run X W (Γ.set i (.r l)) ((l, .dK []) :: μ) rest D) (nd : X.N.Nodup) (hN : X.N[i]? = some n := by rfl) (hx : Loc X.env.scope n := by first | exact Or.inl rfl | exact Or.inr rfl)
    (hs : swapsWith (.Dict [] [] p2) (some (.Name n p)) pos.line X.env = pure false := by rfl) (hf : X.fn n = true ∨ X.env.scope.names.lookup n = some .local := by first | exact .inr rfl | exact .inl rfl) : Run X W Γ μ (.Assign [.Name n p] (.Dict [] [] p2) pos :: rest) D := fun σ H R =>
  wSs_cons ((ps_set nd hN hx pe_dnewK hs hf).w fun l hl => h l _ _ (by
    have R1 := R.born (m := .dK []) (o := .dK []) hl ⟨[], upd_same, .nil⟩
    exact ⟨R1.wd, R1.fr, R1.sl.setr i, R1.mu, R1.nd⟩))
/-- d[e] = value -/
theorem run_dputP {P : PyData → Prop} (i j : Nat) (hu : X.A.units + 64 < cLine) (hv : Ev X W Γ μ value P) (he : Ed X W Γ μ e (kD k)) (hl : kvs.length < 16777216) (h : ∀ d, P d → Run X W Γ (μ.set j (l, .dK (pK kvs k d))) rest D) (hi : Γ[i]? = some (.r l) := by rfl) (hj : μ[j]? = some (l, .dK kvs) := by rfl) (hN : X.N[i]? = some n := by rfl) (hvs : Vis X.env.scope n := by first | exact Or.inl rfl | exact Or.inr (Or.inl rfl) | exact Or.inr (Or.inr rfl))
    (h1 : (n == ("__debug__" : Str)) = false := by decide) (h2 : (n == ("__classdict__" : Str)) = false := by decide) (hs : swapsWith value (some (.Subscript (.Name n p) e pos')) pos.line X.env = pure false := by rfl) :
    Run X W Γ μ (.Assign [.Subscript (.Name n p) e pos'] value pos :: rest) D := fun σ H R => by
  refine wSs_cons ((ps_dput (by omega) (pe_var hN hvs h1 h2) wE.pe wE.pe hs).w (hv σ H R _ fun v d H2 R2 e2 r2 pd => ?_))
  obtain ⟨o, g1, g2⟩ := R2.sl.at_ i _ hi
  have g2' : o = some (.ref l) := g2
  subst g2'
  refine ⟨_, g1, he σ H2 R2 _ fun u H3 R3 e3 r3 => ?_⟩
  obtain ⟨ks, hk, hp⟩ := (R3.mu _ (List.mem_of_getElem? hj)).2
  have ev := va_key r3
  subst ev
  have hlen : ks.length < sizeLine := by
    rw [plen hp, sizeLine_eq]
    exact hl
  exact ⟨l, _, rfl, DPut.k hk hlen, h d pd _ _ (R3.chg hj ⟨_, upd_same, kv_put k hp (r2.up e3)⟩)⟩
theorem run_dput (i j : Nat) (hu : X.A.units + 64 < cLine) (hv : Ed X W Γ μ value d) (he : Ed X W Γ μ e (kD k)) (hl : kvs.length < 16777216) (h : Run X W Γ (μ.set j (l, .dK (pK kvs k d))) rest D) (hi : Γ[i]? = some (.r l) := by rfl) (hj : μ[j]? = some (l, .dK kvs) := by rfl) (hN : X.N[i]? = some n := by rfl) (hvs : Vis X.env.scope n := by first | exact Or.inl rfl | exact Or.inr (Or.inl rfl) | exact Or.inr (Or.inr rfl))
    (h1 : (n == ("__debug__" : Str)) = false := by decide) (h2 : (n == ("__classdict__" : Str)) = false := by decide) (hs : swapsWith value (some (.Subscript (.Name n p) e pos')) pos.line X.env = pure false := by rfl) :
    Run X W Γ μ (.Assign [.Subscript (.Name n p) e pos'] value pos :: rest) D := run_dputP i j hu hv.ev he hl (fun _ q => q ▸ h) hi hj hN hvs h1 h2 hs
end
/-! ### xs.index(text); x or "a" -/
section
variable {X : Cx} {W : Wd} {Γ : List DV} {μ : Mu} {o e a b : Expr} {apos pos : Pos} {ws : List (List Nat)} {w : List Nat} {j : Nat}
theorem eqV_S (a b : List Nat) : eqV (V.str (S a)) (V.str (S b)) = decide (a = b) := by
  show (S a == S b) = _
  rw [SX.S_beq_eq]
end
/-! ### draws of great numbers -/
section
variable {X : Cx} {W : Wd} {Γ : List DV} {μ : Mu} {a : Expr} {pos p p2 : Pos} {n : Str} {r scr : Addr} {ns : List Int} {k : Nat}
end
end HW
set_option maxHeartbeats 4000000
namespace HW
open PySem PySem.Spec PyProof.Rows L2
open SX (S)
/-! ### rows without end -/
theorem kS_inj {a b : List Nat} (h : kS a = kS b) : a = b := S_inj (Sum.inr.inj h)
end HW
set_option maxHeartbeats 4000000
namespace HW
open PySem PySem.Spec PyProof.Rows L2
open SX (S)
/-! ### local lists: copied, read, written at a place -/
section
variable {X : Cx} {W W0 : Wd} {Γ : List DV} {μ : Mu} {e value i' : Expr} {rest : List Stmt} {D : Ends} {pos p p1 p2 pos' : Pos} {n : Str} {l : Addr} {d y : PyData} {ds ys : List PyData} {z : Int}
/-- x = list(e), a new local list -/
theorem run_copyL (i : Nat) (he : Ed X W Γ μ e (.list ds)) (h : ∀ l, Run X W (Γ.set i (.r l)) ((l, .lst ds) :: μ) rest D) (hm : X.mg "list" = none) (nd : X.N.Nodup) (hN : X.N[i]? = some n := by rfl) (hg : Gl X "list" := by rfl) (hx : Loc X.env.scope n := by first | exact Or.inl rfl | exact Or.inr rfl)
    (hs1 : starEach [e] X.env = (false, eval e X.env) :: starEach [] X.env := by rfl) (hpl : (backTo pos' (starEach [] X.env)).any (·.1) = false := by rfl)
    (hs : swapsWith (.Call (.Name "list" p2) [e] [] pos') (some (.Name n p)) pos.line X.env = pure false := by rfl) (hf : X.fn n = true ∨ X.env.scope.names.lookup n = some .local := by first | exact .inr rfl | exact .inl rfl) : Run X W Γ μ (.Assign [.Name n p] (.Call (.Name "list" p2) [e] [] pos') pos :: rest) D := fun σ H R => by
  refine wSs_cons ((ps_set nd hN hx (pe_callTy call_list_of hg hm boot_list (pa_cons wE.pe pa_nil hs1) (by decide) (by decide) hs1 hpl) hs hf).w ?_)
  refine he σ H R _ fun v H2 R2 e2 r2 => ?_
  cases r2 with
  | lst ha hv =>
    refine ⟨_, _, rfl, .inl (SqL.of (off_some ha).2), fun a hna => h a _ _ ?_⟩
    have R3 := R2.born (m := .lst ds) (o := .lst _) hna ⟨_, upd_same, hv⟩
    exact ⟨R3.wd, R3.fr, R3.sl.setr i, R3.mu, R3.nd⟩
/-- x[e] of a local list -/
theorem ed_lix (i j k : Nat) (he : Ed X W Γ μ e (.int z)) (hk : ys[k]? = some d) (ez : z = (k : Int) := by rfl) (hi : Γ[i]? = some (.r l) := by rfl) (hj : μ[j]? = some (l, .lst ys) := by rfl) (hN : X.N[i]? = some n := by rfl) (hv : Vis X.env.scope n := by first | exact Or.inl rfl | exact Or.inr (Or.inl rfl) | exact Or.inr (Or.inr rfl))
    (h1 : (n == ("__debug__" : Str)) = false := by decide) (h2 : (n == ("__classdict__" : Str)) = false := by decide) (hs : PlainIx e := by exact fun _ _ => rfl) : Ed X W Γ μ (.Subscript (.Name n p) e pos) d := fun σ H R Q q => by
  refine (pe_ix ix_list (pe_var hN hv h1 h2) wE.pe hs).w ?_
  obtain ⟨o, g1, g2⟩ := R.sl.at_ i _ hi
  have g2' : o = some (.ref l) := g2
  subst g2'
  refine ⟨_, g1, he σ H R _ fun v H2 R2 e2 r2 => ?_⟩
  cases r2
  obtain ⟨xs, hx, hxv⟩ := (R2.mu _ (List.mem_of_getElem? hj)).2
  obtain ⟨u, hu, ru⟩ := hxv.at hk
  exact ⟨l, xs, z, u, rfl, rfl, SqL.of hx, at_nat ez hu, q u H2 R2 e2 ru⟩
theorem vaAll_set {K : PySem.W.Frag} {H : Hp} {v : V} {d : PyData} (r : Va K H v d) : ∀ {vs : List V} {ds : List PyData} (k : Nat), VaAll K H vs ds → VaAll K H (vs.set k v) (ds.set k d)
  | _, _, _, .nil => .nil
  | _, _, 0, .cons _ t => .cons r t
  | _, _, k + 1, .cons h t => .cons h (vaAll_set r k t)
/-- x[e] = value, x a local list -/
theorem run_lset (i j k : Nat) (hv : Ed X W Γ μ value d) (he : Ed X W Γ μ e (.int z)) (hk : k < ys.length) (h : Run X W Γ (μ.set j (l, .lst (ys.set k d))) rest D) (ez : z = (k : Int) := by rfl) (hi : Γ[i]? = some (.r l) := by rfl) (hj : μ[j]? = some (l, .lst ys) := by rfl) (hN : X.N[i]? = some n := by rfl) (hvs : Vis X.env.scope n := by first | exact Or.inl rfl | exact Or.inr (Or.inl rfl) | exact Or.inr (Or.inr rfl))
    (h1 : (n == ("__debug__" : Str)) = false := by decide) (h2 : (n == ("__classdict__" : Str)) = false := by decide)
    (hsw : swapsWithSole [.Subscript (.Name n p) e pos'] value pos.line X.env = pure false := by rfl) (hw : swappedStores [.Subscript (.Name n p) e pos'] value X.env = pure none := by rfl)
    (ha : (assignEach [.Subscript (.Name n p) e pos'] X.env).map (·.2) = [assign (.Subscript (.Name n p) e pos') X.env] := by rfl)
    (hasg : ∀ v, assign (.Subscript (.Name n p) e pos') X.env v = (do let ov ← holding [v] (eval (.Name n p) X.env); let iv ← holding [v, ov] (eval e X.env); PySem.standAt pos'; holding [v, ov, iv] (setItem ov iv v); release [v, ov, iv] []) := by intro _; rfl) :
    Run X W Γ μ (.Assign [.Subscript (.Name n p) e pos'] value pos :: rest) D := fun σ H R => by
  refine wSs_cons ((ps_asg wE.pe (pg_sub (pe_var hN hvs h1 h2) wE.pe set_list hasg) hsw hw ha).w (hv σ H R _ fun v H2 R2 e2 r2 => ?_))
  obtain ⟨o, g1, g2⟩ := R2.sl.at_ i _ hi
  have g2' : o = some (.ref l) := g2
  subst g2'
  refine ⟨_, g1, he σ H2 R2 _ fun u H3 R3 e3 r3 => ?_⟩
  cases r3
  obtain ⟨xs, hx, hxv⟩ := (R3.mu _ (List.mem_of_getElem? hj)).2
  refine ⟨l, xs, z, k, rfl, rfl, hx, ?_, h _ _ (R3.chg hj ⟨_, upd_same, vaAll_set (r2.up e3) k hxv⟩)⟩
  subst ez
  unfold ixN
  rw [if_pos (Int.natCast_nonneg k), if_pos (by rw [hxv.length]; omega)]
  rfl
/-- isinstance(e, (A, B)) -/
theorem ed_isi2 {T1 T2 : String} {n1 n2 : Str} {b : Bool} {kt : Nat} {pt q1 q2 : Pos} (he : Ed X W Γ μ e d) (hm : X.mg "isinstance" = none) (hm1 : X.mg n1 = none) (hv1 : bootBuiltins n1 = some (.type T1)) (hm2 : X.mg n2 = none) (hv2 : bootBuiltins n2 = some (.type T2)) (hk : ∀ K, PySem.W.kitAny K (.type (tyD d)) [.type T1, .type T2] = some b := by intro K; rfl) (hp : isPtr d = false := by first | rfl | assumption) (hg : Gl X "isinstance" := by rfl) (hg1 : Gl X n1 := by rfl) (hg2 : Gl X n2 := by rfl)
    (hn1 : n1 ≠ "__name__" := by decide) (hd1 : (n1 == ("__debug__" : Str)) = false := by decide) (hn2 : n2 ≠ "__name__" := by decide) (hd2 : (n2 == ("__debug__" : Str)) = false := by decide)
    (hs : starEach [e, .Tuple [.Name n1 q1, .Name n2 q2] kt pt] X.env = (false, eval e X.env) :: starEach [.Tuple [.Name n1 q1, .Name n2 q2] kt pt] X.env := by rfl) (hs2 : starEach [.Tuple [.Name n1 q1, .Name n2 q2] kt pt] X.env = (false, eval (.Tuple [.Name n1 q1, .Name n2 q2] kt pt) X.env) :: starEach [] X.env := by rfl) (hpl : (backTo pos (starEach [.Tuple [.Name n1 q1, .Name n2 q2] kt pt] X.env)).any (·.1) = false := by rfl)
    (hs3 : starEach [.Name n1 q1, .Name n2 q2] X.env = (false, eval (.Name n1 q1) X.env) :: starEach [.Name n2 q2] X.env := by rfl) (hs4 : starEach [.Name n2 q2] X.env = (false, eval (.Name n2 q2) X.env) :: starEach [] X.env := by rfl) :
    Ed X W Γ μ (.Call (.Name "isinstance" p) [e, .Tuple [.Name n1 q1, .Name n2 q2] kt pt] [] pos) (.bool b) := fun σ H R Q q => by
  refine (pe_callB call_isiT hg hm boot_isinstance (pa_cons wE.pe (pa_cons (pe_tup (pa_cons (pe_bltn (v := .ty T1) hg1 hm1 hv1 rfl hn1 hd1) (pa_cons (pe_bltn (v := .ty T2) hg2 hm2 hv2 rfl hn2 hd2) pa_nil hs4) hs3)) pa_nil hs2) hs) (by decide) (by decide) hs hpl).w (he σ H R _ fun v H2 R2 e2 r2 => ?_)
  refine ⟨by show 2 ≤ sizeLine; decide, fun t ht => ?_⟩
  have sm := same_new (o := HO.tup [.ty T1, .ty T2]) ht
  have r3 := r2.up (XT.same (L := hd W μ) sm)
  exact ⟨_, t, _, _, _, b, rfl, upd_same, .cons (.ty T1) (.cons (.ty T2) .nil), va_ty r3 hp, hk _, q _ _ (R2.same sm) (e2.trans (XT.same sm)) (.bl b)⟩
end
/-! ### rows put together -/
def layS (p : Nat) (acc : Option (List Nat)) (q : Nat × Nat) : Option (List Nat) := match acc with
  | none => none
  | some f => if q.1 = 63 then some f else if f.getD (p + q.2) 0 ∈ [63, q.1] then some (f.set (p + q.2) q.1) else none
def laidL (m f : List Nat) (p : Nat) (v : List Nat) : Option (List Nat) := (v.zip (seenL m)).foldl (layS p) (some f)
def clashGo (m : List Nat) : Nat → List Nat → List (List Nat) → List Nat × Option Nat
  | _, f, [] => (f, none)
  | p, f, v :: vs => match laidL m f p v with
    | none => (f, some p)
    | some g => clashGo m (p + 1) g vs
abbrev gL (f : List Nat) : PyData := .list (f.map sg)
def optL : Option (List Nat) → PyData
  | none => .none
  | some f => gL f
theorem lay_none (p : Nat) : ∀ qs : List (Nat × Nat), qs.foldl (layS p) none = none
  | [] => rfl
  | q :: qs => lay_none p qs
theorem layS_len {p : Nat} {f g : List Nat} {q : Nat × Nat} (h : layS p (some f) q = some g) : g.length = f.length := by
  simp only [layS] at h
  split at h
  · cases h; rfl
  · split at h
    · cases h
      exact List.length_set
    · cases h
theorem lay_len {p : Nat} : ∀ {qs : List (Nat × Nat)} {f g : List Nat}, qs.foldl (layS p) (some f) = some g → g.length = f.length
  | [], f, g, h => by cases h; rfl
  | q :: qs, f, g, h => by
    rw [List.foldl_cons] at h
    cases e : layS p (some f) q with
    | none => rw [e, lay_none] at h; cases h
    | some f2 =>
      rw [e] at h
      rw [lay_len h, layS_len e]
theorem laid_len {m f v g : List Nat} {p : Nat} (h : laidL m f p v = some g) : g.length = f.length := lay_len h
/-- up to the i-th sign -/
def layI (m f : List Nat) (p : Nat) (v : List Nat) (i : Nat) : Option (List Nat) := ((v.zip (seenL m)).take i).foldl (layS p) (some f)
theorem layI_succ {m f v : List Nat} {p i : Nat} {q : Nat × Nat} (h : (v.zip (seenL m))[i]? = some q) : layI m f p v (i + 1) = layS p (layI m f p v i) q := by
  unfold layI
  rw [List.take_add_one, h, List.foldl_append]
  rfl
theorem layI_stop {m f v : List Nat} {p i : Nat} (h : layI m f p v i = none) : laidL m f p v = none := by
  unfold laidL
  unfold layI at h
  rw [← List.take_append_drop i (v.zip (seenL m)), List.foldl_append, h, lay_none]
def clashL (m : List Nat) (vs : List (List Nat)) : List Nat × Option Nat := clashGo m 0 (List.replicate (m.length + vs.length - 1) 63) vs
theorem clashGo_some {m : List Nat} : ∀ (vs : List (List Nat)) (p : Nat) (f : List Nat) (i : Nat) (g v : List Nat), clashGo m p f (vs.take i) = (g, none) → vs[i]? = some v → laidL m g (p + i) v = none → clashGo m p f vs = (g, some (p + i))
  | [], p, f, i, g, v, h1, h2, h3 => by simp at h2
  | u :: vs, p, f, 0, g, v, h1, h2, h3 => by
    cases h1
    cases h2
    unfold clashGo
    have h3' : laidL m f p u = none := h3
    rw [h3']
    rfl
  | u :: vs, p, f, i + 1, g, v, h1, h2, h3 => by
    rw [List.take_succ_cons] at h1
    unfold clashGo at h1 ⊢
    cases e : laidL m f p u with
    | none =>
      rw [e] at h1
      exact absurd (congrArg Prod.snd h1) (by simp)
    | some f' =>
      rw [e] at h1
      have ep : p + 1 + i = p + (i + 1) := by omega
      have z := clashGo_some vs (p + 1) f' i g v h1 (by simpa using h2) (by rw [ep]; exact h3)
      show clashGo m (p + 1) f' vs = _
      rw [z, ep]
theorem clashGo_step {m : List Nat} : ∀ (vs : List (List Nat)) (p : Nat) (f : List Nat) (i : Nat) (g v g' : List Nat), clashGo m p f (vs.take i) = (g, none) → vs[i]? = some v → laidL m g (p + i) v = some g' → clashGo m p f (vs.take (i + 1)) = (g', none)
  | [], p, f, i, g, v, g', h1, h2, h3 => by simp at h2
  | u :: vs, p, f, 0, g, v, g', h1, h2, h3 => by
    cases h1
    cases h2
    rw [List.take_succ_cons]
    unfold clashGo
    have h3' : laidL m f p u = some g' := h3
    rw [h3']
    rfl
  | u :: vs, p, f, i + 1, g, v, g', h1, h2, h3 => by
    rw [List.take_succ_cons] at h1 ⊢
    unfold clashGo at h1 ⊢
    cases e : laidL m f p u with
    | none =>
      rw [e] at h1
      exact absurd (congrArg Prod.snd h1) (by simp)
    | some f' =>
      rw [e] at h1
      exact clashGo_step vs (p + 1) f' i g v g' h1 (by simpa using h2) (by
        have ep : p + 1 + i = p + (i + 1) := by omega
        rw [ep]
        exact h3)
theorem clash_len {m : List Nat} : ∀ (vs : List (List Nat)) (p : Nat) (f : List Nat), (clashGo m p f vs).1.length = f.length
  | [], p, f => rfl
  | v :: vs, p, f => by
    unfold clashGo
    cases e : laidL m f p v with
    | none => rfl
    | some g =>
      show (clashGo m (p + 1) g vs).1.length = _
      rw [clash_len vs (p + 1) g, laid_len e]
/-- signs of looks -/
def lkS (f : List Nat) : Prop := ∀ c ∈ f, c = 63 ∨ 97 ≤ c ∧ c < 101
theorem layS_signs {p : Nat} {f g : List Nat} {q : Nat × Nat} (hq : q.1 = 63 ∨ 97 ≤ q.1 ∧ q.1 < 101) (hf : lkS f) (h : layS p (some f) q = some g) : lkS g := by
  simp only [layS] at h
  split at h
  · cases h; exact hf
  · split at h
    · cases h
      intro c hc
      rcases List.mem_or_eq_of_mem_set hc with z | z
      · exact hf c z
      · rw [z]; exact hq
    · cases h
theorem lay_signs {p : Nat} : ∀ {qs : List (Nat × Nat)} {f g : List Nat}, (∀ q ∈ qs, q.1 = 63 ∨ 97 ≤ q.1 ∧ q.1 < 101) → lkS f → qs.foldl (layS p) (some f) = some g → lkS g
  | [], f, g, _, hf, h => by cases h; exact hf
  | q :: qs, f, g, hq, hf, h => by
    rw [List.foldl_cons] at h
    cases e : layS p (some f) q with
    | none => rw [e, lay_none] at h; cases h
    | some f2 =>
      rw [e] at h
      exact lay_signs (fun x hx => hq x (List.mem_cons_of_mem _ hx)) (layS_signs (hq q List.mem_cons_self) hf e) h
theorem clash_signs {m : List Nat} : ∀ (vs : List (List Nat)) (p : Nat) (f : List Nat), (∀ v ∈ vs, lkS v) → lkS f → lkS (clashGo m p f vs).1
  | [], p, f, _, hf => hf
  | v :: vs, p, f, hv, hf => by
    unfold clashGo
    cases e : laidL m f p v with
    | none => exact hf
    | some g =>
      refine clash_signs vs (p + 1) g (fun u hu => hv u (List.mem_cons_of_mem _ hu)) (lay_signs (p := p) (fun q hq => ?_) hf e)
      exact hv v List.mem_cons_self q.1 (List.of_mem_zip hq).1
def R_laid (ds : List PyData) (d : PyData) : Prop := ∃ (m f v : List Nat) (p : Nat), ds = [sD m, gL f, nn p, sD v] ∧ m.length ≤ 4000 ∧ p + m.length ≤ f.length ∧ f.length ≤ 100000 ∧ v.length ≤ 4000 ∧ d = optL (laidL m f p v)
/-- a list or a tuple of looks -/
def seqD (t : Bool) (ds : List PyData) : PyData := if t then .tuple ds else .list ds
def R_need_views (ds : List PyData) (d : PyData) : Prop := ∃ (m : List Nat) (t : Bool) (vs : List (List Nat)) (most : Nat), ds = [sD m, seqD t (vs.map sD), nn most] ∧ m.length ≤ 4000 ∧ 1 ≤ vs.length ∧ vs.length ≤ most ∧ most ≤ 4000 ∧ (∀ v ∈ vs, lookB m v = true) ∧ d = .none
def R_clash_of (ds : List PyData) (d : PyData) : Prop := ∃ (m : List Nat) (t : Bool) (vs : List (List Nat)), ds = [sD m, seqD t (vs.map sD)] ∧ 1 ≤ m.length ∧ m.length ≤ 4000 ∧ 1 ≤ vs.length ∧ vs.length ≤ 4000 ∧ (∀ v ∈ vs, v.length ≤ 4000) ∧ d = pr2 (gL (clashL m vs).1) (optN (clashL m vs).2)
def joinO (m : List Nat) (vs : List (List Nat)) : PyData := match (clashL m vs).2 with
  | none => sD (clashL m vs).1
  | some _ => .none
def R_joined (ds : List PyData) (d : PyData) : Prop := ∃ (m : List Nat) (t : Bool) (vs : List (List Nat)), ds = [sD m, seqD t (vs.map sD)] ∧ maskB m = true ∧ 1 ≤ vs.length ∧ vs.length ≤ 60 ∧ (∀ v ∈ vs, lookB m v = true) ∧ d = joinO m vs
def R_first_clash (ds : List PyData) (d : PyData) : Prop := ∃ (m : List Nat) (t : Bool) (vs : List (List Nat)), ds = [sD m, seqD t (vs.map sD)] ∧ maskB m = true ∧ 1 ≤ vs.length ∧ vs.length ≤ 60 ∧ (∀ v ∈ vs, lookB m v = true) ∧ d = optN (clashL m vs).2
end HW
set_option maxHeartbeats 4000000
namespace HW
open PySem PySem.Spec PyProof.Rows L2
open SX (S)
/-! ### enumerate over text, list or tuple -/
open Sem (wp) in
open AutoSeq1 (wpAny_loadPart') in
theorem meets_enumN {v : Value} {o : Obj} {H : Heap → Prop} (B : Begins v o H) :
    Meets (Builtin.«enumerate.__new__» ⟨[.type "enumerate", v], []⟩) (fun _ R s => H s.heap ∧
      R (.ok (.ret (.ref (s.heap.push o).objs.size))) { s with heap := (s.heap.push o).push { cls := .type "enumerate", data := .fields #[.none, .bool false, .ref s.heap.objs.size, rawInt 0, .none, .none] } }) :=
  .of_wp fun prog w A R s h => by
    obtain ⟨hp, g, d, tk, os⟩ := s; obtain ⟨h1, h⟩ := h
    have hsub := sub_enumerate
    have q1 : ∀ {A' : Around} {E : Value → Shared → Prop} {Q : Value → Shared → Prop}, Q (.ref hp.objs.size) ⟨hp.push o, g, d, tk, os⟩ → wpAny (model prog w) A' (pyIter v) Q E ⟨hp, g, d, tk, os⟩ :=
      fun q => B.iter prog w _ _ ⟨hp, g, d, tk, os⟩ _ h1 q
    wp_walk using q1
    refine wpAny_stack_any fun st => wpAny_pure ?_
    split
    · rename_i c _ _ _ _ _
      cases (c == Value.type "enumerate")
      · wp_walk using q1
        exact ⟨_, rfl, h⟩
      · wp_walk using q1
        exact ⟨_, rfl, h⟩
    · wp_walk using q1
      exact ⟨_, rfl, h⟩
theorem enum_begins1 {prog : Program} {w : World} {A : Around} {E : Value → Shared → Prop} {s : Shared} {v : Value} {o : Obj} {H : Heap → Prop} {Q : Value → Shared → Prop} (B : Begins v o H) (h1 : H s.heap)
    (h : ∀ h', IsEnum h' (s.heap.objs.size + 1) s.heap.objs.size 0 .none → h'.get? s.heap.objs.size = some o → h'.objs.size = s.heap.objs.size + 2 →
      (∀ b o, s.heap.get? b = some o → h'.get? b = some o) → Q (.ref (s.heap.objs.size + 1)) { s with heap := h' }) :
    wpAny (model prog w) A (call (.type "enumerate") [v]) Q E s := by
  refine callType_new F.called_enumerate (by decide) (F.typeCall_enumerate_1 _) (F.newCall_enumerate_1 _) (fun obj => F.args_object_init_2 obj _) F.entry_enumerate_new
    (meets_enumN B) ⟨h1, ?_⟩
  have hz : (s.heap.push o).objs.size = s.heap.objs.size + 1 := Heap.size_push ..
  show _ ∧ _
  rw [hz]
  have he : IsEnum ((s.heap.push o).push { cls := .type "enumerate", data := .fields #[.none, .bool false, .ref s.heap.objs.size, rawInt 0, .none, .none] }) (s.heap.objs.size + 1) s.heap.objs.size 0 .none := by
    have := Heap.get?_push_size (s.heap.push o) (o := { cls := .type "enumerate", data := .fields #[.none, .bool false, .ref s.heap.objs.size, rawInt 0, .none, .none] }) rfl
    rw [hz] at this; exact this
  refine ⟨⟨_, he, rfl⟩, h _ he (Heap.get?_push_of_some _ (Heap.get?_push_size _ B.free)) (by rw [Heap.size_push, hz]) fun b o x => Heap.get?_push_of_some _ (Heap.get?_push_of_some _ x)⟩
def iEnumN (K : PySem.W.Frag) (ta : TA) : TI := fun σ H R => ta σ H fun vs H1 => ∃ a xs, vs = [Sc.v a] ∧ a.xs K H1 xs ∧ R (IteS K a) H1
theorem pi_enumN {X : Cx} {e : Expr} {ta : TA} {p pos tpos : Pos} {elts : List Expr} {kk : Nat} (hg : Gl X "enumerate") (hm : X.mg "enumerate" = none) (ha : PA X [e] ta) (hs : starEach [e] X.env = [(false, eval e X.env)] := by rfl) :
    PI X (.Tuple elts kk tpos) (.Call (.Name "enumerate" p) [e] [] pos) (iEnumN X.K ta) := by
  refine ⟨fun pins s σ H R I h => ?_⟩
  refine Call_ (ld_blt I hg hm boot_enumerate (PyProof.Rows.callWith_type1 (thn (ha.run pos pins s σ H _ I h) fun us s1 ⟨vs, H1, I1, r1, q1⟩ => ?_) hs rfl))
  obtain ⟨a, xs, ex, hq, q⟩ := q1
  subst ex
  cases r1 with
  | cons r rr =>
    cases rr
    obtain ⟨t, o, G1, B1, g1, hfp, i1⟩ := sc_begins I1 hq r
    refine enum_begins1 B1 g1 fun h' he hit hsz hk => wpAny_pyIter_enum he ?_
    have I2 : Inv X pins σ H1 { s1 with heap := h' } := I1.kept (t' := s1.toks) hk
    refine ⟨s1.heap.objs.size + 1, [s1.heap.objs.size + 1, s1.heap.objs.size], _, _, H1, rfl, I2, turn_enumS t hfp, ⟨⟨.none, he⟩, i1 _ _ hit⟩, fun b hb => ?_, q⟩
    have e' : b = s1.heap.objs.size + 1 ∨ b = s1.heap.objs.size := by simpa using hb
    have hle : s1.heap.objs.size ≤ b := by
      rcases e' with z | z
      · rw [z]; exact Nat.le_add_right _ _
      · rw [z]; exact Nat.le_refl _
    exact I1.fpOk hle (I1.hok.fresh hle)
section
variable {X : Cx} {W : Wd} {Γ : List DV} {μ : Mu} {α : Type} {a : Expr} {pos p tpos : Pos} {elts : List Expr} {kk : Nat} {d : PyData} {enc : α → PyData} {xs : List α}
theorem it_enumN (h : Ed X W Γ μ a d) (hm : X.mg "enumerate" = none) (e : itemsD d = some (xs.map enc)) (hg : Gl X "enumerate" := by rfl) (hs : starEach [a] X.env = [(false, eval a X.env)] := by rfl) :
    IterD X W Γ μ (.Tuple elts kk tpos) (.Call (.Name "enumerate" p) [a] [] pos) (fun q : Nat × α => pr2 (nn q.1) (enc q.2)) (xs.mapIdx Prod.mk) := ⟨_, pi_enumN hg hm wA.pa hs, fun σ H R R' k => (ea_cons h ea_nil (by rw [hs]; rfl)) σ H R _ fun vs H1 R1 e1 r => by
  cases r with
  | cons r rr =>
    cases rr
    obtain ⟨sc, vs, rfl, h1, h2, h3⟩ := va_sc r e
    refine ⟨sc, vs, rfl, h1 H1 same_off, k _ _ H1 rfl R1 e1 ?_⟩
    have z := walk_enumS h1 h2
    have e : ((xs.map enc).mapIdx fun i d => pr2 (nn i) d) = (xs.mapIdx Prod.mk).map fun q : Nat × α => pr2 (nn q.1) (enc q.2) := by
      apply List.ext_getElem?
      intro i
      simp only [List.getElem?_mapIdx, List.getElem?_map, Option.map_map]
      rfl
    rw [e] at z
    exact z⟩
theorem seqD_items {t : Bool} {ds : List PyData} : itemsD (seqD t ds) = some ds := by cases t <;> rfl
theorem lenSq {t : Bool} {ds : List PyData} {p2 : Pos} (G : Gs X.mg) (h : Ed X W Γ μ a (seqD t ds)) (hg : Gl X "len" := by rfl) (he : starEach [a] X.env = (false, eval a X.env) :: starEach [] X.env := by rfl) : Ed X W Γ μ (.Call (.Name "len" p2) [a] [] pos) (nn ds.length) := by
  cases t
  · exact lenL G h hg he
  · exact lenT G h hg he
/-- isinstance(e, (list, tuple)) of a list or a tuple -/
theorem ed_isLT {t : Bool} {ds : List PyData} {kt : Nat} {pt q1 q2 : Pos} (he : Ed X W Γ μ a (seqD t ds)) (hm : X.mg "isinstance" = none) (hm1 : X.mg "list" = none) (hm2 : X.mg "tuple" = none) (hg : Gl X "isinstance" := by rfl) (hg1 : Gl X "list" := by rfl) (hg2 : Gl X "tuple" := by rfl)
    (hs : starEach [a, .Tuple [.Name "list" q1, .Name "tuple" q2] kt pt] X.env = (false, eval a X.env) :: starEach [.Tuple [.Name "list" q1, .Name "tuple" q2] kt pt] X.env := by rfl) (hs2 : starEach [.Tuple [.Name "list" q1, .Name "tuple" q2] kt pt] X.env = (false, eval (.Tuple [.Name "list" q1, .Name "tuple" q2] kt pt) X.env) :: starEach [] X.env := by rfl) (hpl : (backTo pos (starEach [.Tuple [.Name "list" q1, .Name "tuple" q2] kt pt] X.env)).any (·.1) = false := by rfl)
    (hs3 : starEach [.Name "list" q1, .Name "tuple" q2] X.env = (false, eval (.Name "list" q1) X.env) :: starEach [.Name "tuple" q2] X.env := by rfl) (hs4 : starEach [.Name "tuple" q2] X.env = (false, eval (.Name "tuple" q2) X.env) :: starEach [] X.env := by rfl) :
    Ed X W Γ μ (.Call (.Name "isinstance" p) [a, .Tuple [.Name "list" q1, .Name "tuple" q2] kt pt] [] pos) (.bool true) := by
  cases t
  · exact ed_isi2 he hm hm1 boot_list hm2 boot_tuple (by intro K; rfl) rfl hg hg1 hg2 (by decide) (by decide) (by decide) (by decide) hs hs2 hpl hs3 hs4
  · exact ed_isi2 he hm hm1 boot_list hm2 boot_tuple (by intro K; rfl) rfl hg hg1 hg2 (by decide) (by decide) (by decide) (by decide) hs hs2 hpl hs3 hs4
end
/-! ### looks laid -/
theorem rep_sg {f0 : List Nat} {a b : Nat} (h : f0 = List.replicate (a + b - 1) 63) (h1 : 1 ≤ a) : PyData.list (List.replicate ((a : Int) + (b : Int) - 1).toNat [sD [63]]).flatten = gL f0 := by
  have e : ((a : Int) + (b : Int) - 1).toNat = a + b - 1 := by omega
  rw [e, h]
  show PyData.list _ = PyData.list _
  rw [List.map_replicate]
  congr 1
  generalize a + b - 1 = n
  induction n with
  | zero => rfl
  | succ n ih => rw [List.replicate_succ, List.replicate_succ, List.flatten_cons, ih]; rfl
section
variable {X : Cx} {W : Wd} {Γ : List DV} {μ : Mu} {a b : Expr} {pos p p2 : Pos} {n : Str} {r scr : Addr} {ns : List Int} {k : Nat} {l m : List Nat}
end
end HW
set_option maxHeartbeats 4000000
namespace HW
open PySem PySem.Spec PyProof.Rows L2
open SX (S)
/-! ### sets whose table can be walked -/
section
variable {prog : Program} {w : World} {K : Type} [DecidableEq K] (knd : KeyKind prog w K)
variable {knd}
theorem SetG.setOf {h : Heap} {a : Addr} {S : K → Bool} {n : Nat} (g : SetG knd h a S n) : h.SetOf knd a S n :=
  let ⟨o, es, ep, t, ho, hx, hd, r⟩ := g; ⟨o, es, ep, t, ho, hx, hd, r.els, r.mem, r.few, r.fits, r.num⟩
theorem SetG.fresh {h : Heap} : SetG knd (h.push { cls := .type "set", dict := none, data := .set #[] 0 (.fresh 0 0 (!w.params.followText "set-order")) }) h.objs.size (fun _ => false) 0 :=
  ⟨_, #[], 0, _, Heap.get?_push_size _ rfl, ⟨rfl, rfl, rfl⟩, rfl, { els := fun e he => by simp at he, mem := fun k => by simp, few := by decide, fits := by rfl, num := rfl, walk := ⟨List.Pairwise.nil, by
    show _ ∨ (!w.params.followText "set-order") = true
    cases w.params.followText "set-order"
    · exact .inr rfl
    · exact .inl rfl⟩ }⟩
/-- the elements in another order, under another table -/
theorem HasK.perm {S : K → Bool} {n : Nat} {es es' : Array (Int × Value)} {t t' : SetTable} (g : HasK knd S n es t) (p : es'.toList.Perm es.toList) (hf : t'.fits es'.size = true) (hw : WalkT w t') : HasK knd S n es' t' := by
  have hz : es'.size = es.size := by rw [← Array.length_toList, p.length_eq, Array.length_toList]
  exact { els := g.els.perm p, mem := fun k => (g.mem k).trans ⟨fun ⟨e, he, q⟩ => ⟨e, p.mem_iff.mpr he, q⟩, fun ⟨e, he, q⟩ => ⟨e, p.mem_iff.mp he, q⟩⟩, few := by rw [hz]; exact g.few, fits := hf, num := hz.trans g.num, walk := hw }
/-- one more -/
theorem HasK.push {S : K → Bool} {n : Nat} {es es' : Array (Int × Value)} {t t' : SetTable} {k : K} {x : Value} (g : HasK knd S n es t) (hk : knd.is k x = true) (hx : x.scannable = true) (p : es'.toList.Perm (es.toList ++ [(knd.hash k, x)])) (hf : t'.fits es'.size = true) (hw : WalkT w t') (hn : n + 1 < scanBound) :
    HasK knd (fun j => S j || decide (j = k)) (n + 1) es' t' := by
  have hz : es'.size = n + 1 := by rw [← Array.length_toList, p.length_eq, List.length_append, Array.length_toList, g.num]; rfl
  exact { els := (g.els.push hk hx).perm p, mem := mem_push_iff hk g.mem p, few := by rw [hz]; exact hn, fits := hf, num := hz, walk := hw }
section
variable {A : Around} {E : Value → Shared → Prop} {s : Shared} {a : Addr} {S : K → Bool} {n : Nat}
theorem SetG.stored {h : Heap} {o : Obj} {es es' : Array (Int × Value)} {ep : Nat} {t t' : SetTable} (ho : h.get? a = some o) (hx : o.ExactSet) (hd : o.data = .set es ep t) (g : HasK knd S n es' t') : SetG knd (h.update a (Obj.putSet es' t')) a S n :=
  ⟨_, es', _, t', store_at ho hd, hx, rfl, g⟩
end
end
section
variable {prog : Program} {w : World} {K : Type} [DecidableEq K] {knd : KeyKind prog w K} {A : Around} {R : Result → Shared → Prop} {I : Addr} {fp wr : List Addr} {G : Array GenState → Array GenState → Prop} {n : Nat} {P : Nat → Value → Prop} {St : Nat → Shared → Prop}
end
section
variable {prog : Program} {w : World} {K : Type} [DecidableEq K] {knd : KeyKind prog w K} {A : Around} {E : Value → Shared → Prop} {s : Shared}
end
end HW
set_option maxHeartbeats 4000000
namespace HW
open PySem PySem.Spec PyProof.Rows L2
open SX (S)
open PySem.W (dataLt AlikeAll AllAlike Sortable EachIs dataLe alike)
/-! ### sorted(set(texts)) -/
theorem perm_of_len {α : Type} [DecidableEq α] : ∀ {u l : List α}, u.Nodup → (∀ x ∈ u, x ∈ l) → l.length = u.length → l.Perm u
  | [], l, _, _, h => by rw [List.length_eq_zero_iff.mp h]
  | x :: u, l, hn, hm, h => by
    have hx := hm x List.mem_cons_self
    have p := List.perm_cons_erase hx
    have h2 : (l.erase x).length = u.length := by
      have := p.length_eq
      rw [List.length_cons] at this h
      omega
    obtain ⟨n1, n2⟩ := List.nodup_cons.mp hn
    refine p.trans ((perm_of_len n2 (fun y hy => ?_) h2).cons x)
    exact (List.mem_erase_of_ne (fun e : y = x => n1 (by rw [← e]; exact hy))).mpr (hm y (List.mem_cons_of_mem _ hy))
/-- the distinct ones in order -/
def sU (ws : List (List Nat)) : List (List Nat) := (uq ws).mergeSort fun a b => decide (a ≤ b)
theorem sU_perm (ws : List (List Nat)) : (sU ws).Perm (uq ws) := List.mergeSort_perm _ _
theorem mem_sU {ws : List (List Nat)} {x : List Nat} : x ∈ sU ws ↔ x ∈ ws := (sU_perm ws).mem_iff.trans mem_uq
theorem sU_len (ws : List (List Nat)) : (sU ws).length = (uq ws).length := (sU_perm ws).length_eq
theorem sU_lt (ws : List (List Nat)) : (sU ws).Pairwise (· < ·) := by
  have h : (sU ws).Pairwise (fun a b => decide (a ≤ b) = true) := List.pairwise_mergeSort (le := fun a b : List Nat => decide (a ≤ b)) (fun a b c (h1 : decide (a ≤ b) = true) (h2 : decide (b ≤ c) = true) => decide_eq_true (List.le_trans (of_decide_eq_true h1) (of_decide_eq_true h2))) (fun a b => by
    show (decide (a ≤ b) || decide (b ≤ a)) = true
    rw [Bool.or_eq_true, decide_eq_true_iff, decide_eq_true_iff]
    exact List.le_total a b) _
  have hn : (sU ws).Nodup := (sU_perm ws).nodup_iff.mpr (nodup_uq ws)
  refine (List.Pairwise.and h hn).imp fun {a b} ⟨h1, h2⟩ => ?_
  have h1 := of_decide_eq_true h1
  exact Classical.byContradiction fun h3 => h2 (List.le_antisymm h1 (show b ≤ a from h3))
theorem sorted_lt {ws : List (List Nat)} (h : ws.Pairwise (· < ·)) {ds : List PyData} (hp : ds.Perm (ws.map sD)) : sortD ds = ws.map sD := sortD_of hp (List.pairwise_map.mpr (h.imp fun {a b} q => by rw [ltS]; exact decide_eq_true q))
theorem sU_sortD (ws : List (List Nat)) {ds : List PyData} (hp : ds.Perm ((uq ws).map sD)) : sortD ds = (sU ws).map sD := sorted_lt (sU_lt ws) (hp.trans ((sU_perm ws).symm.map sD))
theorem map_sD_inj : ∀ {a b : List (List Nat)}, a.map sD = b.map sD → a = b
  | [], [], _ => rfl
  | [], _ :: _, e => nomatch e
  | _ :: _, [], e => nomatch e
  | x :: a, y :: b, e => by
    rw [List.map_cons, List.map_cons] at e
    rw [S_inj (PyData.str.inj (List.cons.inj e).1), map_sD_inj (List.cons.inj e).2]
theorem allS {ws : List (List Nat)} : AllAlike (ws.map sD) := fun x hx y hy => alike_S.1 x hx y hy
theorem sortS {ws : List (List Nat)} : Sortable (ws.map sD) := .inr fun d hd => by
  obtain ⟨w, _, rfl⟩ := List.mem_map.mp hd
  exact ⟨by nofun, fun xs => by nofun⟩
section
variable {prog : Program} {w : World} {A : Around} {E : Value → Shared → Prop} {s : Shared}
/-- a value is the text of b -/
def IsTx (v : Value) (b : List Nat) : Prop := ∃ t, v = .str (S b) t
end
abbrev vS (ws : List (List Nat)) : List V := ws.map fun w => V.str (S w)
theorem vals_tx : ∀ {out : List Value} {bs : List (List Nat)}, EachIs IsTx out bs → Vals (vS bs) out
  | _, _, .nil => .nil
  | _, _, .cons h t => .cons h (vals_tx t)
theorem vaAll_vS {K : PySem.W.Frag} {H : Hp} : ∀ ws : List (List Nat), VaAll K H (vS ws) (ws.map sD)
  | [] => .nil
  | w :: ws => .cons (.str _) (vaAll_vS ws)
section
variable {X : Cx} {W : Wd} {Γ : List DV} {μ : Mu} {a : Expr} {p p2 q pos : Pos} {ws : List (List Nat)}
end
end HW
set_option maxHeartbeats 4000000
namespace HW
open PySem PySem.Spec PyProof.Rows L2
open SX (S)
/-! ### s.count(sign) -/
section
variable {X : Cx} {W : Wd} {Γ : List DV} {μ : Mu} {o e : Expr} {apos pos : Pos} {l : List Nat} {c : Nat}
end
/-! ### rows some letters of which were not read -/
def colL (rs : List (List Nat)) (a : Nat) : List (List Nat) := sU (rs.map fun r => [r.getD a 0])
def oneW (ws : List (List Nat)) : List Nat := if ws.length = 1 then ws.headD [] else [63]
def sureD (rs : List (List Nat)) (k : Nat) : PyData := if rs = [] then .none else sD ((List.range k).map fun a => oneW (colL rs a)).flatten
theorem uq_le {α : Type} [DecidableEq α] {ws us : List α} (h : ∀ w ∈ ws, w ∈ us) : (uq ws).length ≤ us.length := by
  have key : ∀ (u l : List α), u.Nodup → (∀ x ∈ u, x ∈ l) → u.length ≤ l.length := by
    intro u
    induction u with
    | nil => intro l _ _; exact Nat.zero_le _
    | cons x u ih =>
      intro l hn hm
      obtain ⟨n1, n2⟩ := List.nodup_cons.mp hn
      have hx := hm x List.mem_cons_self
      have p := (List.perm_cons_erase hx).length_eq
      have := ih (l.erase x) n2 fun y hy => (List.mem_erase_of_ne (fun e : y = x => n1 (by rw [← e]; exact hy))).mpr (hm y (List.mem_cons_of_mem _ hy))
      rw [List.length_cons] at p ⊢
      omega
  exact key _ _ (nodup_uq ws) fun x hx => h x (mem_uq.mp hx)
theorem oneW_len {rs : List (List Nat)} {a : Nat} : (oneW (colL rs a)).length = 1 := by
  unfold oneW
  split
  · rename_i h
    cases e : colL rs a with
    | nil => rw [e] at h; cases h
    | cons w ws =>
      have hm : w ∈ colL rs a := by rw [e]; exact List.mem_cons_self
      obtain ⟨r, _, rfl⟩ := List.mem_map.mp (mem_sU.mp hm)
      rfl
  · rfl
end HW
set_option maxHeartbeats 4000000
namespace HW
open PySem PySem.Spec PyProof.Rows L2
open SX (S)
section
variable {X : Cx} {W : Wd} {Γ Γ' : List DV} {μ μ' : Mu} {α : Type} {iter : Expr} {body rest : List Stmt} {pos : Pos} {D : Ends}
end
/-! ### patterns drawn -/
section
variable {X : Cx} {W : Wd} {Γ : List DV} {μ : Mu} {a b c : Expr} {pos p p2 : Pos} {n : Str} {r scr : Addr} {ns : List Int} {k : Nat} {l m : List Nat}
end
theorem sure_zero (rs : List (List Nat)) : sureD rs 0 = if rs = [] then PyData.none else sD [] := rfl
theorem sure_succ {rs : List (List Nat)} (h : rs ≠ []) (k : Nat) : sureD rs (k + 1) = sD (((List.range k).map fun a => oneW (colL rs a)).flatten ++ oneW (colL rs k)) := by
  unfold sureD
  rw [if_neg h, List.range_succ, List.map_append, List.flatten_append]
  simp
end HW
set_option maxHeartbeats 4000000
namespace HW
open PySem PySem.Spec PyProof.Rows L2
open SX (S)
/-! ### rings turned and read back -/
/-! ### rings in order, and back -/
/-! ### how many -/
end HW
set_option maxHeartbeats 4000000
namespace HW
open PySem PySem.Spec PyProof.Rows L2
open SX (S)
end HW
set_option maxHeartbeats 4000000
namespace HX
open PySem PySem.Spec PyProof.Rows L2 He
/-! the head's Hook with the model's own table of statics -/
end HX
namespace HW
open PySem PySem.Spec PyProof.Rows L2
open SX (S)
/-! ### exception classes of the program -/
theorem oexB_ok {K : PySem.W.Frag} {C : Addr} (q : oexB K C = true) : ∃ nm q N bs bm sn sub ab col dd k0 k1 k2 k3 k5, K.lookup C = some (excClassObj nm q C N bs bm true sn sub ab col dd k0 k1 k2 k3 k5 "ValueError.__new__") ∧ PySem.HandSPX.refsVE bm = true := by
  unfold oexB at q
  split at q
  · rename_i dd cd sl ho
    split at q
    · rename_i C' bm k0 k1 k2 k3 n k5 hm hs
      simp only [Bool.and_eq_true, beq_iff_eq, Bool.not_eq_true'] at q
      obtain ⟨⟨⟨⟨h1, h2⟩, h3⟩, h4⟩, h5⟩ := q
      subst h1
      subst h2
      obtain ⟨nm, bs, mro, ns, qn, hd, sn, sub, ab, col, del⟩ := cd
      dsimp only at hm h3 h4
      subst hm h3 h4
      have hsl : sl = #[k0, k1, k2, k3, some (.builtin "ValueError.__new__"), k5] := by
        obtain ⟨l⟩ := sl
        simp only at hs
        rw [hs]
      subst hsl
      exact ⟨nm, qn, ns, bs, bm, sn, sub, ab, col, dd, k0, k1, k2, k3, k5, ho, h5⟩
    · cases q
  · cases q
/-- the class x: raised, made by its own __init__, its fields read -/
structure ExF (K : PySem.W.Frag) (mg : Str → Option Value) (x : Str) : Prop where
  g : mg x = some (.ref (He.ga K x))
  oex : OexC K (He.ga K x)
  ini : PySem.W.findIn K (.ref (He.ga K x)) "__init__" = some (some (.ref (He.ma K (He.ga K x) "__init__")))
  ty : PySem.W.typeIn K (.ref (He.ma K (He.ga K x) "__init__")) = some (.type "function")
  xf : XfC K (He.ga K x)
theorem exfB_ok {K : PySem.W.Frag} {h : Heap} {mg : Str → Option Value} {x : Str} (X : K.In h) (G : h.Ns mainGlobals mg) (c : exfB x K = true) : ExF K mg x := by
  unfold exfB at c
  obtain ⟨h1, c⟩ := Bool.and_eq_true_iff.mp c
  obtain ⟨h2, c⟩ := Bool.and_eq_true_iff.mp c
  obtain ⟨h3, c⟩ := Bool.and_eq_true_iff.mp c
  obtain ⟨h4, c⟩ := Bool.and_eq_true_iff.mp c
  obtain ⟨h5, c⟩ := Bool.and_eq_true_iff.mp c
  obtain ⟨h6, c⟩ := Bool.and_eq_true_iff.mp c
  obtain ⟨h7, c⟩ := Bool.and_eq_true_iff.mp c
  obtain ⟨h8, c⟩ := Bool.and_eq_true_iff.mp c
  exact ⟨PySem.W.mg_of X G (He.eqO_ok h1), ⟨oexB_ok h2, He.eqO_ok h3, of_decide_eq_true h4, of_decide_eq_true h5, h6⟩, He.eqO_ok h7, of_decide_eq_true h8, xfB_ok c⟩
/-- the class x is asked for its __init__, which is ValueError's -/
structure BaseF (K : PySem.W.Frag) (mg : Str → Option Value) (x : Str) : Prop where
  g : mg x = some (.ref (He.ga K x))
  rd : PySem.W.readsIn K (He.ga K x) (.type "type") = true
  ga : PySem.W.specialIn K (.ref (He.ga K x)) "__getattribute__" = some (some (.builtin "type.__getattribute__"))
  at_ : PySem.W.findCls K (.ref (He.ga K x)) (.type "type") "__init__" = some (.val (.builtin "ValueError.__init__"))
theorem baseB_ok {K : PySem.W.Frag} {h : Heap} {mg : Str → Option Value} {x : Str} (X : K.In h) (G : h.Ns mainGlobals mg) (c : baseB x K = true) : BaseF K mg x := by
  unfold baseB at c
  obtain ⟨h1, c⟩ := Bool.and_eq_true_iff.mp c
  obtain ⟨h2, c⟩ := Bool.and_eq_true_iff.mp c
  obtain ⟨h3, c⟩ := Bool.and_eq_true_iff.mp c
  refine ⟨PySem.W.mg_of X G (He.eqO_ok h1), h2, He.eqO_ok h3, ?_⟩
  split at c
  · rename_i n e
    rw [e, beq_iff_eq.mp c]
  · cases c
/-! ### Base.__init__(self, ..) -/
section
variable {X : Cx} {e : Expr} {es : List Expr} {ta : TA} {p1 p2 pos : Pos} {x : Str}
theorem pe_baseInit {pl : Sem Bool} (B : BaseF X.K X.mg x) (hg : Gl X x) (ha : PA X (e :: es) ta) (hdb : (x == ("__debug__" : Str)) = false := by decide)
    (hc : eval (.Call (.Attribute (.Name x p1) "__init__" p2) (e :: es) [] pos) X.env = (do
      let ov ← eval (.Name x p1) X.env
      PySem.standAt p2.atName
      let (f, first) ← holding [ov] (getMethod ov "__init__" pl)
      callWith pos f first (backTo pos (starEach (e :: es) X.env)) (backToKw pos (keywordEach [] X.env))) := by rfl)
    (he : starEach (e :: es) X.env = (false, eval e X.env) :: starEach es X.env := by rfl) (hpl : (backTo pos (starEach es X.env)).any (·.1) = false := by rfl) :
    PE X (.Call (.Attribute (.Name x p1) "__init__" p2) (e :: es) [] pos) (tVeI X.K ta) := by
  refine ⟨fun pins s σ H Q I h => ?_⟩
  refine PySem.W.methodCall_KW (ld_glob I hg B.g ?_ hdb) hc
  refine PySem.W.method_cls I.kIn B.ga (PySem.W.cls_value I.kIn B.rd B.at_ (by decide +kernel) ?_)
  show wpAny _ _ (callWith pos (Value.builtin "ValueError.__init__") [] (backTo pos (starEach (e :: es) X.env)) []) _ _ _
  refine PyProof.Rows.callWith_method1 (thn (ha.run pos pins _ σ H _ (I.tok _) h) fun us s1 ⟨vs, H1, I1, r1, a, C, ws, ev, hl, T, ea, q⟩ => ?_) he hpl
  subst ev
  cases r1 with
  | @cons _ u0 _ ur ra rw' =>
    obtain rfl : u0 = Value.ref a := ra
    have hlen : ur.length ≤ sizeLine := by
      rw [← Paired.length rw', sizeLine_eq]
      omega
    exact oinit_ok T I1 ea hlen fun s' J => ⟨.non, H1, J, rfl, q⟩
end
/-! ### the promises of __init__ -/
/-- an __init__ that stores nothing -/
def spI0 (K : PySem.W.Frag) (C : Addr) : Sp := fun vs H Q _ => ∃ a, vs = [.ref a] ∧ OexC K C ∧ H a = some (exo a C none) ∧ Q .non H
/-- an __init__ that stores its argument in the field f -/
def spI1 (K : PySem.W.Frag) (C : Addr) (f : Str) : Sp := fun vs H Q _ => ∃ a v, vs = [.ref a, v] ∧ OexC K C ∧ PySem.W.findIn K (.ref C) f = some none ∧ H a = some (exo a C none) ∧ ∀ dx, H dx = none → dx ≠ a → Q .non (upd (upd H dx (exd dx [(f, v)])) a (exo a C (some dx)))
section
variable {P : Program} {w : World} {K : PySem.W.Frag} {mg : Str → Option Value} {base : Heap} {x qual : Str} {params : Arguments} {scope : Scope} {f : Addr} {fd : FuncData} {k : Nat} {C : Addr}
theorem fn_init0 {msg : Str} {j : Nat} {p1 p2 p3 p4 p5 p6 : Pos} (F : FunD K x qual params [.Expr (.Call (.Attribute (.Name "WindowError" p1) "__init__" p2) [.Name "self" p3, .Constant (.str msg) j p4] [] p5) p6] scope [] [] f fd) (S : FnScope ["self"] ["self"] scope) (B : BaseF K mg "WindowError")
    (hg : ∀ cdv A outer s H E, Gl (cxOf CX0 P w K mg base ["self"] qual scope f cdv A outer s H E).nox "WindowError")
    (hv : ∀ cdv A outer s H E, Vis (cxOf CX0 P w K mg base ["self"] qual scope f cdv A outer s H E).nox.env.scope "self")
    (hc : ∀ cdv A outer s H E, ∃ pl : Sem Bool, eval (.Call (.Attribute (.Name "WindowError" p1) "__init__" p2) [.Name "self" p3, .Constant (.str msg) j p4] [] p5) (cxOf CX0 P w K mg base ["self"] qual scope f cdv A outer s H E).nox.env = (do
      let ov ← eval (.Name "WindowError" p1) (cxOf CX0 P w K mg base ["self"] qual scope f cdv A outer s H E).nox.env
      PySem.standAt p2.atName
      let (g, first) ← holding [ov] (getMethod ov "__init__" pl)
      callWith p5 g first (backTo p5 (starEach [.Name "self" p3, .Constant (.str msg) j p4] (cxOf CX0 P w K mg base ["self"] qual scope f cdv A outer s H E).nox.env)) (backToKw p5 (keywordEach [] (cxOf CX0 P w K mg base ["self"] qual scope f cdv A outer s H E).nox.env))))
    (hs : ∀ cdv A outer s H E, swapsWith (.Call (.Attribute (.Name "WindowError" p1) "__init__" p2) [.Name "self" p3, .Constant (.str msg) j p4] [] p5) none p6.line (cxOf CX0 P w K mg base ["self"] qual scope f cdv A outer s H E).nox.env = pure false) :
    FnOk P w K mg base CX0 (k + 1) f fd ["self"] (spI0 K C) := by
  refine F.ok S (fun vs H Q E ⟨a, e, _⟩ => by rw [e]; rfl) fun cdv A outer s H vs Q E hr ⟨a, e, T, ha, q⟩ => ?_
  obtain ⟨pl, hcc⟩ := hc cdv A outer s H E
  refine ⟨_, PSs.nox (pss_cons (ps_expr (pe_baseInit (pl := pl) B (hg cdv A outer s H E) (pa_cons (pe_var (i := 0) rfl (hv cdv A outer s H E) (by decide) (by decide)) (pa_cons pe_str pa_nil rfl) rfl) (by decide) hcc) (hs cdv A outer s H E)) pss_nil), ?_⟩
  subst e
  refine ⟨_, rfl, ?_⟩
  exact ⟨a, C, [V.str msg], rfl, (by show 1 ≤ 1000; decide), T, ha, q⟩
end
end HW
set_option maxHeartbeats 4000000
namespace HW
open PySem PySem.Spec PyProof.Rows L2
open SX (S)
/-! ### raise -/
/-- a class whose __init__ keeps one field, ready to be raised -/
structure Ex1 (P : Program) (w : World) (K : PySem.W.Frag) (mg : Str → Option Value) (base : Heap) (k : Nat) (x fld : Str) : Prop where
  f : ExF K mg x
  no : PySem.W.findIn K (.ref (He.ga K x)) fld = some none
  ini : ∃ fd, FnOk P w K mg base CX0 k (He.ma K (He.ga K x) "__init__") fd ["self", fld] (spI1 K (He.ga K x) fld) ∧ Binds K fd ["self", fld] []
/-- .. that keeps none -/
structure Ex0 (P : Program) (w : World) (K : PySem.W.Frag) (mg : Str → Option Value) (base : Heap) (k : Nat) (x : Str) : Prop where
  f : ExF K mg x
  ini : ∃ fd, FnOk P w K mg base CX0 k (He.ma K (He.ga K x) "__init__") fd ["self"] (spI0 K (He.ga K x)) ∧ Binds K fd ["self"] []
theorem Ex1.mono {P : Program} {w : World} {K : PySem.W.Frag} {mg : Str → Option Value} {base : Heap} {j k : Nat} {x fld : Str} (F : Ex1 P w K mg base j x fld) (h : j ≤ k) : Ex1 P w K mg base k x fld := by
  obtain ⟨fd, h1, h2⟩ := F.ini
  exact ⟨F.f, F.no, fd, h1.mono h, h2⟩
theorem Ex0.mono {P : Program} {w : World} {K : PySem.W.Frag} {mg : Str → Option Value} {base : Heap} {j k : Nat} {x : Str} (F : Ex0 P w K mg base j x) (h : j ≤ k) : Ex0 P w K mg base k x := by
  obtain ⟨fd, h1, h2⟩ := F.ini
  exact ⟨F.f, fd, h1.mono h, h2⟩
theorem FdX.mono {P : Program} {w : World} {K : PySem.W.Frag} {mg : Str → Option Value} {base : Heap} {j k : Nat} {x : Str} {ps : List Str} {R : List PyData → Str → Option (Str × PyData) → Prop} (F : FdX P w K mg base j x ps R) (h : j ≤ k) : FdX P w K mg base k x ps R := by
  obtain ⟨f, fd, h1, h2⟩ := F.ex
  exact ⟨f, fd, h1.mono h, h2⟩
theorem same_trans {a b c : Hp} (h1 : Same a b) (h2 : Same b c) : Same a c := fun x o e => h2 x o (h1 x o e)
section
variable {X : Cx} {W : Wd} {Γ : List DV} {μ : Mu} {a : Expr} {rest : List Stmt} {D : Ends} {y : PyData} {x fld : Str} {k : Nat} {p pos pos2 : Pos} {W0 : WX}
end
section
variable {P : Program} {w : World} {K : PySem.W.Frag} {mg : Str → Option Value} {base : Heap} {x qual : Str} {params : Arguments} {body : List Stmt} {scope : Scope} {f : Addr} {fd : FuncData} {N ps : List Str} {k : Nat}
end
end HW
set_option maxHeartbeats 4000000
namespace HW
open PySem PySem.Spec PyProof.Rows L2
open SX (S)
/-! ### calls that raise, try -/
theorem XO.down {K : PySem.W.Frag} {L L' : List Addr} {H0 H' : Hp} {x : Str} {fo : Option (Str × PyData)} {cls : Value} {d : Option Addr} (h : XO K L H0 H' x fo cls d) (hl : ∀ a ∈ L', a ∈ L) : XO K L' H0 H' x fo cls d := by
  obtain ⟨h1, h2, h3⟩ := h
  refine ⟨h1, h2, ?_⟩
  cases fo with
  | none => exact h3
  | some fy =>
    obtain ⟨f, y⟩ := fy
    obtain ⟨dd, v, e1, e2, e3, e4⟩ := h3
    exact ⟨dd, v, e1, e2, e3, e4.up (same_offs hl)⟩
section
variable {X : Cx} {W : Wd} {Γ : List DV} {μ : Mu} {e : Expr} {es : List Expr} {rest : List Stmt} {D : Ends} {ds : List PyData} {x f : Str} {fo : Option (Str × PyData)} {ps : List Str} {k : Nat} {p pos : Pos} {W0 : WX} {R : List PyData → Str → Option (Str × PyData) → Prop}
end
/-! ### try: .. except x as n: m = e -/
section
variable {X : Cx} {W : Wd} {Γ : List DV} {μ : Mu} {rest body : List Stmt} {D : Ends} {x xr n nm : Str} {fo : Option (Str × PyData)} {np pos pos' q1 q2 : Pos} {e0 : Expr} {y0 : PyData} {W0 : WX}
end
end HW
set_option maxHeartbeats 4000000
namespace HW
open PySem PySem.Spec PyProof.Rows L2
open SX (S)
/-! ### what is refused -/
end HW
set_option maxHeartbeats 4000000
namespace HW
open PySem PySem.Spec PyProof.Rows L2
open SX (S)
/-! ### the least masks -/
def okQ (l m : List Nat) : Bool := decide (m.length ≤ l.length) && tellsB l m
def stepQ (l : List Nat) (s : Option Nat × List (List Nat)) (m : List Nat) : Option Nat × List (List Nat) :=
  if okQ l m = true then (match s.1 with
    | none => (some (seenL m).length, [m])
    | some b => if (seenL m).length < b then (some (seenL m).length, [m]) else if (seenL m).length = b then (some b, s.2 ++ [m]) else s)
  else s
def foldQ (l : List Nat) (ms : List (List Nat)) : Option Nat × List (List Nat) := ms.foldl (stepQ l) (none, [])
theorem foldQ_snoc (l : List Nat) (ms : List (List Nat)) (m : List Nat) : foldQ l (ms ++ [m]) = stepQ l (foldQ l ms) m := by unfold foldQ; rw [List.foldl_append]; rfl
/-- what the fold tells: the least number of places seen, and the masks that see so many -/
structure SpecQ (P : List (List Nat)) (s : Option Nat × List (List Nat)) : Prop where
  low : ∀ m ∈ P, ∃ b, s.1 = some b ∧ b ≤ (seenL m).length
  has : ∀ b, s.1 = some b → ∃ m ∈ P, (seenL m).length = b
  all : s.2 = P.filter (fun m => decide (s.1 = some (seenL m).length))
theorem stepQ_spec {l a : List Nat} {P : List (List Nat)} {s : Option Nat × List (List Nat)} (h : SpecQ P s) : SpecQ (P ++ [a].filter (okQ l)) (stepQ l s a) := by
  obtain ⟨h1, h2, h3⟩ := h
  by_cases ho : okQ l a = true
  · have ea : [a].filter (okQ l) = [a] := by simp [ho]
    rw [ea]
    cases e : s.1 with
    | none =>
      have hn : P = [] := by
        rw [List.eq_nil_iff_forall_not_mem]
        intro m hm
        obtain ⟨b, hb, _⟩ := h1 m hm
        rw [e] at hb
        cases hb
      have es : stepQ l s a = (some (seenL a).length, [a]) := by
        unfold stepQ
        rw [if_pos ho, e]
      rw [hn, es]
      refine ⟨fun m hm => ?_, fun b hb => ?_, ?_⟩
      · rw [List.nil_append, List.mem_singleton] at hm
        subst hm
        exact ⟨_, rfl, Nat.le_refl _⟩
      · cases hb
        exact ⟨a, by simp, rfl⟩
      · simp
    | some b =>
      have hmin : ∀ m ∈ P, b ≤ (seenL m).length := fun m hm => by
        obtain ⟨b', hb', hle⟩ := h1 m hm
        rw [e] at hb'
        cases hb'
        exact hle
      by_cases hlt : (seenL a).length < b
      · have es : stepQ l s a = (some (seenL a).length, [a]) := by
          unfold stepQ
          rw [if_pos ho, e]
          exact if_pos hlt
        rw [es]
        refine ⟨fun m hm => ⟨_, rfl, ?_⟩, fun b' hb' => ?_, ?_⟩
        · rcases List.mem_append.mp hm with z | z
          · have := hmin m z
            omega
          · rw [List.mem_singleton.mp z]
            exact Nat.le_refl _
        · cases hb'
          exact ⟨a, List.mem_append_right _ (by simp), rfl⟩
        · rw [List.filter_append]
          have e1 : P.filter (fun m => decide (some (seenL a).length = some (seenL m).length)) = [] := by
            rw [List.filter_eq_nil_iff]
            intro m hm
            have := hmin m hm
            simp
            omega
          rw [e1]
          simp
      · obtain ⟨m0, hm0, em0⟩ := h2 b e
        by_cases heq : (seenL a).length = b
        · have es : stepQ l s a = (some b, s.2 ++ [a]) := by
            unfold stepQ
            rw [if_pos ho, e]
            exact (if_neg hlt).trans (if_pos heq)
          rw [es]
          refine ⟨fun m hm => ⟨_, rfl, ?_⟩, fun b' hb' => ?_, ?_⟩
          · rcases List.mem_append.mp hm with z | z
            · exact hmin m z
            · rw [List.mem_singleton.mp z]
              omega
          · cases hb'
            exact ⟨a, List.mem_append_right _ (by simp), heq⟩
          · rw [List.filter_append, h3, e]
            simp [heq]
        · have es : stepQ l s a = s := by
            unfold stepQ
            rw [if_pos ho, e]
            exact (if_neg hlt).trans (if_neg heq)
          rw [es]
          refine ⟨fun m hm => ⟨b, e, ?_⟩, fun b' hb' => ?_, ?_⟩
          · rcases List.mem_append.mp hm with z | z
            · exact hmin m z
            · rw [List.mem_singleton.mp z]
              omega
          · rw [e] at hb'
            cases hb'
            exact ⟨m0, List.mem_append_left _ hm0, em0⟩
          · rw [List.filter_append, ← h3, e]
            have : ¬ b = (seenL a).length := fun z => heq z.symm
            simp [this]
  · have ea : [a].filter (okQ l) = [] := by simp [ho]
    have es : stepQ l s a = s := by
      unfold stepQ
      rw [if_neg ho]
    rw [ea, es, List.append_nil]
    exact ⟨h1, h2, h3⟩
theorem foldQ_spec (l : List Nat) (ms : List (List Nat)) : SpecQ (ms.filter (okQ l)) (foldQ l ms) := by
  refine rev_ind (p := fun ms => SpecQ (ms.filter (okQ l)) (foldQ l ms)) ⟨(fun m h => nomatch h), (fun b (h : (none : Option Nat) = some b) => nomatch h), rfl⟩ (fun ms a h => ?_) ms
  rw [foldQ_snoc, List.filter_append]
  exact stepQ_spec h
theorem foldQ_len (l : List Nat) (ms : List (List Nat)) : (foldQ l ms).2.length ≤ ms.length := by
  rw [(foldQ_spec l ms).all]
  exact Nat.le_trans (List.length_filter_le ..) (List.length_filter_le ..)
def R_least_masks (ds : List PyData) (d : PyData) : Prop := ∃ (l : List Nat) (w : Nat), ds = [sD l, nn w] ∧ rowB l = true ∧ 1 ≤ w ∧ w ≤ 9 ∧ d = wD (foldQ l (allM w)).2
abbrev gMOST_ASKED (mg : Str → Option Value) : Prop := ∃ t, mg "MOST_ASKED" = some (.int 9 t)
end HW
set_option maxHeartbeats 4000000
namespace HW
open PySem PySem.Spec PyProof.Rows L2
open SX (S)
/-! ### rows counted -/
noncomputable def cntR (m : List Nat) (n k : Nat) : Nat := if k < topK m n then (lev m n k).length else 0
def R_count_rows (ds : List PyData) (d : PyData) : Prop := ∃ (m : List Nat) (n k : Nat), ds = [sD m, nn n, nn k] ∧ Small m n ∧ k ≤ 60 ∧ d = nn (cntR m n k)
end HW
set_option maxHeartbeats 4000000
namespace HW
open PySem PySem.Spec PyProof.Rows L2
open SX (S)
/-! ### raise X() -/
section
variable {X : Cx}
end
section
variable {X : Cx} {W : Wd} {Γ : List DV} {μ : Mu} {rest : List Stmt} {D : Ends} {x : Str} {k : Nat} {p pos pos2 : Pos} {W0 : WX}
end
end HW
set_option maxHeartbeats 4000000
namespace HW
open PySem PySem.Spec PyProof.Rows L2
open SX (S)
/-! ### try with several clauses without `as` -/
/-- the clauses name classes of the program -/
inductive AllCl (X : Cx) : List ExceptHandler → Prop
  | nil : AllCl X []
  | cons {x : Str} {b0 : Stmt} {st : List Stmt} {np pos' : Pos} {hds : List ExceptHandler} (F : Names X x (.ref (He.ga X.K x))) (r : AllCl X hds) : AllCl X (.ExceptHandler (some (.Name x np)) none (b0 :: st) pos' :: hds)
/-- of the clauses, st is the suite that xr comes to -/
inductive Chosen (X : Cx) (xr : Str) : List ExceptHandler → List Stmt → Prop
  | here {x : Str} {b0 : Stmt} {st : List Stmt} {np pos' : Pos} {hds : List ExceptHandler} (F : Names X x (.ref (He.ga X.K x))) (hm : PySem.W.exmOne X.K (.ref (He.ga X.K xr)) (.ref (He.ga X.K x)) = some true) (r : AllCl X hds) :
      Chosen X xr (.ExceptHandler (some (.Name x np)) none (b0 :: st) pos' :: hds) (b0 :: st)
  | there {x : Str} {b0 : Stmt} {st st2 : List Stmt} {np pos' : Pos} {hds : List ExceptHandler} (F : Names X x (.ref (He.ga X.K x))) (hm : PySem.W.exmOne X.K (.ref (He.ga X.K xr)) (.ref (He.ga X.K x)) = some false) (r : Chosen X xr hds st2) :
      Chosen X xr (.ExceptHandler (some (.Name x np)) none (b0 :: st) pos' :: hds) st2
theorem AllCl.app {X : Cx} {hds : List ExceptHandler} (h : AllCl X hds) : ∃ l, HdsOk X hds l := by
  induction h with
  | nil => exact ⟨_, .nil⟩
  | @cons x b0 st np pos' hds F r ih =>
    obtain ⟨l, hl⟩ := ih
    exact ⟨_, .cons (ts := fun a cls d D σ H => ∀ (oe : Obj) (pn : List (Addr × Obj)), Zc cls d oe → (∃ vs, oe.data = .fields vs) → wSs (X.suite a ((a, oe) :: pn)) (b0 :: st) D σ H) F (fun a oe cls d pn hz hv => ⟨fun pins s σ H D I h => h oe pn hz hv pins s I⟩) hl⟩
theorem Chosen.app {X : Cx} {xr : Str} {hds : List ExceptHandler} {st : List Stmt} (h : Chosen X xr hds st) : ∃ l, HdsOk X hds l ∧ ∀ (Wout : WX) (D : Ends) (σ : L2.St) (H : Hp) (d : Option Addr),
    (∀ a, H a = none → ∀ (oe : Obj) (pn : List (Addr × Obj)), Zc (.ref (He.ga X.K xr)) d oe → (∃ vs, oe.data = .fields vs) → wSs (X.suite a ((a, oe) :: pn)) st D σ H) → wMany X.K Wout D l (.ref (He.ga X.K xr)) d σ H := by
  induction h with
  | @here x b0 st np pos' hds F hm r =>
    obtain ⟨l, hl⟩ := r.app
    exact ⟨_, .cons (ts := fun a cls d D σ H => ∀ (oe : Obj) (pn : List (Addr × Obj)), Zc cls d oe → (∃ vs, oe.data = .fields vs) → wSs (X.suite a ((a, oe) :: pn)) (b0 :: st) D σ H) F (fun a oe cls d pn hz hv => ⟨fun pins s σ H D I h => h oe pn hz hv pins s I⟩) hl,
      fun Wout D σ H d q => ⟨true, hm, fun _ a na oe pn hz hv => q a na oe pn hz hv, fun z => nomatch z⟩⟩
  | @there x b0 st st2 np pos' hds F hm r ih =>
    obtain ⟨l, hl, hq⟩ := ih
    exact ⟨_, .cons (ts := fun a cls d D σ H => ∀ (oe : Obj) (pn : List (Addr × Obj)), Zc cls d oe → (∃ vs, oe.data = .fields vs) → wSs (X.suite a ((a, oe) :: pn)) (b0 :: st) D σ H) F (fun a oe cls d pn hz hv => ⟨fun pins s σ H D I h => h oe pn hz hv pins s I⟩) hl,
      fun Wout D σ H d q => ⟨false, hm, (fun z => nomatch z), fun _ => hq Wout D σ H d q⟩⟩
section
variable {X : Cx} {W : Wd} {Γ : List DV} {μ : Mu} {rest body : List Stmt} {D : Ends} {xr nm : Str} {fo : Option (Str × PyData)} {h0 : ExceptHandler} {hds : List ExceptHandler} {pos q1 q2 : Pos} {e0 : Expr} {y0 : PyData} {W0 : WX}
end
end HW
set_option maxHeartbeats 4000000
namespace HW
open PySem PySem.Spec PyProof.Rows L2
open SX (S)
/-! ### texts that are no masks, no rows, no views -/
abbrev gMOST_VIEWS (mg : Str → Option Value) : Prop := ∃ t, mg "MOST_VIEWS" = some (.int 7 t)
end HW
set_option maxHeartbeats 4000000
namespace HW
open PySem PySem.Spec PyProof.Rows L2
open SX (S)
/-! ### text.split(text) -/
section
variable {X : Cx} {W : Wd} {Γ : List DV} {μ : Mu} {o e : Expr} {a b : Str} {apos pos : Pos}
end
end HW
set_option maxHeartbeats 4000000
namespace HW
open PySem PySem.Spec PyProof.Rows L2
open SX (S)
/-! ### law 27: ten wrong calls -/
end HW
set_option maxHeartbeats 4000000
namespace HW
open PySem PySem.Spec PyProof.Rows L2
open SX (S)
/-! ### try: of all clauses, with `as` and without, the one that takes the exception -/
section
variable {X : Cx} {body : List Stmt} {h0 : ExceptHandler} {hds : List ExceptHandler} {pos : Pos} {tb : WX → TS} {cr : Value} {o : Option Nat} {b0 : Stmt} {st : List Stmt} {ts : Addr → Option Addr → TS}
end
/-! ### .. over a state of data -/
section
variable {X : Cx} {W : Wd} {Γ : List DV} {μ : Mu} {rest body : List Stmt} {D : Ends} {xr nm : Str} {fo : Option (Str × PyData)} {h0 : ExceptHandler} {hds : List ExceptHandler} {pos q1 q2 : Pos} {e0 : Expr} {y0 : PyData} {o : Option Nat}
end
/-! ### f(..), f any expression that gives a def -/
section
variable {X : Cx} {W : Wd} {Γ : List DV} {μ : Mu} {fe e : Expr} {es : List Expr} {ds : List PyData} {d : PyData} {x : Str} {ps : List Str} {k : Nat} {f : Addr} {fd : FuncData} {pos : Pos} {CX : CXT} {sp : Sp} {E : L2.St → XK} {t : TA} {tf : TE}
end
section
variable {X : Cx} {W : Wd} {Γ : List DV} {μ : Mu} {fe e : Expr} {es : List Expr} {ds : List PyData} {d : PyData} {x y : Str} {fo : Option (Str × PyData)} {ps : List Str} {k : Nat} {f : Addr} {pos : Pos} {W0 : WX}
end
end HW
set_option maxHeartbeats 4000000
namespace HW
open PySem PySem.Spec PyProof.Rows L2
open SX (S)
/-! ### values of any kind that are refused -/
section
variable {X : Cx} {W : Wd} {Γ : List DV} {μ : Mu} {e : Expr} {d : PyData} {pos p p2 : Pos}
end
/-! what is raised: x behind the argument -/
end HW
set_option maxHeartbeats 4000000
namespace HW
open PySem PySem.Spec PyProof.Rows L2
open SX (S)
/-! ### what the defs raise, one error after the other (printed by genchain.py) -/
end HW
set_option maxHeartbeats 4000000
namespace HW
open PySem PySem.Spec PyProof.Rows L2
open SX (S)
/-! ### text * number, none too -/
/-! ### law 10 -/
end HW
set_option maxHeartbeats 4000000
namespace HW
open PySem PySem.Spec PyProof.Rows L2
open SX (S)
/-! ### how far a row can be made longer -/
def farL (m : List Nat) (n : Nat) (r : List Nat) : Nat → List (List Nat)
  | 0 => [r]
  | j + 1 => nextL m n (farL m n r j)
theorem next_sub {m : List Nat} {n : Nat} {as bs : List (List Nat)} (h : as.Sublist bs) : (nextL m n as).Sublist (nextL m n bs) := by
  unfold nextL
  induction h with
  | slnil => exact List.Sublist.slnil
  | cons b h ih => rw [List.flatMap_cons]; exact List.sublist_append_of_sublist_right ih
  | cons_cons a h ih => rw [List.flatMap_cons, List.flatMap_cons]; exact List.Sublist.append (List.Sublist.refl _) ih
theorem far_sub {m : List Nat} {n : Nat} {r : List Nat} (hm : 1 ≤ m.length) (hn : n ≤ 4) (hl : lowL n r) (ht : tellsB r m = true) : ∀ j, (farL m n r j).Sublist (lev m n (r.length + j))
  | 0 => List.singleton_sublist.mpr ((mem_lev hm hn).mpr ⟨rfl, hl, ht⟩)
  | j + 1 => next_sub (far_sub hm hn hl ht j)
theorem far_mem {m : List Nat} {n : Nat} {r : List Nat} (hm : 1 ≤ m.length) (hn : n ≤ 4) (hl : lowL n r) (ht : tellsB r m = true) {j : Nat} {x : List Nat} (h : x ∈ farL m n r j) : x.length = r.length + j ∧ lowL n x ∧ tellsB x m = true :=
  (mem_lev hm hn).mp ((far_sub hm hn hl ht j).subset h)
theorem far_len {m : List Nat} {n : Nat} {r : List Nat} (hs : Small m n) (hl : lowL n r) (ht : tellsB r m = true) (j : Nat) : (farL m n r j).length ≤ 8388608 :=
  Nat.le_trans (far_sub hs.pos hs.hi hl ht j).length_le (hs.len _)
theorem least_of {p : Nat → Prop} : ∀ n, p n → ∃ k, k ≤ n ∧ p k ∧ ∀ j, j < k → ¬ p j := by
  intro n
  induction n using Nat.strongRecOn with
  | _ n ih =>
    intro h
    by_cases q : ∃ j, j < n ∧ p j
    · obtain ⟨j, hj, pj⟩ := q
      obtain ⟨k, hk, pk, hl⟩ := ih j hj pj
      exact ⟨k, by omega, pk, hl⟩
    · exact ⟨n, Nat.le_refl _, h, fun j hj pj => q ⟨j, hj, pj⟩⟩
theorem told_len {m : List Nat} {n : Nat} {r : List Nat} (hs : Small m n) (hl : lowL n r) (ht : tellsB r m = true) : r.length + 1 ≤ 16 + m.length :=
  hs.top fun e => by
    have : r ∈ lev m n r.length := (mem_lev hs.pos hs.hi).mpr ⟨rfl, hl, ht⟩
    rw [e] at this
    cases this
theorem far_ex {m : List Nat} {n : Nat} {r : List Nat} (hs : Small m n) (hl : lowL n r) (ht : tellsB r m = true) : ∃ T, (1 ≤ T ∧ T + r.length ≤ 16 + m.length) ∧ farL m n r T = [] ∧ ∀ j, j < T → farL m n r j ≠ [] := by
  have hr := told_len hs hl ht
  have h0 : farL m n r (16 + m.length - r.length) = [] := by
    have h := (far_sub hs.pos hs.hi hl ht (16 + m.length - r.length)).length_le
    have e : r.length + (16 + m.length - r.length) = 16 + m.length := by omega
    rw [e, hs.ends] at h
    exact List.length_eq_zero_iff.mp (Nat.le_zero.mp h)
  obtain ⟨T, hT, h1, h2⟩ := least_of (p := fun T => farL m n r T = []) _ h0
  refine ⟨T, ⟨?_, by omega⟩, h1, h2⟩
  rcases Nat.eq_zero_or_pos T with e | e
  · subst e
    exact absurd h1 (List.cons_ne_nil _ _)
  · exact e
noncomputable def farT (m : List Nat) (n : Nat) (r : List Nat) : Nat := by
  classical exact if h : ∃ T, (1 ≤ T ∧ T + r.length ≤ 16 + m.length) ∧ farL m n r T = [] ∧ ∀ j, j < T → farL m n r j ≠ [] then Classical.choose h else 0
theorem farT_spec {m : List Nat} {n : Nat} {r : List Nat} (hs : Small m n) (hl : lowL n r) (ht : tellsB r m = true) : (1 ≤ farT m n r ∧ farT m n r + r.length ≤ 16 + m.length) ∧ farL m n r (farT m n r) = [] ∧ ∀ j, j < farT m n r → farL m n r j ≠ [] := by
  have h := far_ex hs hl ht
  unfold farT
  rw [dif_pos h]
  exact Classical.choose_spec h
noncomputable def farD (m : List Nat) (n : Nat) (r : List Nat) : PyData := if tellsB r m = true then .int ((r.length + farT m n r : Nat) - 1 : Int) else .none
def R_next_letters (ds : List PyData) (d : PyData) : Prop := ∃ (l m : List Nat) (n : Nat), ds = [sD l, sD m, nn n] ∧ 1 ≤ n ∧ n ≤ 4 ∧ rowB l = true ∧ lowL n l ∧ maskB m = true ∧ d = sD ((letL n).filter fun c => tellsB (l ++ [c]) m)
def R_farthest (ds : List PyData) (d : PyData) : Prop := ∃ (l m : List Nat) (n : Nat), ds = [sD l, sD m, nn n] ∧ Small m n ∧ rowB l = true ∧ lowL n l ∧ d = farD m n l
/-! ### slices whose bound is drawn -/
def rAnyS (X : Cx) : V → Option Int → Option Int → Hp → VK → Prop := fun v l u H Q => ∃ d z, SlD X d l u z ∧ rDs X.K d l u z v l u H Q
theorem rAnyS.ok {X : Cx} : L2.SlR X (rAnyS X) := fun pins s σ H x v vl vu lo hi sl Q I rx hs pl pu ⟨d, z, h, q⟩ => h pins s σ H x v vl vu lo hi sl Q I rx hs pl pu q
section
variable {X : Cx} {W : Wd} {Γ : List DV} {μ : Mu} {a lo hi : Expr} {p2 pos : Pos} {A C : PyData → Prop} {U L : Int → Prop}
end
end HW
set_option maxHeartbeats 4000000
namespace HW
open PySem PySem.Spec PyProof.Rows L2
open SX (S)
/-! ### tuple * number: none and one, too -/
/-! ### {} as data -/
/-! ### places found -/
theorem mapIdx_rangeG {α : Type} (l : List α) (d : α) : l.mapIdx Prod.mk = (List.range l.length).map fun i => (i, l.getD i d) := by
  apply List.ext_getElem (by simp)
  intro i h1 h2
  simp only [List.getElem_mapIdx, List.getElem_map, List.getElem_range]
  rw [List.getD_eq_getElem?_getD, List.getElem?_eq_getElem (by simpa using h1)]
  rfl
def idxL (ws : List (List Nat)) (p : List Nat → Bool) : List Nat := (List.range ws.length).filter fun i => p (ws.getD i [])
theorem enum_idx (ws : List (List Nat)) (p : List Nat → Bool) : ((ws.mapIdx Prod.mk).filter fun q => p q.2).map (fun q => nn q.1) = (idxL ws p).map nn := by
  rw [mapIdx_rangeG ws [], List.filter_map, List.map_map]
  rfl
theorem shp_nD (l : List Nat) : Shp 1 (nD l) := Shp.list fun x hx => by
  obtain ⟨i, _, rfl⟩ := List.mem_map.mp hx
  exact Shp.int
def R_find (ds : List PyData) (d : PyData) : Prop := ∃ l m t : List Nat, ds = [sD l, sD m, sD t] ∧ rowB l = true ∧ maskB m = true ∧ lookB m t = true ∧ d = nD (idxL (viewsL l m) fun v => decide (missN v t = 0))
def R_near (ds : List PyData) (d : PyData) : Prop := ∃ (l m t : List Nat) (q : Nat), ds = [sD l, sD m, sD t, nn q] ∧ rowB l = true ∧ maskB m = true ∧ lookB m t = true ∧ q ≤ 12 ∧ d = nD (idxL (viewsL l m) fun v => decide (missN v t ≤ q))
/-! ### law 5 -/
/-! ### what is no list, no tuple -/
section
variable {X : Cx} {W : Wd} {Γ : List DV} {μ : Mu} {e : Expr} {d : PyData} {pos p q1 q2 pt : Pos} {kt : Nat}
end
/-! ### law 18 -/
abbrev wMany : PyData := sD [109, 97, 110, 121]
end HW
set_option maxHeartbeats 4000000
namespace HW
open PySem PySem.Spec PyProof.Rows L2
open SX (S)
open PySem.W (dataLt AlikeAll AllAlike Sortable EachIs dataLe alike)
/-! ### sorted(set(..)) over any keys -/
section
variable {prog : Program} {w : World} {A : Around} {E : Value → Shared → Prop} {s : Shared} {K : Type} [DecidableEq K] {knd : KeyKind prog w K}
end
section
variable {X : Cx} {W : Wd} {Γ : List DV} {μ : Mu} {a : Expr} {p p2 q pos : Pos} {ws zs : List Nat}
end
/-! ### masks laid together -/
def togP (a b : List Nat) (q : Nat) : List Nat := seenL a ++ (seenL b).map (q + ·)
def maxP (l : List Nat) : Nat := l.foldl Nat.max 0
theorem maxP_spec (l : List Nat) : (∀ x ∈ l, x ≤ maxP l) ∧ (l ≠ [] → maxP l ∈ l) := by
  have key : ∀ (l : List Nat) (a : Nat), (a ≤ l.foldl Nat.max a ∧ ∀ x ∈ l, x ≤ l.foldl Nat.max a) ∧ (l.foldl Nat.max a = a ∨ l.foldl Nat.max a ∈ l) := by
    intro l
    induction l with
    | nil => intro a; exact ⟨⟨Nat.le_refl _, fun x h => nomatch h⟩, .inl rfl⟩
    | cons y l ih =>
      intro a
      rw [List.foldl_cons]
      obtain ⟨⟨h1, h2⟩, h3⟩ := ih (Nat.max a y)
      have e1 : a ≤ Nat.max a y := Nat.le_max_left _ _
      have e2 : y ≤ Nat.max a y := Nat.le_max_right _ _
      refine ⟨⟨Nat.le_trans e1 h1, fun x hx => ?_⟩, ?_⟩
      · rcases List.mem_cons.mp hx with e | hx
        · rw [e]; exact Nat.le_trans e2 h1
        · exact h2 x hx
      · rcases h3 with h3 | h3
        · rw [h3]
          rcases Nat.le_total a y with q | q
          · rw [show Nat.max a y = y from Nat.max_eq_right q]
            exact .inr List.mem_cons_self
          · rw [show Nat.max a y = a from Nat.max_eq_left q]
            exact .inl rfl
        · exact .inr (List.mem_cons_of_mem _ h3)
  obtain ⟨⟨_, h2⟩, h3⟩ := key l 0
  refine ⟨h2, fun hne => ?_⟩
  rcases h3 with h3 | h3
  · cases l with
    | nil => exact absurd rfl hne
    | cons y l =>
      have q := h2 y List.mem_cons_self
      rw [h3] at q
      have e : maxP (y :: l) = y := by
        show (y :: l).foldl Nat.max 0 = y
        omega
      rw [e]
      exact List.mem_cons_self
  · exact h3
def togL (a b : List Nat) (q : Nat) : List Nat := maskOf (togP a b q) (maxP (togP a b q))
def R_together (ds : List PyData) (d : PyData) : Prop := ∃ (a b : List Nat) (q : Nat), ds = [sD a, sD b, nn q] ∧ maskB a = true ∧ maskB b = true ∧ q + b.length ≤ 12 ∧ d = sD (togL a b q)
def R_seen (ds : List PyData) (d : PyData) : Prop := ∃ m : List Nat, ds = [sD m] ∧ maskB m = true ∧ d = nD (seenL m)
theorem togP_mem {a b : List Nat} {q x : Nat} (ha : maskB a = true) (hb : maskB b = true) (hq : q + b.length ≤ 12) (h : x ∈ togP a b q) : x < 12 := by
  have := maskB_len ha
  rcases List.mem_append.mp h with h | h
  · have := mem_seen h
    omega
  · obtain ⟨y, hy, rfl⟩ := List.mem_map.mp h
    have := mem_seen hy
    omega
theorem togP_len {a b : List Nat} {q : Nat} (ha : maskB a = true) (hb : maskB b = true) : (togP a b q).length ≤ 24 := by
  have := maskB_len ha
  have := maskB_len hb
  have := seenL_len a
  have := seenL_len b
  unfold togP
  rw [List.length_append, List.length_map]
  omega
theorem togP_ne {a b : List Nat} {q : Nat} (ha : maskB a = true) : togP a b q ≠ [] := fun e => by
  have := maskB_seen ha
  have h : (togP a b q).length = 0 := by rw [e]; rfl
  unfold togP at h
  rw [List.length_append] at h
  omega
/-! ### law 2 -/
end HW
set_option maxHeartbeats 4000000
namespace HW
open PySem PySem.Spec PyProof.Rows L2
open SX (S)
open PySem.W (dataLt AlikeAll AllAlike Sortable EachIs dataLe alike)
/-! ### a local dict becomes data: locked -/
abbrev fkD (kvs : List (Key × PyData)) : PyData := dkD (kvs.map fun p => (kD p.1, p.2))
theorem kv_vals {K : PySem.W.Frag} {H : Hp} {κ : Type} : ∀ {ks : List (κ × V)} {kvs : List (κ × PyData)}, KvR K H ks kvs → VaAll K H (ks.map (·.2)) (kvs.map (·.2)) ∧ ks.map (·.1) = kvs.map (·.1)
  | _, _, .nil => ⟨.nil, rfl⟩
  | _, _, .cons h t => by
    obtain ⟨h1, h2⟩ := kv_vals t
    exact ⟨.cons h.2 h1, by rw [List.map_cons, List.map_cons, h.1, h2]⟩
theorem zip_kv {α : Type} (f : α → PyData) : ∀ l : List (α × PyData), l.map (fun p => (f p.1, p.2)) = (l.map fun p => f p.1).zip (l.map (·.2))
  | [] => rfl
  | p :: l => by rw [List.map_cons, List.map_cons, List.map_cons, List.zip_cons_cons, zip_kv f l]
section
variable {X : Cx} {W : Wd} {Γ : List DV} {μ : Mu} {sts : List Stmt} {D : Ends} {l : Addr}
theorem Rep.lockK {K : PySem.W.Frag} {H : Hp} {σ : L2.St} {m : MO} {od : Obj} {u : HO} {d : PyData} {i : Nat} (R : Rep K W Γ ((l, m) :: μ) σ H) (hi : Γ[i]? = some (.r l)) (hd' : l ∉ hd W μ → Va K (off (hd W μ) (upd H l (.frz od u))) (.ref l) d) : Rep K W (Γ.set i (.d d)) μ σ (upd H l (.frz od u)) := by
  obtain ⟨h0, hm⟩ := R.mu _ List.mem_cons_self
  have nd := R.nd
  rw [List.map_cons] at nd
  obtain ⟨n1, n2⟩ := List.nodup_cons.mp nd
  have nl : l ∉ hd W μ := fun q => by
    rcases List.mem_append.mp q with z | z
    · exact R.wd.hid l z h0
    · exact n1 z
  have sub : Same (off (hd W ((l, m) :: μ)) H) (off (hd W μ) (upd H l (.frz od u))) := fun a o e => by
    obtain ⟨e1, e2⟩ := off_some e
    have na : a ≠ l := fun z => e1 (List.mem_append_right _ (by rw [z, List.map_cons]; exact List.mem_cons_self))
    rw [off_out (fun z => by
      rcases List.mem_append.mp z with z | z
      · exact e1 (List.mem_append_left _ z)
      · exact e1 (List.mem_append_right _ (by rw [List.map_cons]; exact List.mem_cons_of_mem _ z))), upd_ne na]
    exact e2
  obtain ⟨o, e1, e2⟩ := R.sl.at_ i _ hi
  obtain rfl : o = some (.ref l) := e2
  have s2 := (R.sl.up sub).set i (hd' nl)
  have es : σ.set i (some (.ref l)) = σ := by
    apply List.ext_getElem?
    intro k
    by_cases q : k = i
    · subst q
      rw [List.getElem?_set_self (List.getElem?_eq_some_iff.mp e1).1, e1]
    · rw [List.getElem?_set_ne (Ne.symm q)]
  rw [es] at s2
  refine ⟨R.wd, ⟨fun a o n e => ?_, fun r scr ns e => ?_⟩, s2, fun p hp => ⟨(R.mu p (List.mem_cons_of_mem _ hp)).1, (R.mu p (List.mem_cons_of_mem _ hp)).2.up sub fun o z => ?_⟩, n2⟩
  · have na : a ≠ l := fun z => by rw [z, h0] at e; cases e
    rw [upd_ne na]
    exact R.fr.keep a o n e
  · obtain ⟨i', s', q', z1, z2⟩ := R.fr.row r scr ns e
    have na : r ≠ l := fun z => R.wd.hid r (R.wd.row _ _ _ e).1 (z ▸ h0)
    exact ⟨i', s', q', by rw [upd_ne na]; exact z1, z2⟩
  · have na : p.1 ≠ l := fun e => n1 (by rw [← e]; exact List.mem_map.mpr ⟨p, hp, rfl⟩)
    rw [upd_ne na]
    exact z
/-- a local dict that is only read from now on -/
theorem run_frzK {kvs : List (Key × PyData)} (i : Nat) (h : Run X W (Γ.set i (.d (fkD kvs))) μ sts D) (hi : Γ[i]? = some (.r l) := by rfl) : Run X W Γ ((l, .dK kvs) :: μ) sts D := fun σ H R pins s I => by
  obtain ⟨h0, ks, hk, hv⟩ := R.mu _ List.mem_cons_self
  obtain ⟨od, I2⟩ := I.lock hk trivial
  refine h σ _ (R.lockK (od := od) (u := .dK ks) hi fun nl => ?_) pins s I2
  obtain ⟨v1, v2⟩ := kv_vals hv
  have sub : Same (off (hd W ((l, .dK kvs) :: μ)) H) (off (hd W μ) (upd H l (.frz od (.dK ks)))) := fun a o e => by
    obtain ⟨e1, e2⟩ := off_some e
    have na : a ≠ l := fun z => e1 (List.mem_append_right _ (by rw [z, List.map_cons]; exact List.mem_cons_self))
    rw [off_out (fun z => by
      rcases List.mem_append.mp z with z | z
      · exact e1 (List.mem_append_left _ z)
      · exact e1 (List.mem_append_right _ (by rw [List.map_cons]; exact List.mem_cons_of_mem _ z))), upd_ne na]
    exact e2
  refine .dcf (by rw [off_out nl, upd_same]) (v1.up sub) ?_
  rw [zip_kv kD kvs]
  congr 1
  have z := congrArg (List.map kD) v2
  rw [List.map_map, List.map_map] at z
  exact z.symm
end
section
variable {X : Cx} {W : Wd} {Γ : List DV} {μ : Mu} {tg e : Expr} {apos cpos : Pos} {kvs : List (Key × PyData)}
theorem fk_of {K : PySem.W.Frag} {H : Hp} {v : V} (h : Va K H v (fkD kvs)) : ∃ (a : Addr) (o : Obj) (ks : List (Key × V)), v = .ref a ∧ H a = some (.frz o (.dK ks)) ∧ VaAll K H (ks.map (·.2)) (kvs.map (·.2)) ∧ ks.map (fun p => kD p.1) = kvs.map (fun p => kD p.1) := by
  cases h with
  | @dcf a o ks ds kvs' h1 h2 h3 =>
    have hl : (ks.map fun p => kD p.1).length = ds.length := by rw [List.length_map, ← h2.length, List.length_map]
    rw [zip_kv kD kvs] at h3
    have hl2 : (kvs.map fun p => kD p.1).length = (kvs.map (·.2)).length := by rw [List.length_map, List.length_map]
    have e1 := congrArg (List.map Prod.fst) h3
    have e2 := congrArg (List.map Prod.snd) h3
    rw [List.map_fst_zip (by omega), List.map_fst_zip (by omega)] at e1
    rw [List.map_snd_zip (by omega), List.map_snd_zip (by omega)] at e2
    exact ⟨a, o, ks, rfl, h1, e2 ▸ h2, e1.symm⟩
/-- .values() of a locked dict -/
theorem it_fvals (he : Ed X W Γ μ e (fkD kvs)) (hbase : attributeBase e "values" X.env (eval e X.env) = eval e X.env := by rfl) (hline : (apos.endLine == cpos.line) = true := by rfl) : IterD X W Γ μ tg (.Call (.Attribute e "values" apos) [] [] cpos) (fun y => y) (kvs.map (·.2)) :=
  ⟨_, pi_values wE.pe hbase hline, fun σ H R R' k => he σ H R _ fun v H1 R1 e1 r1 => by
    obtain ⟨a, o, ks, rfl, h1, h2, h3⟩ := fk_of r1
    have hl : ks.length = kvs.length := by
      have := h2.length
      rw [List.length_map, List.length_map] at this
      exact this
    refine ⟨a, o, ks, rfl, (off_some h1).2, k _ _ H1 rfl R1 e1 ⟨fun i H hi s => ⟨s a _ h1, by rw [List.length_map, List.length_map] at hi; omega⟩, fun i d H v H' L hd _ s y => ?_, fun H s => ⟨s a _ h1, by rw [List.length_map, List.length_map]; omega⟩⟩⟩
    obtain ⟨rfl, key, hy⟩ := y
    refine ⟨Same.refl _, ?_⟩
    rw [List.map_id'] at hd
    obtain ⟨v2, z1, z2⟩ := h2.at hd
    rw [List.getElem?_map, hy] at z1
    cases z1
    exact z2.up s⟩
end
/-! ### d.get(k, other) of a local dict -/
section
variable {X : Cx} {W : Wd} {Γ : List DV} {μ : Mu} {e f : Expr} {pos p apos : Pos} {n : Str} {l : Addr} {kvs : List (Key × PyData)} {k : Key} {d : PyData}
theorem ed_dget2 (i j : Nat) (hu : X.A.units + 64 < cLine) (he : Ed X W Γ μ e (kD k)) (hf : Ed X W Γ μ f d) (hi : Γ[i]? = some (.r l) := by rfl) (hj : μ[j]? = some (l, .dK kvs) := by rfl) (hN : X.N[i]? = some n := by rfl) (hv : Vis X.env.scope n := by first | exact Or.inl rfl | exact Or.inr (Or.inl rfl) | exact Or.inr (Or.inr rfl))
    (h1 : (n == ("__debug__" : Str)) = false := by decide) (h2 : (n == ("__classdict__" : Str)) = false := by decide) (m : M2 X (.Name n p) "get" apos e f pos := by exact ⟨rfl, rfl, rfl, rfl⟩) :
    Ed X W Γ μ (.Call (.Attribute (.Name n p) "get" apos) [e, f] [] pos) ((vK kvs k).getD d) := fun σ H R Q q => by
  refine (pe_dget2 (by omega) (pe_var hN hv h1 h2) wE.pe wE.pe m).w ?_
  obtain ⟨o, g1, g2⟩ := R.sl.at_ i _ hi
  obtain rfl : o = some (.ref l) := g2
  obtain ⟨ks0, hk0, _⟩ := (R.mu _ (List.mem_of_getElem? hj)).2
  refine ⟨_, g1, l, rfl, .inl ⟨ks0, .inl hk0⟩, he σ H R _ fun v H2 R2 e2 r2 => hf σ H2 R2 _ fun u H3 R3 e3 r3 => ?_⟩
  obtain ⟨ks, hk, hp⟩ := (R3.mu _ (List.mem_of_getElem? hj)).2
  obtain rfl := va_key r2
  refine ⟨valV ks k, DGet.k hk, ?_⟩
  rcases kv_val k hp with ⟨z1, z2⟩ | ⟨v', d', z1, z2, z3⟩
  · rw [z1]
    rw [z2] at q
    exact q _ H3 R3 (e2.trans e3) r3
  · rw [z1]
    rw [z2] at q
    exact q _ H3 R3 (e2.trans e3) z3
end
/-! ### list.index with a start -/
section
variable {X : Cx} {W : Wd} {Γ : List DV} {μ : Mu} {o e f : Expr} {apos pos : Pos} {ws : List (List Nat)} {w : List Nat} {j st : Nat}
def rIdxFrom (K : PySem.W.Frag) : V → List V → Hp → VK → Prop := fun x xs H Q => ∃ (a : Addr) (ys : List V) (y : V) (st j : Nat) (z : V), x = V.ref a ∧ xs = [y, V.int (st : Nat)] ∧ SqL K H a ys ∧ flatV y = true ∧ ys.all flatV = true ∧ st ≤ j ∧ ys[j]? = some z ∧ eqV z y = true ∧
  (∀ (m : Nat) (z' : V), st ≤ m → m < j → ys[m]? = some z' → eqV z' y = false) ∧ Q (.int (j : Nat)) H
theorem mt_idxFrom : MtR X "list.index" (rIdxFrom X.K) := fun pins s σ H x xs v us Q I rx rxs => by
  rintro ⟨a, ys, y, st, j, z, rfl, rfl, hs, fy, fys, hst, hz, hzj, hno, q⟩
  cases rx
  obtain ⟨its, rv, ⟨⟨cls, dd, data, sl⟩, n, ho, hc, _, hd⟩, hlen⟩ := I.list hs
  obtain rfl : cls = _ := hc
  obtain rfl : data = _ := hd
  cases rxs with
  | @cons _ uy _ ut ry rt =>
    cases rt with
    | @cons _ uz _ ut2 rz rt2 =>
      cases rt2
      obtain ⟨tk, rfl⟩ := rz
      obtain ⟨u, hu, ru⟩ := rv.get hz
      have hjl := (List.getElem?_eq_some_iff.mp hu).1
      have hvl := rv.length
      have hsl := sizeLine_eq
      have get (m : Nat) (hm : m < its.toArray.size) : ∃ z', ys[m]? = some z' ∧ eqU y its.toArray[m] = eqV z' y := by
        have hml : m < its.length := by simpa using hm
        have hy' : ys[m]? = some ys[m] := List.getElem?_eq_getElem (by omega)
        obtain ⟨u2, hu2, ru2⟩ := rv.get hy'
        have e1 : its.toArray[m] = u2 := by simpa using (List.getElem?_eq_some_iff.mp hu2).2
        exact ⟨_, hy', by rw [e1, eqU_of ru2 (flat_at fys hy')]⟩
      have hj : j < its.toArray.size := by simpa using hjl
      refine call_meets PySem.F.slot_list_index ⟨_, ho, rfl⟩ PySem.F.entry_list_index (PySem.F.args_list_index_3 _ _ _)
        (SeqAt.list_index3_found a its.toArray n dd sl uy (fun m => if h : m < its.toArray.size then eqU y its.toArray[m] else false) st tk j hj (by rw [SeqAt.searchFrom_nat]; exact hst) (by omega) ?_ ?_) ⟨ho, fun m hm => ?_, .int (j : Nat), H, I.tok _, ⟨_, rfl⟩, q⟩
      · obtain ⟨z', h1, h2⟩ := get j hj
        rw [hz] at h1
        cases h1
        show (if h : j < its.toArray.size then eqU y its.toArray[j] else false) = true
        rw [dif_pos hj, h2]
        exact hzj
      · intro m hm h1 h2
        rw [SeqAt.searchFrom_nat] at h1
        obtain ⟨z', h3, h4⟩ := get m hm
        show (if h : m < its.toArray.size then eqU y its.toArray[m] else false) = false
        rw [dif_pos hm, h4]
        exact hno m z' h1 h2 h3
      · show SeqAt.EqAt _ _ its.toArray[m] uy (if h : m < its.toArray.size then eqU y its.toArray[m] else false)
        rw [dif_pos hm]
        exact mem_eqAt ry fy rv fys _ (by simpa using List.getElem_mem (l := its) (by simpa using hm))
theorem ed_indexFrom (ho : Ed X W Γ μ o (wD ws)) (he : Ed X W Γ μ e (sD w)) (hf : Ed X W Γ μ f (nn st)) (hst : st ≤ j) (hj : ws[j]? = some w) (hno : ∀ m, st ≤ m → m < j → ws[m]? ≠ some w)
    (hbase : attributeBase o "index" X.env (eval o X.env) = eval o X.env := by rfl)
    (hfew : ((backTo pos (starEach [e, f] X.env)).all (fun x => !x.1) && (backToKw pos (keywordEach [] X.env)).all (fun x => x.1.isSome)
      && decide ([e, f].length + ([] : List Keyword).length + (if ([] : List Keyword).isEmpty then 0 else 1) < 30)) = true := by rfl)
    (hline : (apos.endLine == pos.line) = true := by rfl) (hs : starEach [e, f] X.env = (false, eval e X.env) :: starEach [f] X.env := by rfl) (hs2 : starEach [f] X.env = (false, eval f X.env) :: starEach [] X.env := by rfl) (hplain : (backTo pos (starEach [f] X.env)).any (·.1) = false := by rfl) :
    Ed X W Γ μ (.Call (.Attribute o "index" apos) [e, f] [] pos) (nn j) := fun σ H R Q q => by
  refine (pe_bm PySem.F.plainAttrs_list PySem.F.slot_list_index PySem.F.type_list_index mt_idxFrom wE.pe (pa_cons wE.pe (pa_cons wE.pe pa_nil hs2) hs) hbase hfew hline hs hplain).w (ho σ H R _ fun v H2 R2 e2 r2 => ?_)
  cases r2 with
  | lst ha hv =>
    refine ⟨.inl ⟨rfl, _, SqL.of (off_some ha).2⟩, he σ H2 R2 _ fun u H3 R3 e3 r3 => hf σ H3 R3 _ fun u4 H4 R4 e4 r4 => ?_⟩
    cases r3
    cases r4
    obtain rfl := vaAll_S hv
    have same {m : Nat} {z : V} (hz : ((ws.map S).map V.str)[m]? = some z) : ∃ u, ws[m]? = some u ∧ z = V.str (S u) := by
      rw [List.getElem?_map, List.getElem?_map] at hz
      cases em : ws[m]? with
      | none => rw [em] at hz; cases hz
      | some u => rw [em] at hz; cases hz; exact ⟨u, rfl, rfl⟩
    refine ⟨_, _, _, st, j, V.str (S w), rfl, rfl, SqL.of (off_some (e4 _ _ (e3 _ _ ha))).2, rfl, flat_S ws, hst, ?_, ?_, fun m z h1 h2 hz => ?_, q _ H4 R4 ((e2.trans e3).trans e4) (.int _)⟩
    · rw [List.getElem?_map, List.getElem?_map, hj]
      rfl
    · rw [eqV_S]
      exact decide_eq_true rfl
    · obtain ⟨u, hu, rfl⟩ := same hz
      rw [eqV_S]
      exact decide_eq_false fun eu => hno m h1 h2 (by rw [hu, eu])
end
/-! ### like views -/
section
variable (ws : List (List Nat))
abbrev wAt (i : Nat) : List Nat := ws.getD i []
def firstB (i : Nat) : Bool := (List.range i).all fun j => decide (wAt ws j ≠ wAt ws i)
def plcN (n : Nat) (v : List Nat) : List Nat := (List.range n).filter fun j => decide (wAt ws j = v)
abbrev tupN (l : List Nat) : PyData := .tuple (l.map nn)
def grpK (n : Nat) : List (Key × PyData) := ((List.range n).filter (firstB ws)).map fun i => (kS (wAt ws i), tupN (plcN ws n (wAt ws i)))
theorem plc_succ (n : Nat) (v : List Nat) : plcN ws (n + 1) v = plcN ws n v ++ (if wAt ws n = v then [n] else []) := by
  unfold plcN
  rw [List.range_succ, List.filter_append]
  congr 1
  by_cases h : wAt ws n = v
  · rw [if_pos h, List.filter_cons, if_pos (decide_eq_true h), List.filter_nil]
  · rw [if_neg h, List.filter_cons, if_neg (by simpa using h), List.filter_nil]
theorem first_iff {i : Nat} : firstB ws i = true ↔ ∀ j, j < i → wAt ws j ≠ wAt ws i := by
  unfold firstB
  rw [List.all_eq_true]
  exact ⟨fun h j hj => of_decide_eq_true (h j (List.mem_range.mpr hj)), fun h j hj => decide_eq_true (h j (List.mem_range.mp hj))⟩
theorem first_ex {n j : Nat} (hj : j < n) : ∃ i, i ≤ j ∧ firstB ws i = true ∧ wAt ws i = wAt ws j := by
  obtain ⟨i, h1, h2, h3⟩ := least_of (p := fun i => wAt ws i = wAt ws j) j rfl
  exact ⟨i, h1, (first_iff ws).mpr fun k hk e => h3 k hk (e.trans h2), h2⟩
theorem grp_mem {n : Nat} {kv : Key × PyData} (h : kv ∈ grpK ws n) : ∃ i, i < n ∧ firstB ws i = true ∧ kv = (kS (wAt ws i), tupN (plcN ws n (wAt ws i))) := by
  unfold grpK at h
  obtain ⟨i, hi, e⟩ := List.mem_map.mp h
  obtain ⟨h1, h2⟩ := List.mem_filter.mp hi
  exact ⟨i, List.mem_range.mp h1, h2, e.symm⟩
theorem grp_get (n : Nat) (v : List Nat) : (vK (grpK ws n) (kS v)).getD (.tuple []) = tupN (plcN ws n v) := by
  unfold vK
  cases e : (grpK ws n).find? fun kv => decide (kv.1 = kS v) with
  | some kv =>
    have h1 := List.find?_some e
    obtain ⟨i, hi, hf, rfl⟩ := grp_mem ws (List.mem_of_find?_eq_some e)
    have : wAt ws i = v := kS_inj (of_decide_eq_true h1)
    show tupN _ = tupN _
    rw [this]
  | none =>
    rw [List.find?_eq_none] at e
    have : plcN ws n v = [] := by
      unfold plcN
      rw [List.filter_eq_nil_iff]
      intro j hj hd
      have hj := List.mem_range.mp hj
      obtain ⟨i, h1, h2, h3⟩ := first_ex ws (n := n) hj
      have := e (kS (wAt ws i), tupN (plcN ws n (wAt ws i))) (List.mem_map.mpr ⟨i, List.mem_filter.mpr ⟨List.mem_range.mpr (by omega), h2⟩, rfl⟩)
      exact this (decide_eq_true (by rw [h3, of_decide_eq_true hd]))
    rw [this]
    rfl
theorem grp_put (n : Nat) : pK (grpK ws n) (kS (wAt ws n)) (tupN (plcN ws n (wAt ws n) ++ [n])) = grpK ws (n + 1) := by
  have hs : plcN ws (n + 1) (wAt ws n) = plcN ws n (wAt ws n) ++ [n] := by rw [plc_succ, if_pos rfl]
  have hne : ∀ i, wAt ws i ≠ wAt ws n → plcN ws (n + 1) (wAt ws i) = plcN ws n (wAt ws i) := fun i h => by rw [plc_succ, if_neg (fun e => h e.symm), List.append_nil]
  unfold pK
  by_cases hf : firstB ws n = true
  · rw [if_neg]
    · unfold grpK
      rw [List.range_succ, List.filter_append, List.filter_cons, if_pos hf, List.filter_nil, List.map_append]
      congr 1
      · refine List.map_congr_left fun i hi => ?_
        have hi := List.mem_range.mp (List.mem_filter.mp hi).1
        rw [hne i ((first_iff ws).mp hf i hi)]
      · rw [List.map_cons, List.map_nil, hs]
    · rw [List.any_eq_true]
      rintro ⟨kv, hkv, hd⟩
      obtain ⟨i, hi, _, rfl⟩ := grp_mem ws hkv
      exact (first_iff ws).mp hf i hi (kS_inj (of_decide_eq_true hd))
  · have hf' : firstB ws n = false := by simpa using hf
    obtain ⟨j, hj, hjn⟩ : ∃ j, j < n ∧ wAt ws j = wAt ws n := Classical.byContradiction fun q => hf ((first_iff ws).mpr fun j hj e => q ⟨j, hj, e⟩)
    obtain ⟨i, h1, h2, h3⟩ := first_ex ws (n := n) hj
    rw [if_pos]
    · unfold grpK
      rw [List.range_succ, List.filter_append, List.filter_cons, if_neg hf, List.filter_nil, List.append_nil, List.map_map]
      refine List.map_congr_left fun i hi => ?_
      show (if (kS (wAt ws i) : Key) = kS (wAt ws n) then _ else _) = _
      by_cases e : wAt ws i = wAt ws n
      · rw [if_pos (by rw [e]), e, hs]
        show ((kS (wAt ws i) : Key), _) = _
        rw [e]
      · rw [if_neg (fun q => e (kS_inj q)), hne i e]
    · rw [List.any_eq_true]
      exact ⟨_, List.mem_map.mpr ⟨i, List.mem_filter.mpr ⟨List.mem_range.mpr (by omega), h2⟩, rfl⟩, decide_eq_true (by rw [h3, hjn])⟩
theorem grp_len (n : Nat) : (grpK ws n).length ≤ n := by
  unfold grpK
  rw [List.length_map]
  exact Nat.le_trans (List.length_filter_le ..) (by simp)
theorem plc_len (n : Nat) (v : List Nat) : (plcN ws n v).length ≤ n := Nat.le_trans (List.length_filter_le ..) (by simp)
theorem plc_head {n i : Nat} (hi : i < n) (hf : firstB ws i = true) : ∃ r, plcN ws n (wAt ws i) = i :: r := by
  have e : List.range n = List.range i ++ i :: (List.range (n - i - 1)).map (i + 1 + ·) := by
    have e1 : n = i + (n - i - 1 + 1) := by omega
    have e2 := List.range_add (n := i) (m := n - i - 1 + 1)
    rw [← e1, List.range_succ_eq_map] at e2
    rw [e2, List.map_cons, List.map_map]
    congr 2
    refine List.map_congr_left fun x _ => ?_
    show i + (x + 1) = i + 1 + x
    omega
  unfold plcN
  rw [e, List.filter_append, List.filter_cons, if_pos (decide_eq_true rfl)]
  have : (List.range i).filter (fun j => decide (wAt ws j = wAt ws i)) = [] := by
    rw [List.filter_eq_nil_iff]
    intro j hj hd
    exact (first_iff ws).mp hf j (List.mem_range.mp hj) (of_decide_eq_true hd)
  rw [this]
  exact ⟨_, rfl⟩
/-- the groups -/
def isGrp (n i : Nat) : Bool := firstB ws i && decide (1 < (plcN ws n (wAt ws i)).length)
def grpsL (k : Nat) : List PyData := ((List.range k).filter (isGrp ws ws.length)).map fun i => tupN (plcN ws ws.length (wAt ws i))
theorem lt_tup {a b : Nat} {r q : List Nat} (h : a < b) : dataLt (tupN (a :: r)) (tupN (b :: q)) = true := by
  have e1 : tupN (a :: r) = .tuple (nn a :: r.map nn) := rfl
  have e2 : tupN (b :: q) = .tuple (nn b :: q.map nn) := rfl
  rw [e1, e2, PySem.W.dataLt_tuple, PySem.W.dataLt_cons (by simp [alike]), PySem.W.dataLt_int]
  have e : PyData.eqv (nn a) (nn b) = false := by
    show ((a : Int) == (b : Int)) = false
    rw [beq_eq_false_iff_ne]
    omega
  rw [e, if_neg Bool.false_ne_true]
  exact decide_eq_true (by omega)
theorem grps_sorted : sortD (grpsL ws ws.length) = grpsL ws ws.length := by
  refine sortD_of (List.Perm.refl _) ?_
  unfold grpsL
  rw [List.pairwise_map]
  refine (List.Pairwise.filter _ List.pairwise_lt_range).imp_of_mem fun {a b} ha hb h => ?_
  obtain ⟨a1, a2⟩ := List.mem_filter.mp ha
  obtain ⟨b1, b2⟩ := List.mem_filter.mp hb
  unfold isGrp at a2 b2
  rw [Bool.and_eq_true] at a2 b2
  obtain ⟨r, e1⟩ := plc_head ws (List.mem_range.mp a1) a2.1
  obtain ⟨q, e2⟩ := plc_head ws (List.mem_range.mp b1) b2.1
  rw [e1, e2]
  exact lt_tup h
theorem alike_ints : ∀ a b : List Nat, PySem.W.alikeAll (a.map nn) (b.map nn) = true
  | [], [] => by simp [PySem.W.alikeAll]
  | [], _ :: _ => by simp [PySem.W.alikeAll]
  | _ :: _, [] => by simp [PySem.W.alikeAll]
  | x :: a, y :: b => by
    rw [List.map_cons, List.map_cons, PySem.W.alikeAll, alike_ints a b]
    simp [alike]
theorem grps_alike (k : Nat) : AllAlike (grpsL ws k) := fun x hx y hy => by
  obtain ⟨i, _, rfl⟩ := List.mem_map.mp hx
  obtain ⟨j, _, rfl⟩ := List.mem_map.mp hy
  rw [alike]
  exact alike_ints _ _
theorem grps_sortable (k : Nat) (hk : k ≤ ws.length) : Sortable (grpsL ws k) := .inl fun d hd => by
  obtain ⟨i, hi, rfl⟩ := List.mem_map.mp hd
  obtain ⟨h1, h2⟩ := List.mem_filter.mp hi
  unfold isGrp at h2
  rw [Bool.and_eq_true] at h2
  obtain ⟨r, e⟩ := plc_head ws (n := ws.length) (by have := List.mem_range.mp h1; omega) h2.1
  rw [e]
  exact ⟨_, _, rfl⟩
/-! the first like ones -/
def likeJ (i : Nat) : List Nat := (List.range ws.length).filter fun j => decide (i < j) && decide (wAt ws i = wAt ws j)
def likeP : List (Nat × Nat) := (List.range ws.length).flatMap fun i => (likeJ ws i).map fun j => (i, j)
abbrev prN (q : Nat × Nat) : PyData := pr2 (nn q.1) (nn q.2)
def optP : Option (Nat × Nat) → PyData
  | none => .none
  | some q => prN q
theorem like_head {i j : Nat} (hi : i < ws.length) (hb : ∀ i', i' < i → likeJ ws i' = []) (h : (likeJ ws i).head? = some j) : (likeP ws).head? = some (i, j) := by
  have e : List.range ws.length = List.range i ++ i :: (List.range (ws.length - i - 1)).map (i + 1 + ·) := by
    have e1 : ws.length = i + (ws.length - i - 1 + 1) := by omega
    have e2 := List.range_add (n := i) (m := ws.length - i - 1 + 1)
    rw [← e1, List.range_succ_eq_map] at e2
    rw [e2, List.map_cons, List.map_map]
    congr 2
    refine List.map_congr_left fun x _ => ?_
    show i + (x + 1) = i + 1 + x
    omega
  unfold likeP
  rw [e, List.flatMap_append, List.flatMap_cons]
  have : (List.range i).flatMap (fun i => (likeJ ws i).map fun j => (i, j)) = [] := by
    rw [List.flatMap_eq_nil_iff]
    intro i' hi'
    rw [hb i' (List.mem_range.mp hi')]
    rfl
  rw [this, List.nil_append]
  cases e3 : likeJ ws i with
  | nil => rw [e3] at h; cases h
  | cons a t =>
    rw [e3] at h
    cases h
    rfl
theorem like_none (h : ∀ i, i < ws.length → likeJ ws i = []) : likeP ws = [] := by
  unfold likeP
  rw [List.flatMap_eq_nil_iff]
  intro i hi
  rw [h i (List.mem_range.mp hi)]
  rfl
end
def R_alike (ds : List PyData) (d : PyData) : Prop := ∃ l m : List Nat, ds = [sD l, sD m] ∧ rowB l = true ∧ maskB m = true ∧ d = optP (likeP (viewsL l m)).head?
def R_groups (ds : List PyData) (d : PyData) : Prop := ∃ l m : List Nat, ds = [sD l, sD m] ∧ rowB l = true ∧ maskB m = true ∧ d = .list (grpsL (viewsL l m) (viewsL l m).length)
end HW
set_option maxHeartbeats 4000000
namespace HW
open PySem PySem.Spec PyProof.Rows L2
section
variable {ws : List (List Nat)} {z : List Nat} {i : Nat}
theorem wAt_of (h : ws[i]? = some z) : wAt ws i = z := by
  show ws.getD i [] = z
  rw [List.getD_eq_getElem?_getD, h]
  rfl
theorem like_hit (hz : ws[i]? = some z) (h : z ∈ ws.drop (i + 1)) : ∃ j, i + 1 ≤ j ∧ ws[j]? = some z ∧ (∀ m, i + 1 ≤ m → m < j → ws[m]? ≠ some z) ∧ (likeJ ws i).head? = some j := by
  obtain ⟨n, hn⟩ := List.mem_iff_getElem?.mp h
  rw [List.getElem?_drop] at hn
  obtain ⟨j, _, ⟨h1, h2⟩, h3⟩ := least_of (p := fun j => i + 1 ≤ j ∧ ws[j]? = some z) (i + 1 + n) ⟨by omega, hn⟩
  refine ⟨j, h1, h2, fun m g1 g2 g3 => h3 m g2 ⟨g1, g3⟩, ?_⟩
  have hj := (List.getElem?_eq_some_iff.mp h2).1
  unfold likeJ
  rw [List.head?_filter, List.find?_range_eq_some]
  refine ⟨?_, List.mem_range.mpr hj, fun m hm => ?_⟩
  · rw [wAt_of hz, wAt_of h2, decide_eq_true (by omega : i < j), decide_eq_true rfl]
    rfl
  · by_cases g : i < m
    · have hml : m < ws.length := by omega
      have e : ws[m]? = some ws[m] := List.getElem?_eq_getElem hml
      have : wAt ws i ≠ wAt ws m := by
        rw [wAt_of hz, wAt_of e]
        intro q
        exact h3 m hm ⟨by omega, by rw [e, ← q]⟩
      rw [decide_eq_false this, Bool.and_false]
      rfl
    · rw [decide_eq_false g]
      rfl
theorem like_miss (hz : ws[i]? = some z) (h : z ∉ ws.drop (i + 1)) : likeJ ws i = [] := by
  unfold likeJ
  rw [List.filter_eq_nil_iff]
  intro j hj hd
  have hj := List.mem_range.mp hj
  rw [Bool.and_eq_true, decide_eq_true_eq, decide_eq_true_eq, wAt_of hz] at hd
  have e : ws[j]? = some ws[j] := List.getElem?_eq_getElem hj
  rw [wAt_of e] at hd
  refine h (List.mem_iff_getElem?.mpr ⟨j - (i + 1), ?_⟩)
  rw [List.getElem?_drop, show i + 1 + (j - (i + 1)) = j by omega, e, hd.2]
theorem depth_nn : ∀ l : List Nat, PyData.depthAll (l.map nn) = 0
  | [] => rfl
  | a :: l => by
    rw [List.map_cons]
    show max (PyData.depth (nn a)) (PyData.depthAll (l.map nn)) = 0
    rw [depth_nn l]
    rfl
theorem dep_tupN (l : List Nat) : (tupN l).depth = 1 := by
  rw [PyData.depth, depth_nn]
theorem nod_tupN (l : List Nat) : nod (tupN l) = true := nodAll_map (f := nn) (fun _ => rfl) l
def isLot : PyData → Bool
  | .tuple xs => decide (1 < xs.length)
  | _ => false
theorem grp_vals (ws : List (List Nat)) : ((grpK ws ws.length).map (·.2)).filter isLot = grpsL ws ws.length := by
  unfold grpK grpsL
  rw [List.map_map, List.filter_map, List.filter_filter]
  congr 1
  refine List.filter_congr fun i hi => ?_
  show (decide (1 < ((plcN ws ws.length (wAt ws i)).map nn).length) && firstB ws i) = isGrp ws ws.length i
  unfold isGrp
  rw [List.length_map, Bool.and_comm]
theorem mem_grp {x : PyData} (h : x ∈ (grpK ws ws.length).map (·.2)) : ∃ t : List Nat, x = tupN t ∧ t.length ≤ ws.length := by
  obtain ⟨kv, h1, rfl⟩ := List.mem_map.mp h
  obtain ⟨i, _, _, rfl⟩ := grp_mem ws h1
  exact ⟨_, rfl, plc_len ..⟩
end
end HW
set_option maxHeartbeats 4000000
namespace HW
open PySem PySem.Spec PyProof.Rows L2
open SX (S)
/-! ### what raises within an expression -/
section
variable {X : Cx} {W : Wd} {Γ : List DV} {μ : Mu} {e a b : Expr} {es : List Expr} {rest : List Stmt} {D : Ends} {p pos : Pos}
end
/-! ### n1, n2, n3 = a, b, c -/
section
variable {X : Cx} {W : Wd} {Γ : List DV} {μ : Mu} {a b c : Expr} {rest : List Stmt} {D : Ends} {n1 n2 n3 : Str} {p1 p2 p3 pos : Pos}
end
/-! ### patterns, looks, steps -/
/-! ### the calls of law 33 -/
end HW
set_option maxHeartbeats 4000000
namespace HW
open PySem PySem.Spec PyProof.Rows L2
open SX (S)
/-! ### sets of tuples, whatever kind of key the items are (fewer than 64 of them) -/
/-- items that are taken by value -/
structure Plain {pr : Program} {wo : World} {κ : Type} [DecidableEq κ] (kd : PySem.KeyKind pr wo κ) : Prop where
  cls : ∀ k v, kd.is k v = true → ∀ n, ofAClassStatement n v = pure false
  hsh : ∀ k v, kd.is k v = true → ∃ bo, ∀ n, hashByValue n v = pure bo
theorem plainStr (pr : Program) (wo : World) : Plain (PySem.strKind pr wo) where
  cls := fun k v h n => by
    cases v with
    | str x t => cases n <;> rfl
    | _ => cases h
  hsh := fun k v h => by
    cases v with
    | str x t => exact ⟨_, fun n => hashByValue_scannable n rfl⟩
    | _ => cases h
section
variable {pr : Program} {wo : World} {κ : Type} [DecidableEq κ] {kd : PySem.KeyKind pr wo κ} {A : Around} {Er : Value → Shared → Prop} {st : Shared}
theorem each_is {ks : List κ} {vs : List Value} (h : ItemsAre kd ks vs) : ∀ v ∈ vs, ∃ k, kd.is k v = true := by
  induction h with
  | nil => intro v hv; cases hv
  | @cons k v' ks vs h1 _ ih =>
    intro v hv
    rcases List.mem_cons.mp hv with rfl | hv
    · exact ⟨k, h1⟩
    · exact ih v hv
/-- a walk over items that all answer alike leaves the state -/
theorem cls_tup (pl : Plain kd) {ks : List κ} {b : Addr} {Q : Bool → Shared → Prop} (hk : IsTupleKey kd st.heap ks b) (q : Q false st) : wpAny (model pr wo) A (ofAClassStatement 8 (.ref b)) Q Er st := by
  have ty := hk.typeIs
  obtain ⟨o, its, c, ho, _, hd, hi⟩ := hk
  unfold ofAClassStatement
  refine wpAny_bind (wpAny_typeOf ty ?_)
  dsimp only
  have e : (("tuple" : String) == "tuple") = true := by decide
  simp only [e, if_true, Bool.not_true, Bool.false_eq_true, if_false]
  try refine wpAny_bind (wpAny_pure ?_)
  try simp only [Bool.not_true, Bool.false_eq_true, if_false]
  show wpAny _ _ (seqItems? (.ref b) >>= _) _ _ st
  refine wpAny_bind (wpAny_seqItems ho hd ?_)
  dsimp only
  refine wpAny_bind ?_
  show wpAny _ _ (forIn its _ _) _ _ st
  rw [← Array.forIn_toList]
  refine wpAny_forIn_list _ (fun left acc st2 => acc.1 = none ∧ st2 = st ∧ ∀ v ∈ left, ∃ k, kd.is k v = true) _ ?_ ?_ _ _ ⟨rfl, rfl, each_is hi⟩
  · rintro v left acc st2 ⟨_, rfl, all⟩
    obtain ⟨k, hv⟩ := all v List.mem_cons_self
    rw [pl.cls k v hv]
    refine wpAny_bind (wpAny_pure ?_)
    simp only [Bool.false_eq_true, if_false]
    exact wpAny_pure ⟨rfl, rfl, fun u hu => all u (List.mem_cons_of_mem _ hu)⟩
  · rintro ⟨a1, a2⟩ st2 ⟨h1, rfl, _⟩
    obtain rfl : a1 = none := h1
    exact wpAny_pure q
theorem hsh_tup (pl : Plain kd) {ks : List κ} {b : Addr} {Q : Bool → Shared → Prop} (hk : IsTupleKey kd st.heap ks b) (q : ∀ bo, Q bo st) : wpAny (model pr wo) A (hashByValue 8 (.ref b)) Q Er st := by
  have ty := hk.typeIs
  obtain ⟨o, its, c, ho, _, hd, hi⟩ := hk
  unfold hashByValue
  refine wpAny_bind (wpAny_specialOf ty F.slot_tuple_hash.lookup ?_)
  show wpAny _ _ (seqItems? (.ref b) >>= _) _ _ st
  refine wpAny_bind (wpAny_seqItems ho hd ?_)
  refine wpAny_bind ?_
  show wpAny _ _ (forIn its _ _) _ _ st
  rw [← Array.forIn_toList]
  refine wpAny_forIn_list _ (fun left acc st2 => acc.1 = none ∧ st2 = st ∧ ∀ v ∈ left, ∃ k, kd.is k v = true) _ ?_ ?_ _ _ ⟨rfl, rfl, each_is hi⟩
  · rintro v left acc st2 ⟨_, rfl, all⟩
    obtain ⟨k, hv⟩ := all v List.mem_cons_self
    obtain ⟨bo, hbo⟩ := pl.hsh k v hv
    rw [hbo]
    refine wpAny_bind (wpAny_pure ?_)
    cases bo with
    | true =>
      simp only [Bool.not_true, Bool.false_eq_true, if_false]
      exact wpAny_pure ⟨rfl, rfl, fun u hu => all u (List.mem_cons_of_mem _ hu)⟩
    | false =>
      simp only [Bool.not_false, if_true]
      exact wpAny_pure (wpAny_pure (q false))
  · rintro ⟨a1, a2⟩ st2 ⟨h1, rfl, _⟩
    obtain rfl : a1 = none := h1
    exact wpAny_pure (q true)
/-- looking for a tuple among tuples shows nothing of the table -/
theorem quiet_tup (pl : Plain kd) {ks : List κ} {b : Addr} {Q : Bool → Shared → Prop} (hk : IsTupleKey kd st.heap ks b) {ys : List Value} (hy : ∀ y ∈ ys, ∃ ks2 b2, y = Value.ref b2 ∧ IsTupleKey kd st.heap ks2 b2) (q : Q false st) :
    wpAny (model pr wo) A (searchCouldBeSeen (.ref b) ys) Q Er st := by
  unfold searchCouldBeSeen
  refine wpAny_bind ?_
  refine wpAny_forIn_list _ (fun left acc st2 => acc.1 = none ∧ st2 = st ∧ ∀ y ∈ left, ∃ ks2 b2, y = Value.ref b2 ∧ IsTupleKey kd st.heap ks2 b2) _ ?_ ?_ _ _ ⟨rfl, rfl, hy⟩
  · rintro v left acc st2 ⟨_, rfl, all⟩
    obtain ⟨ks2, b2, rfl, h2⟩ := all v List.mem_cons_self
    have more : ∀ y ∈ left, ∃ ks2 b2, y = Value.ref b2 ∧ IsTupleKey kd st2.heap ks2 b2 := fun u hu => all u (List.mem_cons_of_mem _ hu)
    dsimp only
    by_cases same : (b == b2 || (carriedByValue (.ref b) && carriedByValue (.ref b2))) = true
    · exact wp_if_pos same (wpAny_pure ⟨rfl, rfl, more⟩)
    · refine wp_if_neg same ?_
      refine wpAny_bind (wpAny_eqIsQuiet_tuple hk ?_)
      simp only [Bool.not_true, Bool.false_eq_true, if_false]
      refine wpAny_bind (wpAny_eqIsQuiet_tuple h2 ?_)
      simp only [Bool.not_true, Bool.false_eq_true, if_false]
      refine wpAny_bind (cls_tup pl hk ?_)
      simp only [Bool.false_eq_true, if_false]
      refine wpAny_bind (cls_tup pl h2 ?_)
      simp only [Bool.false_eq_true, if_false]
      exact wpAny_pure ⟨rfl, rfl, more⟩
  · rintro ⟨a1, a2⟩ st2 ⟨h1, rfl, _⟩
    obtain rfl : a1 = none := h1
    exact wpAny_pure q

/-! ### the set -/
variable {a : Addr} {L : List (Addr × List κ)} {es : Array (Int × Value)} {ep : Nat} {t : SetTable}
theorem ent_at {es : Array (Int × Value)} {L : List (Addr × List κ)} (h : es.toList = entL kd L) {i : Nat} {p : Addr × List κ} (hp : L[i]? = some p) : es[i]? = some (hT kd p.2, Value.ref p.1) := by
  rw [← Array.getElem?_toList, h, entL, List.getElem?_map, hp]
  rfl
theorem odd_kept {t : SetTable} (h : MaskOk t.mask) : ¬ t.gaveWay = true := by
  rw [SetTable.gaveWay, mask_odd h]
  decide
/-- the first state of a search -/
abbrev prb (t : SetTable) (h : Int) : SetTable.Probe := runAt t.mask (SetTable.bits h % (t.mask + 1)) (SetTable.bits h)
theorem no_dummy (m : Nat) : ∀ (c : Nat) (p : SetTable.Probe), p.dummy = none → (nth m p c).dummy = none
  | 0, _, h => h
  | c + 1, p, h => no_dummy m c (adv m p) (by unfold adv; split <;> exact h)
/-- the search goes on from the c-th step -/
theorem seek (pl : Plain kd) (R : TSet kd st.heap a L es ep t) {x : Addr} {ks : List κ} (hx : IsTupleKey kd st.heap ks x) (hu : A.units < cLine) {K : Nat} (big : K < 10 * SetTable.turns t.mask)
    (free : way t.mask (hT kd ks) K ∉ t.place.toList) (taken : ∀ c, c < K → way t.mask (hT kd ks) c ∈ t.place.toList) {Q : SetFound → Shared → Prop}
    (yes : ks ∈ L.map (·.2) → Q (.there none) st) (no : ks ∉ L.map (·.2) → Q (.free (way t.mask (hT kd ks) K) false) st) :
    ∀ (fu c : Nat) (so : Option SetTable.Probe), so.getD (t.probeStart (hT kd ks)) = nth t.mask (prb t (hT kd ks)) c → c ≤ K → K - c < fu →
      (∀ (i : Nat) p, L[i]? = some p → p.2 = ks → ∃ d, c ≤ d ∧ d < K ∧ t.place.toList[i]? = some (way t.mask (hT kd ks) d)) →
      wpAny (model pr wo) A (setSearchFrom a (.ref x) (hT kd ks) true fu so) Q Er st := by
  intro fu
  induction fu with
  | zero => intro c so _ _ h; exact absurd h (Nat.not_lt_zero _)
  | succ fu ih =>
    intro c so hso hc hfu ahead
    obtain ⟨o, ho, hex, hd⟩ := R.obj
    have ft := R.fits
    rw [setSearchFrom_succ]
    refine wpAny_bind (wpAny_setState_of ho hd ft ?_)
    dsimp only
    refine wp_if_neg (odd_kept R.tab.mok) ?_
    try refine wpAny_bind (wpAny_pure ?_)
    -- the way from here
    have shift : ∀ q, nth t.mask (nth t.mask (prb t (hT kd ks)) c) q = nth t.mask (prb t (hT kd ks)) (c + q) := fun q => (nth_add t.mask c _ q).symm
    have onWay : ∀ q, (nth t.mask (nth t.mask (prb t (hT kd ks)) c) q).j = way t.mask (hT kd ks) (c + q) := fun q => by rw [shift]
    have hcK : c + (K - c) = K := by omega
    have hashes : ∀ (i : Nat) p, L[i]? = some p → (es[i]?.map (·.1)).getD 0 = hT kd p.2 := fun i p hp => by rw [ent_at R.ents hp]; rfl
    have met := go_spec t R.tab.ris R.tab.dm (fun i => (es[i]?.map (·.1)).getD 0) (hT kd ks) (10 * SetTable.turns t.mask) (K - c) _ (no_dummy t.mask c (prb t (hT kd ks)) rfl) (by omega)
      (fun q hq => by rw [onWay]; exact taken _ (by omega)) (by rw [onWay, hcK]; exact free)
    rcases met with ⟨q, i, hq, hi, hh, before, hgo⟩ | ⟨before, hgo⟩
    · have hprobe : t.probe (fun i => (es[i]?.map (·.1)).getD 0) (hT kd ks) (so.getD (t.probeStart (hT kd ks))) = some (.candidate (way t.mask (hT kd ks) (c + q)) i (nth t.mask (prb t (hT kd ks)) (c + (q + 1)))) := by
        rw [hso, ← onWay, ← shift]
        exact hgo
      rw [hprobe]
      dsimp only
      rw [onWay] at hi
      have hiL : i < L.length := by
        have z := (List.getElem?_eq_some_iff.mp hi).1
        rw [Array.length_toList, R.plen] at z
        exact z
      obtain ⟨p, hp⟩ : ∃ p, L[i]? = some p := ⟨_, List.getElem?_eq_getElem hiL⟩
      have pm : p ∈ L := List.mem_of_getElem? hp
      have live : t.slot (way t.mask (hT kd ks) (c + q)) = .live i := slot_live R.tab.ris hi
      have tail : wpAny (model pr wo) A (searchRest a (.ref x) (hT kd ks) true fu es t (way t.mask (hT kd ks) (c + q)) i (nth t.mask (prb t (hT kd ks)) (c + (q + 1)))) Q Er st := by
        unfold searchRest
        rw [ent_at R.ents hp]
        dsimp only
        refine wpAny_bind (wpAny_holding (wpAny_eqBool_tuple hu (R.keys p pm) hx ?_))
        refine wpAny_bind (wpAny_setState_of ho hd ft ?_)
        dsimp only
        by_cases e : p.2 = ks
        · exact wp_if_pos (by simp [e]) (wpAny_pure (yes (List.mem_map.mpr ⟨p, pm, e⟩)))
        · refine wp_if_neg (by simp [e]) ?_
          try refine wpAny_bind (wpAny_pure ?_)
          rw [sameMem]
          dsimp only
          simp only [if_true, live, ent_at R.ents hp]
          refine wpAny_bind (wpAny_isSame_ref_self (wpAny_bind (wpAny_pure ?_)))
          simp only [if_true]
          refine wp_if_neg (by simp [e]) ?_
          refine ih (c + (q + 1)) _ rfl (by omega) (by omega) fun i2 p2 h2 k2 => ?_
          obtain ⟨d, d1, d2, d3⟩ := ahead i2 p2 h2 k2
          refine ⟨d, ?_, d2, d3⟩
          by_cases lt : d < c + q
          · exact absurd ((hashes i2 p2 h2).trans (congrArg (hT kd) k2)) (before (d - c) i2 (by omega) (by rw [onWay, show c + (d - c) = d by omega]; exact d3))
          · by_cases eq : d = c + q
            · rw [eq] at d3
              have l2 := slot_live R.tab.ris d3
              rw [live] at l2
              injection l2 with l2
              rw [← l2, hp] at h2
              exact absurd ((congrArg Prod.snd (Option.some.inj h2)).trans k2) e
            · omega
      by_cases hl : t.led = true
      · refine wp_if_neg (by simp [hl]) ?_
        try refine wpAny_bind (wpAny_pure ?_)
        exact tail
      · refine wp_if_pos (by simp [hl]) ?_
        refine wpAny_bind (quiet_tup pl hx (fun y hy => ?_) ?_)
        · obtain ⟨e, he, rfl⟩ := List.mem_map.mp hy
          have z : e ∈ es.toList := by
            have : e ∈ es ∧ e.1 = hT kd ks := by simpa using he
            simpa using this.1
          rw [R.ents] at z
          obtain ⟨p2, h2, rfl⟩ := List.mem_map.mp z
          exact ⟨_, _, rfl, R.keys p2 h2⟩
        · refine wp_if_neg (by decide) ?_
          try refine wpAny_bind (wpAny_pure ?_)
          exact tail
    · have hprobe : t.probe (fun i => (es[i]?.map (·.1)).getD 0) (hT kd ks) (so.getD (t.probeStart (hT kd ks))) = some (.empty (way t.mask (hT kd ks) K) none) := by
        have z := onWay (K - c)
        rw [hcK] at z
        rw [hso, ← z]
        exact hgo
      rw [hprobe]
      dsimp only
      refine wpAny_pure (no fun hm => ?_)
      obtain ⟨p0, h0, k0⟩ := List.mem_map.mp hm
      obtain ⟨i0, e0⟩ := List.getElem?_of_mem h0
      obtain ⟨d, d1, d2, d3⟩ := ahead i0 p0 e0 k0
      exact before (d - c) i0 (by omega) (by rw [onWay, show c + (d - c) = d by omega]; exact d3) ((hashes i0 p0 e0).trans (congrArg (hT kd) k0))
theorem seek0 (pl : Plain kd) (R : TSet kd st.heap a L es ep t) {x : Addr} {ks : List κ} (hx : IsTupleKey kd st.heap ks x) (hu : A.units < cLine) {Q : SetFound → Shared → Prop} (yes : ks ∈ L.map (·.2) → Q (.there none) st)
    (no : ∀ K, ks ∉ L.map (·.2) → way t.mask (hT kd ks) K ∉ t.place.toList → (∀ c, c < K → way t.mask (hT kd ks) c ∈ t.place.toList) → Q (.free (way t.mask (hT kd ks) K) false) st) : wpAny (model pr wo) A (setSearch a (.ref x) (hT kd ks) true) Q Er st := by
  have rm := R.room
  obtain ⟨K, big, free, taken⟩ := R.tab.first (by rw [List.length_map]; omega) (hT kd ks)
  have small : 10 * SetTable.turns t.mask ≤ 1420 := by
    unfold SetTable.turns
    rcases R.tab.mok with e | e | e <;> omega
  unfold setSearch
  refine seek pl R hx hu big free taken yes (fun h => no K h free taken) 100000 0 none rfl (Nat.zero_le _) (by omega) fun i p hp hk => ?_
  have hi : (hsL kd L)[i]? = some (hT kd ks) := by rw [List.getElem?_map, hp, ← hk]; rfl
  have il : i < t.place.toList.length := by
    rw [Array.length_toList, R.plen]
    exact (List.getElem?_eq_some_iff.mp hp).1
  obtain ⟨c, hc, e⟩ := R.tab.before free hi (List.getElem?_eq_getElem il)
  exact ⟨c, Nat.zero_le _, hc, by rw [List.getElem?_eq_getElem il, e]⟩
end
section
variable {pr : Program} {wo : World} {κ : Type} [DecidableEq κ] {kd : PySem.KeyKind pr wo κ} {A : Around} {Er : Value → Shared → Prop} {st : Shared} {a : Addr} {L : List (Addr × List κ)} {es : Array (Int × Value)} {ep : Nat} {t : SetTable}
theorem key_same {h h' : Heap} {ks : List κ} {a b : Addr} {o : Obj} {es : Array (Int × Value)} {ep : Nat} {t : SetTable} (hb : IsTupleKey kd h ks b) (ho : h.get? a = some o) (hd : o.data = .set es ep t) (same : Heap.SameBut a h h') : IsTupleKey kd h' ks b := by
  obtain ⟨o2, its, c, e1, e2, e3, e4⟩ := hb
  have ne : b ≠ a := fun e => by
    rw [e, ho] at e1
    cases e1
    rw [hd] at e3
    cases e3
  exact ⟨o2, its, c, (same.2 b ne).trans e1, e2, e3, e4⟩
theorem key_kept {h h' : Heap} {ks : List κ} {b : Addr} (x : IsTupleKey kd h ks b) (kp : ∀ c o, h.get? c = some o → h'.get? c = some o) : IsTupleKey kd h' ks b := by
  obtain ⟨o, its, c, e, r⟩ := x
  exact ⟨o, its, c, kp b o e, r⟩
theorem rev_ind' {α : Type} {p : List α → Prop} (h0 : p []) (h1 : ∀ l a, p l → p (l ++ [a])) (l : List α) : p l := by
  have z : ∀ l : List α, p l.reverse := fun l => by
    induction l with
    | nil => exact h0
    | cons a l ih => rw [List.reverse_cons]; exact h1 _ _ ih
  have y := z l.reverse
  rw [List.reverse_reverse] at y
  exact y
theorem filterMap_range {α : Type} (l : List α) : (List.range l.length).filterMap (fun i => l[i]?) = l := by
  induction l using HW.rev_ind' with
  | h0 => rfl
  | h1 l x ih =>
    rw [List.length_append, List.length_singleton, List.range_succ, List.filterMap_append]
    have go : ∀ r : List Nat, (∀ i ∈ r, i < l.length) → r.filterMap (fun i => (l ++ [x])[i]?) = r.filterMap (fun i => l[i]?) := by
      intro r
      induction r with
      | nil => intro _; rfl
      | cons i r ihr =>
        intro hr
        have hi := hr i List.mem_cons_self
        rw [List.filterMap_cons_some (b := l[i]) (by rw [List.getElem?_append_left hi, List.getElem?_eq_getElem hi]), List.filterMap_cons_some (List.getElem?_eq_getElem hi), ihr fun j hj => hr j (List.mem_cons_of_mem _ hj)]
    have e := go (List.range l.length) fun i hi => List.mem_range.mp hi
    rw [e, ih]
    congr 1
    rw [List.filterMap_cons_some (b := x) (by rw [List.getElem?_append_right (Nat.le_refl _), Nat.sub_self]; rfl)]
    rfl
/-- the entries in another order -/
theorem ents_order {es : Array (Int × Value)} (order : Array Nat) (hr : es.toList = entL kd L) (hp : order.toList.Perm (List.range L.length)) :
    ∃ L2, (order.filterMap (es[·]?)).toList = entL kd L2 ∧ L2.Perm L ∧ hsL kd L2 = order.toList.map fun i => (es.map (·.1)).getD i 0 := by
  have walk : ∀ l : List Nat, (∀ i ∈ l, i < L.length) → l.filterMap (fun i => es[i]?) = entL kd (l.filterMap fun i => L[i]?) ∧ hsL kd (l.filterMap fun i => L[i]?) = l.map fun i => (es.map (·.1)).getD i 0 := by
    intro l
    induction l with
    | nil => intro _; exact ⟨rfl, rfl⟩
    | cons i l ih =>
      intro hl
      obtain ⟨z1, z2⟩ := ih fun j hj => hl j (List.mem_cons_of_mem _ hj)
      obtain ⟨p, e⟩ : ∃ p, L[i]? = some p := ⟨_, List.getElem?_eq_getElem (hl i List.mem_cons_self)⟩
      have e2 := ent_at hr e
      have e3 : (es.map (·.1)).getD i 0 = hT kd p.2 := by
        rw [Array.getD_eq_getD_getElem?, Array.getElem?_map, e2]
        rfl
      constructor
      · rw [List.filterMap_cons_some e2, List.filterMap_cons_some e, z1]
        rfl
      · rw [List.filterMap_cons_some e, hsL, List.map_cons, List.map_cons, e3]
        congr 1
  obtain ⟨z1, z2⟩ := walk order.toList fun i hi => List.mem_range.mp (hp.mem_iff.mp hi)
  refine ⟨order.toList.filterMap fun i => L[i]?, by first | (rw [Array.toList_filterMap]; exact z1) | simpa using z1, ?_, z2⟩
  have z3 := hp.filterMap fun i => L[i]?
  rw [filterMap_range] at z3
  exact z3
/-- the table grows -/
theorem regrow {o : Obj} (ho : st.heap.get? a = some o) (hex : o.ExactSet) (hd : o.data = .set es ep t) (ents : es.toList = entL kd L) (T : TabOk t (hsL kd L)) (low : L.length ≤ t.mask) (uniq : (L.map (·.2)).Nodup) (keys : ∀ p ∈ L, IsTupleKey kd st.heap p.2 p.1) (few : L.length < 64) {wanted M : Nat}
    (hw : SetTable.sizeAbove wanted - 1 = M) (hM : MaskOk M) (hw2 : SetTable.sizeAbove wanted ≤ 128) (room : L.length * 5 < M * 3) {Q : Unit → Shared → Prop}
    (q : ∀ h' L' es' ep' t', Heap.SameBut a st.heap h' → TSet kd h' a L' es' ep' t' → L'.Perm L → Q () { st with heap := h' }) : wpAny (model pr wo) A (setRelay a wanted) Q Er st := by
  have n1 := ent_len ents
  have n2 : t.place.size = es.size := by rw [T.sz, List.length_map, n1]
  obtain ⟨t', order, e, hp, T', em, _, _, _⟩ := relaid_ok t (hs := es.map (·.1)) (wanted := wanted) hw hM (by rw [Array.size_map]; omega)
  rw [Array.size_map, n1] at hp
  obtain ⟨L2, r1, r2, r3⟩ := ents_order order ents hp
  rw [← r3] at T'
  have n3 : (order.filterMap (es[·]?)).size = L.length := by rw [ent_len r1, r2.length_eq]
  rw [setRelay_eq]
  refine wpAny_bind (wpAny_setState_of ho hd (fits_of n2 T.dm (by omega)) ?_)
  dsimp only
  refine wp_if_neg (by rw [sizeLine_eq]; omega) ?_
  try refine wpAny_bind (wpAny_pure ?_)
  rw [e]
  dsimp only
  refine wpAny_bind ?_
  refine wp_if_neg (by rw [n3, n1]; simp) ?_
  try refine wpAny_bind (wpAny_pure ?_)
  refine wpAny_pure ?_
  dsimp only
  refine wpAny_storeSet_of ho hd ?_ (by rw [n3, sizeLine_eq]; omega)
  have same : Heap.SameBut a st.heap (st.heap.update a (Obj.putSet (order.filterMap (es[·]?)) t')) := Heap.SameBut.update ..
  refine q _ L2 _ (ep + 1) t' same ⟨⟨_, store_at ho hd, ⟨hex.1, hex.2.1, hex.2.2⟩, rfl⟩, r1, T', (r2.map (·.2)).nodup_iff.mpr uniq, fun p pm => key_same (keys p (r2.mem_iff.mp pm)) ho hd same, ?_, by rw [r2.length_eq]; exact few⟩ r2
  rw [r2.length_eq, em]
  exact room
theorem TabOk.unplain {t : SetTable} {hs : List Int} (T : TabOk t hs) : TabOk { t with plain := false } hs := ⟨T.ris, T.dm, T.sz, T.mok, T.bd, T.reach⟩
/-- one tuple more -/
theorem tadd (pl : Plain kd) (R : TSet kd st.heap a L es ep t) {x : Addr} {ks : List κ} (hx : IsTupleKey kd st.heap ks x) (hu : A.units < cLine) (few : L.length + 1 < 64) {Q : Bool → Shared → Prop}
    (q : ∀ b h' L' es' ep' t', Heap.SameBut a st.heap h' → TSet kd h' a L' es' ep' t' → (ks ∈ L.map (·.2) → L' = L) → (ks ∉ L.map (·.2) → L'.Perm ((x, ks) :: L)) → Q b { st with heap := h' }) :
    wpAny (model pr wo) A (setAddHashed a (.ref x) (hT kd ks)) Q Er st := by
  obtain ⟨o, ho, hex, hd⟩ := R.obj
  have n1 := R.size
  have rm := R.room
  have ft := R.fits
  unfold setAddHashed
  refine wpAny_holding ?_
  rw [show (100000 : Nat) = 99999 + 1 from rfl, setAddHashedIn_succ]
  refine wpAny_bind (wpAny_setState_of ho hd ft ?_)
  dsimp only
  refine wp_if_neg (by simp [byScan, Value.scannable]) ?_
  try refine wpAny_bind (wpAny_pure ?_)
  refine wpAny_bind (seek0 pl R hx hu (fun hm => ?_) fun K hm free taken => ?_)
  · dsimp only
    exact wpAny_pure (q false st.heap L es ep t (Heap.SameBut.refl a st.heap) R (fun _ => rfl) fun z => absurd hm z)
  dsimp only
  refine wpAny_bind (wpAny_setState_of ho hd ft ?_)
  dsimp only
  obtain ⟨q1, q2, q3, q4, _, _, _, _, q9⟩ := R.tab.put free taken
  generalize hpt : t.put (way t.mask (hT kd ks) K) = pt at q1 q3 q4 q9 ⊢
  obtain ⟨t1, pos⟩ := pt
  dsimp only at q1 q3 q4 q9 ⊢
  subst q1
  -- what is stored, whether the table is plain or not
  have put_ents : (SetTable.insertAt es (SetTable.below t.place (way t.mask (hT kd ks) K)) (hT kd ks, Value.ref x)).toList = entL kd (L.take (SetTable.below t.place (way t.mask (hT kd ks) K)) ++ (x, ks) :: L.drop (SetTable.below t.place (way t.mask (hT kd ks) K))) := by
    rw [SetTable.toList_insertAt, R.ents, entL, entL, List.map_append, List.map_cons, List.map_take, List.map_drop]
  generalize hpp : SetTable.below t.place (way t.mask (hT kd ks) K) = pos at q2 q3 put_ents ⊢
  have pm := put_perm L pos (x, ks)
  have n2 : (L.take pos ++ (x, ks) :: L.drop pos).length = L.length + 1 := pm.length_eq
  have hs2 : hsL kd (L.take pos ++ (x, ks) :: L.drop pos) = (hsL kd L).take pos ++ hT kd ks :: (hsL kd L).drop pos := by
    rw [hsL, hsL, List.map_append, List.map_cons, List.map_take, List.map_drop]
  rw [← hs2] at q3
  have uniq2 : ((L.take pos ++ (x, ks) :: L.drop pos).map (·.2)).Nodup := (pm.map (·.2)).nodup_iff.mpr (by
    rw [List.map_cons]
    exact List.nodup_cons.mpr ⟨hm, R.uniq⟩)
  have n3 := ent_len put_ents
  rw [n2] at n3
  generalize SetTable.insertAt es pos (hT kd ks, Value.ref x) = es1 at put_ents n3 ⊢
  generalize L.take pos ++ (x, ks) :: L.drop pos = L1 at pm n2 q3 uniq2 put_ents
  have full : t1.tooFull = decide ((L.length + 1) * 5 ≥ t1.mask * 3) := by
    have e : t1.tooFull = decide (t1.fill * 5 ≥ t1.mask * 3) := rfl
    rw [e, q9, List.length_map]
  have fin : ∀ t2 : SetTable, TabOk t2 (hsL kd L1) → t2.mask = t1.mask → t2.tooFull = t1.tooFull → wpAny (model pr wo) A (do
      storeSet a es1 t2
      if !false && t2.tooFull then setRelay a (SetTable.grown (es.size + 1))
      return true : Sem Bool) Q Er st := fun t2 T2 em2 ef2 => by
    refine wpAny_bind (wpAny_storeSet_of ho hd ?_ (by rw [n3, sizeLine_eq]; omega))
    have same : Heap.SameBut a st.heap (st.heap.update a (Obj.putSet es1 t2)) := Heap.SameBut.update ..
    have ho1 := store_at (es' := es1) (t' := t2) ho hd
    generalize st.heap.update a (Obj.putSet es1 t2) = h1 at same ho1 ⊢
    have keys1 : ∀ p ∈ L1, IsTupleKey kd h1 p.2 p.1 := fun p hp => by
      rcases List.mem_cons.mp (pm.mem_iff.mp hp) with rfl | hp
      · exact key_same hx ho hd same
      · exact key_same (R.keys p hp) ho hd same
    rw [q4] at em2 full
    by_cases hf : t2.tooFull = true
    · have over : (L.length + 1) * 5 ≥ t.mask * 3 := by
        rw [ef2, full] at hf
        exact of_decide_eq_true hf
      first
        | (refine wpAny_bind ?_; refine wp_if_pos (by simp [hf]) ?_)
        | (refine wp_if_pos (by simp [hf]) ?_; refine wpAny_bind ?_)
      rw [n1]
      have when : (t.mask = 7 ∧ L.length = 4) ∨ (t.mask = 31 ∧ L.length = 18) := by
        rcases R.tab.mok with e | e | e
        · exact .inl ⟨e, by omega⟩
        · exact .inr ⟨e, by omega⟩
        · omega
      have go : ∀ M, SetTable.sizeAbove (SetTable.grown (L.length + 1)) - 1 = M → MaskOk M → SetTable.sizeAbove (SetTable.grown (L.length + 1)) ≤ 128 → (L.length + 1) * 5 < M * 3 →
          wpAny (model pr wo) A (setRelay a (SetTable.grown (L.length + 1))) (fun _ s' => wpAny (model pr wo) A (pure true) Q Er s') Er { st with heap := h1 } := fun M g1 g2 g3 g4 =>
        regrow (st := { st with heap := h1 }) ho1 ⟨hex.1, hex.2.1, hex.2.2⟩ rfl put_ents T2 (by rw [em2, n2]; omega) uniq2 keys1 (by rw [n2]; exact few) g1 g2 g3 (by rw [n2]; exact g4) fun h2 L2 es2 ep2 t2 same2 R2 pm2 =>
          wpAny_pure (q true h2 L2 es2 ep2 t2 (same.trans same2) R2 (fun z => absurd z hm) fun _ => pm2.trans pm)
      rcases when with ⟨_, e2⟩ | ⟨_, e2⟩
      · exact go 31 (by rw [e2, size_20]) (.inr (.inl rfl)) (by rw [e2, size_20]; decide) (by omega)
      · exact go 127 (by rw [e2, size_76]) (.inr (.inr rfl)) (by rw [e2, size_76]; decide) (by omega)
    · first
        | refine wp_if_neg (by simp [hf]) ?_
        | (refine wpAny_bind ?_; refine wp_if_neg (by simp [hf]) ?_; refine wpAny_pure ?_)
      refine wpAny_pure (q true h1 L1 es1 (ep + 1) t2 same ⟨⟨_, ho1, ⟨hex.1, hex.2.1, hex.2.2⟩, rfl⟩, put_ents, T2, uniq2, keys1, ?_, by rw [n2]; exact few⟩ (fun z => absurd z hm) fun _ => pm)
      rw [ef2, full, decide_eq_true_eq] at hf
      rw [n2, em2]
      omega
  by_cases hp1 : t1.plain = true
  · first
      | (refine wpAny_bind ?_; refine wp_if_pos hp1 ?_; refine hsh_tup pl hx fun bo => ?_)
      | refine wp_if_pos hp1 (wpAny_bind (hsh_tup pl hx fun bo => ?_))
    cases bo with
    | true => simp only [if_true]; exact fin t1 q3 rfl rfl
    | false => simp only [Bool.false_eq_true, if_false]; exact fin _ (TabOk.unplain q3) rfl rfl
  · first
      | (refine wpAny_bind ?_; refine wp_if_neg hp1 ?_; refine wpAny_pure ?_)
      | refine wp_if_neg hp1 (wpAny_bind (wpAny_pure ?_))
    simp only [if_true]
    exact fin t1 q3 rfl rfl
end
section
variable {pr : Program} {wo : World} {κ : Type} [DecidableEq κ] {kd : PySem.KeyKind pr wo κ} {A : Around} {Er : Value → Shared → Prop} {st : Shared}
theorem TSet.kept {h h' : Heap} {a : Addr} {L : List (Addr × List κ)} {es : Array (Int × Value)} {ep : Nat} {t : SetTable} (R : TSet kd h a L es ep t) (ha : ∀ o, h.get? a = some o → h'.get? a = some o) (hk : ∀ p ∈ L, IsTupleKey kd h' p.2 p.1) : TSet kd h' a L es ep t := by
  obtain ⟨o, ho, r⟩ := R.obj
  exact ⟨⟨o, ha o ho, r⟩, R.ents, R.tab, R.uniq, hk, R.room, R.few⟩
theorem tset_new {h : Heap} {a : Addr} {led : Bool} (ho : h.get? a = some { cls := .type "set", dict := none, data := .set #[] 0 (.fresh 0 0 led) }) : TSet kd h a [] #[] 0 (.fresh 0 0 led) where
  obj := ⟨_, ho, ⟨rfl, rfl, rfl⟩, rfl⟩
  ents := rfl
  tab := ⟨List.Pairwise.nil, rfl, rfl, .inl rfl, (fun x hx => nomatch hx), (fun i h j hi => nomatch hi)⟩
  uniq := List.nodup_nil
  keys := fun p hp => by cases hp
  room := by show 0 * 5 < 7 * 3; decide
  few := by show 0 < 64; decide
/-- the set holds the first i keys -/
def Holds (kd : PySem.KeyKind pr wo κ) (h : Heap) (S : Addr) (ks : List (Addr × List κ)) (i : Nat) : Prop := ∃ L es ep t, TSet kd h S L es ep t ∧ (∀ p ∈ L, p ∈ ks) ∧ L.length ≤ i ∧ ∀ k, k ∈ L.map (·.2) ↔ k ∈ (ks.take i).map (·.2)
theorem tset_loop (pl : Plain kd) {I : Addr} {fp wr : List Addr} {G : Array GenState → Array GenState → Prop} {n : Nat} {Pv : Nat → Value → Prop} {Sv : Nat → Shared → Prop} {R : Result → Shared → Prop}
    (W : WalksS pr wo A.in1 I fp wr G n Pv Sv) (S : Addr) (out : S ∉ fp) (ks : List (Addr × List κ)) (hn : ks.length = n) (few : n < 64) (hval : ∀ i v, Pv i v → ∃ p, ks[i]? = some p ∧ v = .ref p.1)
    (h0 : Heap) (hk : ∀ p ∈ ks, IsTupleKey kd h0 p.2 p.1) (hS0 : h0.get? S = none) (hw0 : ∀ b ∈ wr, h0.get? b = none) (hu : A.in1.units < cLine) :
    ∀ (k i : Nat) (s : Shared), n - i = k → i ≤ n → Sv i s → (∀ b o, h0.get? b = some o → s.heap.get? b = some o) → Holds kd s.heap S ks i →
      (∀ s', Moved (S :: wr) G s s' → Holds kd s'.heap S ks n → (∀ b o, h0.get? b = some o → s'.heap.get? b = some o) → R (.ok (.ret .none)) s') →
      codeAny (model pr wo) A (.builtin "set.update.loop" ⟨[.ref S, .ref I], []⟩) R s := by
  have nw : S ∉ wr := fun h => out (W.sub _ h)
  have up : ∀ b ∈ wr, b ∈ S :: wr := fun b hb => List.mem_cons_of_mem _ hb
  have stays : ∀ {s s' : Shared}, Moved wr G s s' → (∀ b o, h0.get? b = some o → s.heap.get? b = some o) → ∀ b o, h0.get? b = some o → s'.heap.get? b = some o := fun mv kp b o e =>
    mv.heap b o (fun hb => by rw [hw0 b hb] at e; cases e) (kp b o e)
  have moved : ∀ {s s' : Shared} {i : Nat}, Moved wr G s s' → (∀ b o, h0.get? b = some o → s.heap.get? b = some o) → Holds kd s.heap S ks i → Holds kd s'.heap S ks i := fun mv kp ⟨L, es, ep, t, T, sub, le, mem⟩ =>
    ⟨L, es, ep, t, T.kept (fun o e => mv.heap S o nw e) fun p hp => key_kept (hk p (sub p hp)) (stays mv kp), sub, le, mem⟩
  intro k
  induction k with
  | zero =>
    intro i s e hi sv kp hS hR
    obtain rfl : i = n := by omega
    refine codeAny_builtin PyProof.Rows.F.entry_set_update_loop ?_
    rw [Around.under_plainId PyProof.Rows.F.plain_set_update_loop _]
    show wpAny _ A.in1 (pyNext (.ref I) >>= _) _ _ s
    refine wpAny_bind (W.done s _ _ sv fun s' mv => ?_)
    show wpAny _ A.in1 (ret Value.none) _ _ s'
    exact wpAny_pure (hR s' (mv.mono up) (moved mv kp hS) (stays mv kp))
  | succ k ih =>
    intro i s e hi sv kp hS hR
    have lt : i < n := by omega
    refine codeAny_builtin PyProof.Rows.F.entry_set_update_loop ?_
    rw [Around.under_plainId PyProof.Rows.F.plain_set_update_loop _]
    show wpAny _ A.in1 (pyNext (.ref I) >>= _) _ _ s
    refine wpAny_bind (W.item i s _ _ lt sv fun v s' pv sv' mv => ?_)
    obtain ⟨p, hp, rfl⟩ := hval i v pv
    have kp' := stays mv kp
    obtain ⟨L, es, ep, t, T, sub, le, mem⟩ := moved mv kp hS
    have hx : IsTupleKey kd s'.heap p.2 p.1 := key_kept (hk p (List.mem_of_getElem? hp)) kp'
    show wpAny _ A.in1 (holding [Value.ref p.1] (setAdd S (.ref p.1)) >>= _) _ _ s'
    refine wpAny_bind (wpAny_holding ?_)
    unfold setAdd
    refine wpAny_holding ?_
    refine wpAny_bind (wpAny_pyHash_tuple hu hx ?_)
    refine tadd (st := { s' with toks := s'.toks + (p.2.length + 1) }) pl T hx hu (by omega) fun b h' L2 es2 ep2 t2 same T2 c1 c2 => ?_
    have kp2 : ∀ b o, h0.get? b = some o → h'.get? b = some o := fun b o e => (same.2 b (fun z => by rw [z, hS0] at e; cases e)).trans (kp' b o e)
    have next : ks.take (i + 1) = ks.take i ++ [p] := by
      rw [List.take_add_one, hp]
      rfl
    have hS2 : Holds kd h' S ks (i + 1) := by
      by_cases c : p.2 ∈ L.map (·.2)
      · rw [c1 c] at T2
        refine ⟨L, es2, ep2, t2, T2, sub, by omega, fun k => ?_⟩
        rw [next, List.map_append, List.mem_append, ← mem k]
        constructor
        · exact .inl
        · rintro (z | z)
          · exact z
          · obtain rfl : k = p.2 := by simpa using z
            exact c
      · have pm := c2 c
        refine ⟨L2, es2, ep2, t2, T2, fun q hq => ?_, by rw [pm.length_eq, List.length_cons]; omega, fun k => ?_⟩
        · rcases List.mem_cons.mp (pm.mem_iff.mp hq) with rfl | z
          · exact List.mem_of_getElem? hp
          · exact sub q z
        · rw [(pm.map (·.2)).mem_iff, List.map_cons, List.mem_cons, next, List.map_append, List.mem_append, ← mem k, List.map_cons, List.map_nil, List.mem_singleton]
          exact Or.comm
    refine wpAny_pure ⟨plainId_quiet PyProof.Rows.F.plain_set_update_loop _, ih (i + 1) _ (by omega) lt (W.frame _ s' _ _ sv' (Nat.le_add_right _ _) fun b hb o e => ?_) kp2 hS2 fun s'' mv2 hS3 kp3 => ?_⟩
    · rw [same.2 b (fun h : b = S => out (by rw [← h]; exact hb))]
      exact e
    · refine hR s'' (Moved.trans W.gtrans ((mv.mono up).then_heap (Nat.le_add_right _ _) fun b o hb e => ?_) mv2) hS3 kp3
      rw [same.2 b (fun h : b = S => hb (by rw [h]; exact List.mem_cons_self))]
      exact e
set_option maxHeartbeats 3200000 in
/-- set(xs), xs a list of tuples -/
theorem call_setT (pl : Plain kd) {l : Addr} {items : Array Value} {ks : List (Addr × List κ)} {Q : Value → Shared → Prop} (hh : A.handled = none) (hl : st.heap.IsList l items) (hit : items.toList = ks.map fun p => Value.ref p.1)
    (hk : ∀ p ∈ ks, IsTupleKey kd st.heap p.2 p.1) (few : ks.length < 64) (hu : A.units + 3 < cLine)
    (h : ∀ (h' : Heap) (tk : Nat), Holds kd h' st.heap.objs.size ks ks.length → (∀ b o, st.heap.get? b = some o → h'.get? b = some o) → Q (.ref st.heap.objs.size) { st with heap := h', toks := tk }) :
    wpAny (model pr wo) A (call (.type "set") [.ref l]) Q Er st := by
  obtain ⟨c, tl, hmro⟩ := PySem.F.called_set.mro
  have hmade := PySem.F.called_set.made
  have hsub := PySem.F.called_set.sub
  refine wpAny_call (codeAny_of_tree ?_)
  show wpAny _ _ (callAny (.type "set") _) _ _ _
  refine wpAny_pure ⟨Code.quiet_builtin _ (by decide +kernel), codeAny_builtin PySem.F.entry_type_call ?_⟩
  rw [Around.under_plain (weight_type_call_type "set" [.ref l] []) rfl]
  have h1 := PySem.F.called_set.notType
  have h2 := PySem.F.called_set.canCreate
  have hct := PySem.F.typeCall_set_1 (.ref l)
  repeat (any_goals (first | assumption | wp_step))
  refine codeAny_mono (code_set_new_1 (.ref l) (E := Er) (Q₁ := fun obj s₁ => ∃ led : Bool, obj = .ref st.heap.objs.size ∧ s₁ = { st with heap := st.heap.push { cls := .type "set", dict := none, data := .set #[] 0 (.fresh 0 0 led) } }) fun led => ⟨led, rfl, rfl⟩) fun r s₁ hr => ?_
  cases r with
  | error e => exact hr
  | ok fl =>
    cases fl with
    | ret obj =>
      obtain ⟨led, rfl, rfl⟩ := hr
      have hS : (st.heap.push { cls := .type "set", dict := none, data := .set #[] 0 (.fresh 0 0 led) }).get? st.heap.objs.size = some { cls := .type "set", dict := none, data := .set #[] 0 (.fresh 0 0 led) } := Heap.get?_push_size _ rfl
      have hT : Shared.TypeIs { st with heap := st.heap.push { cls := .type "set", dict := none, data := .set #[] 0 (.fresh 0 0 led) } } (.ref st.heap.objs.size) "set" := ⟨_, hS, rfl⟩
      have hli := PySem.F.called_set.init.lookup
      have hbi := PySem.F.called_set.init.bind (.ref st.heap.objs.size)
      repeat (any_goals (first | assumption | wp_step))
      refine codeAny_mono (codeAny_call_builtin (R := wants (fun r s₂ => r = .none ∧ ∃ h' tk, s₂ = { st with heap := h', toks := tk } ∧ Holds kd h' st.heap.objs.size ks ks.length ∧ (∀ b o, st.heap.get? b = some o → h'.get? b = some o)) Er)
        PySem.F.called_set.init.plain PySem.F.entry_set_init (check_set_init_1 hT ?_)) fun r₂ s₂ hr₂ => ?_
      · obtain ⟨ol, hol, hcl, nl, hdl⟩ := hl
        obtain ⟨ocls, odict, odata, oslots⟩ := ol
        simp only at hcl hdl
        subst hcl; subst hdl
        have hol' : (st.heap.push { cls := .type "set", dict := none, data := .set #[] 0 (.fresh 0 0 led) }).get? l = some { cls := .type "list", dict := odict, data := .seq items nl, slots := oslots } := Heap.get?_push_of_some _ hol
        have hsls := PySem.F.sub_list_set
        have hslf := PySem.F.sub_list_frozenset
        have hne : (Value.type "list" == Value.type "dict") = false := by decide
        have hl1 : (st.heap.push { cls := .type "set", dict := none, data := .set #[] 0 (.fresh 0 0 led) }).IsList l items := ⟨_, hol', rfl, nl, rfl⟩
        unfold Builtin.«set.__init__» noKeywords Builtin.Frozenset.updateFrom
        generalize hPI : pyIter = PI
        wp_walk
        subst hPI
        refine wpAny_pyIter_list hl1 ?_
        refine wpAny_bind (wpAny_runValue ?_)
        have hlS : l < st.heap.objs.size := Heap.lt_size hol
        have hh3 : A.in1.in1.in1.handled = none := by simp [hh]
        have hneI : l ≠ (st.heap.push { cls := .type "set", dict := none, data := .set #[] 0 (.fresh 0 0 led) }).objs.size := by
          rw [Heap.size_push]; exact Nat.ne_of_lt (Nat.lt_succ_of_lt hlS)
        have hSf : st.heap.objs.size ∉ [(st.heap.push { cls := .type "set", dict := none, data := .set #[] 0 (.fresh 0 0 led) }).objs.size, l] := by
          rw [Heap.size_push]; simp only [List.mem_cons, List.mem_singleton, List.not_mem_nil, or_false, not_or]
          exact ⟨Nat.ne_of_lt (Nat.lt_succ_self _), Nat.ne_of_gt hlS⟩
        have isz : ks.length = items.size := by
          have q := congrArg List.length hit
          rw [Array.length_toList, List.length_map] at q
          exact q.symm
        have hval : ∀ (i : Nat) (v : Value), items[i]? = some v → ∃ p, ks[i]? = some p ∧ v = .ref p.1 := fun i v hv => by
          rw [← Array.getElem?_toList, hit, List.getElem?_map] at hv
          obtain ⟨p, hp, e⟩ := Option.map_eq_some_iff.mp hv
          exact ⟨p, hp, e.symm⟩
        have vacant : ∀ b, st.heap.objs.size ≤ b → st.heap.get? b = none := fun b hb => by
          cases q : st.heap.get? b with
          | none => rfl
          | some o => exact absurd (Heap.lt_size q) (Nat.not_lt.mpr hb)
        refine tset_loop pl ((Walks.list hh3 _ l hneI items).toS) st.heap.objs.size hSf ks isz (by omega) hval st.heap hk (vacant _ (Nat.le_refl _))
          (fun b hb => vacant b (by rw [List.mem_singleton.mp hb, Heap.size_push]; exact Nat.le_succ _)) hu (items.size - 0) 0 _ (by omega) (Nat.zero_le _)
          ⟨⟨_, Heap.get?_push_size _ rfl, rfl, rfl⟩, (hl1.push _)⟩ (fun b o e => Heap.get?_push_of_some _ (Heap.get?_push_of_some _ e)) ?hS0 ?hR
        case hS0 =>
          have hget : ((st.heap.push { cls := .type "set", dict := none, data := .set #[] 0 (.fresh 0 0 led) }).push { cls := .type "list_iterator", data := .fields #[.ref l, .int 0 0] }).get? st.heap.objs.size
              = some { cls := .type "set", dict := none, data := .set #[] 0 (.fresh 0 0 led) } := Heap.get?_push_of_some _ hS
          exact ⟨[], #[], 0, _, tset_new hget, fun p hp => (by cases hp), Nat.le_refl _, fun k => by simp⟩
        case hR =>
          intro s' mv hS' kp
          obtain ⟨h', g', d', tk', os'⟩ := s'
          have eg : g' = st.gens := mv.gens
          have ed : d' = st.drawn := mv.drawn
          have eo : os' = st.os := mv.os
          subst eg; subst ed; subst eo
          show wpAny _ _ _ _ _ _
          refine wpAny_pure ?_
          show wpAny _ _ (ret Value.none) _ _ _
          have isz2 : items.size = ks.length := by
            have q := congrArg List.length hit
            rw [Array.length_toList, List.length_map] at q
            exact q
          rw [isz2] at hS'
          exact wpAny_pure ⟨rfl, h', tk', rfl, hS', kp⟩
      · cases r₂ with
        | error e => exact hr₂
        | ok fl₂ =>
          cases fl₂ with
          | ret r =>
            obtain ⟨rfl, h', tk, rfl, hS', hk'⟩ := hr₂
            repeat (any_goals (first | assumption | wp_step))
            exact h _ _ hS' hk'
          | _ => exact hr₂.elim
    | _ => exact hr.elim
end
/-! ### len(set(xs)), xs a list of fewer than 64 tuples of texts -/
abbrev tW (t : List (List Nat)) : PyData := .tuple (t.map sD)
abbrev twD (ts : List (List (List Nat))) : PyData := .list (ts.map tW)
theorem items_strs {P : Program} {w : World} : ∀ {k : List Str} {us : List Value}, Vals (k.map V.str) us → ItemsAre (PySem.strKind P w) k us
  | [], _, .nil => .nil
  | x :: k, _, .cons r t => by
    obtain ⟨tk, rfl⟩ := r
    exact .cons (strKind_is P w x tk) (items_strs t)
theorem inv_strT {X : Cx} {pins : List (Addr × Obj)} {σ : L2.St} {H : Hp} {s : Shared} {b : Addr} {k : List Str} (I : Inv X pins σ H s) (h : SqT X.K H b (k.map V.str)) : IsTupleKey (PySem.strKind X.prog X.w) s.heap k b := by
  obtain ⟨its, r, ⟨o, ho, hc, n, hd⟩, _⟩ := I.tuple h
  exact ⟨o, its.toArray, n, ho, hc, hd, by simpa using items_strs r⟩
theorem va_tups {K : PySem.W.Frag} {L : List Addr} {H : Hp} : ∀ {vs : List V} {ts : List (List (List Nat))}, VaAll K (off L H) vs (ts.map tW) → ∃ ks : List (Addr × List Str), vs = ks.map (fun p => V.ref p.1) ∧ ks.map (·.2) = ts.map (·.map S) ∧ ∀ p ∈ ks, SqT K H p.1 (p.2.map V.str)
  | _, [], h => by cases h; exact ⟨[], rfl, rfl, fun p hp => nomatch hp⟩
  | _, t :: ts, h => by
    cases h with
    | cons h1 h2 =>
      obtain ⟨ks, e1, e2, e3⟩ := va_tups h2
      cases h1 with
      | @tup a xs _ ha hs =>
        obtain rfl := vaAll_S hs
        refine ⟨(a, t.map S) :: ks, by rw [e1]; rfl, by rw [List.map_cons, e2]; rfl, fun p hp => ?_⟩
        rcases List.mem_cons.mp hp with rfl | hp
        · exact SqT.up same_off ha
        · exact e3 p hp
theorem vals_refs : ∀ {ks : List (Addr × List Str)} {us : List Value}, Vals (ks.map fun p => V.ref p.1) us → us = ks.map fun p => Value.ref p.1
  | [], _, .nil => rfl
  | p :: ks, _, .cons r t => by
    cases r
    rw [vals_refs t]
    rfl
theorem uq_inj {α β : Type} [DecidableEq α] [DecidableEq β] {f : α → β} (hf : ∀ x y, f x = f y → x = y) (l : List α) : uq (l.map f) = (uq l).map f := by
  have key : ∀ (l acc : List α), (l.map f).foldl uqS (acc.map f) = (l.foldl uqS acc).map f := by
    intro l
    induction l with
    | nil => intro acc; rfl
    | cons x l ih =>
      intro acc
      rw [List.map_cons, List.foldl_cons, List.foldl_cons, ← ih]
      congr 1
      unfold uqS
      by_cases h : x ∈ acc
      · rw [if_pos h, if_pos (List.mem_map.mpr ⟨x, h, rfl⟩)]
      · rw [if_neg h, if_neg fun q => h (by
          obtain ⟨y, hy, e⟩ := List.mem_map.mp q
          rw [← hf _ _ e]
          exact hy), List.map_append]
        rfl
  exact key l []
theorem mapS_inj : ∀ {a b : List (List Nat)}, a.map S = b.map S → a = b
  | [], [], _ => rfl
  | [], _ :: _, e => nomatch e
  | _ :: _, [], e => nomatch e
  | x :: a, y :: b, e => by
    rw [List.map_cons, List.map_cons] at e
    rw [S_inj (List.cons.inj e).1, mapS_inj (List.cons.inj e).2]
def tLenSetT (K : PySem.W.Frag) (ta : TE) : TE := fun σ H Q => ta σ H fun x H1 => ∃ (l : Addr) (ks : List (Addr × List Str)), x = .ref l ∧ SqL K H1 l (ks.map fun p => V.ref p.1) ∧ (∀ p ∈ ks, SqT K H1 p.1 (p.2.map V.str)) ∧ ks.length < 64 ∧ Q (.int ((uq (ks.map (·.2))).length : Nat)) H1
theorem pe_lenSetT {X : Cx} {a : Expr} {ta : TE} {p p2 q pos : Pos} (hg : Gl X "len") (hm : X.mg "len" = none) (hg2 : Gl X "set") (hm2 : X.mg "set" = none) (ha : PE X a ta) (hc : X.calm = true) (hu : X.A.units + 64 < cLine)
    (na : starEach [a] X.env = (false, eval a X.env) :: starEach [] X.env := by rfl) : PE X (.Call (.Name "len" p) [.Call (.Name "set" p2) [a] [] q] [] pos) (tLenSetT X.K ta) := by
  refine ⟨fun pins s σ H Q I h => ?_⟩
  refine Call_ (ld_blt I hg hm boot_len ?_)
  refine PyProof.Rows.callWith_builtin1 (PyProof.Rows.args_cons ?_ rfl) rfl rfl
  refine Call_ (ld_blt I hg2 hm2 boot_set ?_)
  refine PyProof.Rows.callWith_type1 (PyProof.Rows.args_cons (thn (ha.run pins s σ H _ I h) fun v s1 ⟨x, H1, I1, r1, q1⟩ => PyProof.Rows.args_nil ?_) na) na rfl
  obtain ⟨l, ks, rfl, hq, hk, few, q1⟩ := q1
  cases r1
  obtain ⟨its, r, pl, hz⟩ := I1.list hq
  refine call_setT (kd := PySem.strKind X.prog X.w) (ks := ks) (plainStr X.prog X.w) (I1.ok.hd hc) pl.isList (by simpa using vals_refs r) (fun p hp => inv_strT I1 (hk p hp)) few (by omega) fun h' tk hS kp => ?_
  refine PyProof.Rows.args_nil ?_
  obtain ⟨L, es, ep, t, T, _, _, mem⟩ := hS
  obtain ⟨o, ho, hex, hd⟩ := T.obj
  rw [List.take_length] at mem
  have hn : es.size = (uq (ks.map (·.2))).length := by
    rw [ent_len T.ents, ← List.length_map (f := fun p : Addr × List Str => p.2) (as := L)]
    exact ((List.perm_ext_iff_of_nodup T.uniq (nodup_uq _)).mpr fun k => by rw [mem k, mem_uq]).length_eq
  have few2 := T.few
  have I2 : Inv X pins σ H1 { s1 with heap := h', toks := tk } := I1.kept fun b o e => kp b o e
  exact call_len_set ho hex hd (T.fits (st := { s1 with heap := h', toks := tk })) (by rw [ent_len T.ents]; omega) ⟨.int (uq (ks.map (·.2))).length, H1, I2.tok _, ⟨_, by rw [hn]⟩, q1⟩
section
variable {X : Cx} {W : Wd} {Γ : List DV} {μ : Mu} {a : Expr} {p p2 q pos : Pos} {ts : List (List (List Nat))}
theorem ed_lenSetT (ha : Ed X W Γ μ a (twD ts)) (hm : X.mg "len" = none) (hm2 : X.mg "set" = none) (hu : X.A.units + 64 < cLine) (hl : ts.length < 64) (hc : X.calm = true := by rfl) (hg : Gl X "len" := by rfl) (hg2 : Gl X "set" := by rfl)
    (na : starEach [a] X.env = (false, eval a X.env) :: starEach [] X.env := by rfl) : Ed X W Γ μ (.Call (.Name "len" p) [.Call (.Name "set" p2) [a] [] q] [] pos) (nn (uq ts).length) := fun σ H R Q k => by
  refine (pe_lenSetT hg hm hg2 hm2 wE.pe hc hu na).w (ha σ H R _ fun v H2 R2 e2 r => ?_)
  cases r with
  | lst hs hv =>
    obtain ⟨ks, rfl, e3, h3⟩ := va_tups hv
    have hlen : ks.length = ts.length := by
      have z := congrArg List.length e3
      rw [List.length_map, List.length_map] at z
      exact z
    refine ⟨_, ks, rfl, SqL.of (off_some hs).2, h3, by omega, ?_⟩
    rw [e3, uq_inj (fun _ _ => mapS_inj), List.length_map]
    exact k _ H2 R2 e2 (.int _)
end
end HW
set_option maxHeartbeats 4000000
namespace HW
open PySem PySem.Spec PyProof.Rows L2
open SX (S)
/-! ### words, split by spaces -/
section
variable {X : Cx} {W : Wd} {Γ : List DV} {μ : Mu} {o e : Expr} {apos pos : Pos} {ws : List (List Nat)}
end
section
variable {X : Cx} {i : Nat} {xs : List Nat}
end
/-! ### law 23's words -/
end HW
set_option maxHeartbeats 4000000
namespace HW
open PySem PySem.Spec PyProof.Rows L2
open SX (S)
/-! ### so many views, one behind the other -/
def lotL (ws : List (List Nat)) (q p : Nat) : List (List Nat) := (ws.drop p).take q
def lotsL (ws : List (List Nat)) (q : Nat) : List (List (List Nat)) := (List.range (ws.length + 1 - q)).map (lotL ws q)
def lotsB (ws : List (List Nat)) (q : Nat) : Bool := decide (lotsL ws q).Nodup
/-- the least of the numbers a .. a + n - 1 that does -/
def leastN (p : Nat → Bool) (a : Nat) : Nat → Option Nat
  | 0 => none
  | n + 1 => if p a = true then some a else leastN p (a + 1) n
def stepsN (ws : List (List Nat)) : Option Nat := leastN (lotsB ws) 1 ws.length
def R_steps_needed (ds : List PyData) (d : PyData) : Prop := ∃ l m : List Nat, ds = [sD l, sD m] ∧ rowB l = true ∧ maskB m = true ∧ d = optN (stepsN (viewsL l m))
theorem leastN_hit {p : Nat → Bool} : ∀ {n a i : Nat}, i < n → (∀ j, j < i → p (a + j) = false) → p (a + i) = true → leastN p a n = some (a + i)
  | n + 1, a, 0, _, _, h => by rw [leastN, if_pos (by simpa using h)]; rfl
  | n + 1, a, i + 1, hi, h0, h => by
    have z := h0 0 (by omega)
    rw [Nat.add_zero] at z
    rw [leastN, if_neg (by rw [z]; simp), leastN_hit (i := i) (by omega) (fun j hj => by have := h0 (j + 1) (by omega); rwa [show a + (j + 1) = a + 1 + j by omega] at this) (by rwa [show a + (i + 1) = a + 1 + i by omega] at h)]
    congr 1
    omega
theorem leastN_none {p : Nat → Bool} : ∀ {n a : Nat}, (∀ j, j < n → p (a + j) = false) → leastN p a n = none
  | 0, _, _ => rfl
  | n + 1, a, h => by
    have z := h 0 (by omega)
    rw [Nat.add_zero] at z
    rw [leastN, if_neg (by rw [z]; simp), leastN_none fun j hj => by have := h (j + 1) (by omega); rwa [show a + (j + 1) = a + 1 + j by omega] at this]
theorem s_listB {X : Cx} {ds : List PyData} (n m : Nat) {z y : Int} (hz : z = (n : Int)) (hy : y = (m : Int)) (h1 : n ≤ m) (h2 : m ≤ ds.length) : SlD X (.list ds) (some z) (some y) (.list ((ds.drop n).take (m - n))) := by
  have h := s_list (X := X) (ds := ds) (lo := some z) (hi := some y)
  subst hz
  subst hy
  rw [HT.sIx_nat, HT.sIx_nat, Nat.min_eq_left (by omega), Nat.min_eq_left (by omega)] at h
  exact h
theorem lots_len (ws : List (List Nat)) (q : Nat) : (lotsL ws q).length = ws.length + 1 - q := by simp [lotsL]
end HW
set_option maxHeartbeats 4000000
namespace HW
open PySem PySem.Spec PyProof.Rows L2
open SX (S)
/-! ### local lists that begin with an item; the last item of a local list -/
section
variable {X : Cx} {W W0 : Wd} {Γ : List DV} {μ : Mu} {e value i' : Expr} {rest : List Stmt} {D : Ends} {pos p p1 p2 pos' : Pos} {n : Str} {l : Addr} {d y : PyData} {ds ys : List PyData} {z : Int}
theorem Slots.toR {K : PySem.W.Frag} {H : Hp} {σ : L2.St} {Γ : List DV} {i : Nat} {a : Addr} (h : Slots K H σ Γ) (hi : Γ[i]? = some (.d (ptD a))) : Slots K H σ (Γ.set i (.r a)) := ⟨by rw [List.length_set]; exact h.len, fun j dv q => by
  by_cases hj : j = i
  · subst hj
    rw [List.getElem?_set_self (List.getElem?_eq_some_iff.mp hi).1] at q
    cases q
    obtain ⟨o, e1, v, e2, r⟩ := h.at_ _ _ hi
    cases r
    exact ⟨o, e1, e2⟩
  · rw [List.getElem?_set_ne (Ne.symm hj)] at q
    exact h.at_ j dv q⟩
end
section
variable {X : Cx} {W : Wd} {Γ : List DV} {μ : Mu} {iter tg : Expr} {α : Type} {enc : α → PyData} {xs : List α}
end
/-! ### moves -/
end HW
set_option maxHeartbeats 4000000
namespace HW
open PySem PySem.Spec PyProof.Rows L2
open SX (S)
/-! ### three names at once; a dict displayed and asked at once -/
section
variable {X : Cx} {W W0 : Wd} {Γ : List DV} {μ : Mu} {a b c e f v1 v2 : Expr} {rest : List Stmt} {D : Ends} {pos p p1 p2 p3 apos : Pos} {n1 n2 n3 : Str} {x y z d x1 x2 : PyData}
end
end HW
set_option maxHeartbeats 4000000
namespace HW
open PySem PySem.Spec PyProof.Rows L2
open SX (S)
theorem oneW_one {ws : List (List Nat)} {w : List Nat} (h : uq ws = [w]) : oneW (sU ws) = w := by
  have e : sU ws = [w] := List.perm_singleton.mp (h ▸ sU_perm ws)
  rw [e]
  rfl
theorem oneW_more {ws : List (List Nat)} (h : (uq ws).length ≠ 1) : oneW (sU ws) = [63] := by
  unfold oneW
  rw [if_neg (by rw [sU_len]; exact h)]
end HW
set_option maxHeartbeats 4000000
namespace HW
open PySem PySem.Spec PyProof.Rows L2
open SX (S)
/-! ### expressions that change or make local objects -/
section
variable {X : Cx} {W W0 : Wd} {Γ : List DV} {μ : Mu} {e a b : Expr} {es : List Expr} {rest : List Stmt} {D : Ends} {pos p p1 p2 p3 : Pos} {n n1 n2 n3 : Str} {P A : PyData → Mu → Prop} {l : Addr}
theorem EvM.ed {d : PyData} (h : EvM X W Γ μ e (fun z μ' => z = d ∧ μ' = μ)) : Ed X W Γ μ e d := (EvM.ev h).ed
/-- a comparison as a test -/
theorem tcm {op : CmpOp} {B : PyData → Mu → PyData → Mu → Prop} {P : Bool → Mu → Prop} (ha : EvM X W Γ μ a A) (hb : ∀ x μ1, A x μ1 → EvM X W Γ μ1 b (B x μ1)) (hz : ∀ x μ1 y μ2, A x μ1 → B x μ1 y μ2 → ∃ k, P k μ2 ∧ OpD X (compareOp op) x y (.bool k)) (hm : behindInMarks op b = false := by first | exact nomark _ | rfl) : EvTM X W Γ μ (.Compare a [op] [b] pos) P := fun σ H R q k => by
  refine (pt_cmpR (rAny.ok (X := X)) wE.pe wE.pe hm).w ?_
  refine ha σ H R _ fun va x μ1 H1 R1 s1 r1 p1 => hb x μ1 p1 σ H1 R1 _ fun vb y μ2 H2 R2 s2 r2 p2 => ?_
  obtain ⟨c, pc, o⟩ := hz x μ1 y μ2 p1 p2
  refine ⟨x, y, .bool c, o, hd W μ2, R2.ne, r1.up s2, r2, fun v H3 e3 r3 => ?_⟩
  cases r3
  exact ⟨c, rfl, k c μ2 H3 (R2.same e3) (same_trans (same_trans s1 s2) (XT.same e3)) pc⟩
theorem tnm {P : Bool → Mu → Prop} (h : EvTM X W Γ μ a fun k μ' => P (!k) μ') : EvTM X W Γ μ (.UnaryOp .Not a pos) P := fun σ H R q k => (pt_not wT.pt).w (h σ H R _ fun b μ' H2 R2 e2 p => k (!b) μ' H2 R2 e2 p)
theorem etm_val {P : Bool → Mu → Prop} (h : EvM X W Γ μ e fun d μ' => ∃ k, d = .bool k ∧ P k μ') (he : ∀ whole, isTrue e X.env whole = (do let v ← whole; PySem.standAt e.pos; holding [v] (truthy v)) := by intro _; rfl) : EvTM X W Γ μ e P := fun σ H R q k => by
  refine (pt_val wE.pe he).w ?_
  refine h σ H R _ fun v d μ' H2 R2 e2 r ⟨c, ec, p⟩ => ?_
  subst ec
  cases r
  exact ⟨c, rfl, k c μ' H2 R2 e2 p⟩
theorem twm_or1 {P : Bool → Mu → Prop} (h : EvTM X W Γ μ a P) : EvWM X W Γ μ (.BoolOp .Or [a] pos) P := fun σ H R q k => (pw_or1 wT.pt).w (h σ H R q k)
theorem twm_or {rs : List Expr} {A P : Bool → Mu → Prop} (h : EvTM X W Γ μ a A) (h2 : ∀ μ1, A false μ1 → EvWM X W Γ μ1 (.BoolOp .Or (b :: rs) pos) P) (h3 : ∀ μ1, A true μ1 → P true μ1) : EvWM X W Γ μ (.BoolOp .Or (a :: b :: rs) pos) P := fun σ H R q k => (pw_or wT.pt wW.pw).w (h σ H R _ fun c μ1 H2 R2 e2 p => by
  cases c with
  | true => exact iteT (k true μ1 H2 R2 e2 (h3 μ1 p))
  | false => exact iteF (h2 μ1 p σ H2 R2 q fun c μ2 H3 R3 e3 p3 => k c μ2 H3 R3 (same_trans e2 e3) p3))
/-- statements -/
theorem run_ifM {c : Expr} {sa sb : List Stmt} {A : Bool → Mu → Prop} (hc : EvTM X W Γ μ c A) (h1 : ∀ μ1, A true μ1 → Run X W Γ μ1 sa { D with nx := wSs X rest D }) (h2 : ∀ μ1, A false μ1 → Run X W Γ μ1 sb { D with nx := wSs X rest D }) : Run X W Γ μ (.If c sa sb pos :: rest) D := fun σ H R =>
  wSs_cons ((ps_if wT.pt wSs.ps wSs.ps).w (hc σ H R _ fun k μ1 H2 R2 e2 p => by
    cases k with
    | true => exact iteT (h1 μ1 p σ H2 R2)
    | false => exact iteF (h2 μ1 p σ H2 R2)))
theorem run_setM (i : Nat) (he : EvM X W Γ μ e P) (h : ∀ d μ1, P d μ1 → Run X W (Γ.set i (.d d)) μ1 rest D) (nd : X.N.Nodup) (hN : X.N[i]? = some n := by rfl) (hx : Loc X.env.scope n := by first | exact Or.inl rfl | exact Or.inr rfl)
    (hs : swapsWith e (some (.Name n p)) pos.line X.env = pure false := by rfl) (hf : X.fn n = true ∨ X.env.scope.names.lookup n = some .local := by first | exact .inr rfl | exact .inl rfl) : Run X W Γ μ (.Assign [.Name n p] e pos :: rest) D := fun σ H R =>
  wSs_cons ((ps_set nd hN hx wE.pe hs hf).w (he σ H R _ fun v d μ1 H2 R2 e2 r p => h d μ1 p _ _ ⟨R2.wd, R2.fr, R2.sl.set i r, R2.mu, R2.nd⟩))
/-- a slot whose place is known -/
theorem run_toR (i : Nat) (l : Addr) (h : Run X W (Γ.set i (.r l)) μ rest D) (hi : Γ[i]? = some (.d (ptD l)) := by rfl) : Run X W Γ μ rest D := fun σ H R => h σ H ⟨R.wd, R.fr, Slots.toR R.sl hi, R.mu, R.nd⟩
/-- return, where the local objects are looked at -/
theorem run_retR {d : PyData} (he : Ed X W Γ μ e d) (hD : ∀ v σ H, Rep X.K W Γ μ σ H → Va X.K (off (hd W μ) H) v d → D.rt v H) : Run X W Γ μ (.Return (some e) pos :: rest) D := fun σ H R =>
  wSs_cons ((ps_ret wE.pe).w (he σ H R _ fun v H2 R2 e2 r => hD v σ H2 R2 r))
end
end HW
set_option maxHeartbeats 4000000
namespace HW
open PySem PySem.Spec PyProof.Rows L2
open SX (S)
/-! ### instances of a class of the program -/
def putFD (f : Str) (d : PyData) : List (Str × PyData) → List (Str × PyData)
  | [] => [(f, d)]
  | (g, x) :: r => if g = f then (g, d) :: r else (g, x) :: putFD f d r
section
variable {K : PySem.W.Frag} {H H' : Hp} {gs : List (Str × V)} {fs : List (Str × PyData)}
theorem fv_some {f : Str} {d : PyData} : ∀ {gs : List (Str × V)} {fs : List (Str × PyData)}, FvR K H gs fs → fs.lookup f = some d → ∃ v, gs.lookup f = some v ∧ Va K H v d
  | _, _, .nil, e => by cases e
  | (g, v) :: gs, (g', d') :: fs, .cons h t, e => by
    obtain ⟨h1, h2⟩ := h
    have h1 : g = g' := h1
    subst h1
    rw [List.lookup_cons] at e ⊢
    cases q : (f == g) with
    | true =>
      rw [q] at e
      cases e
      exact ⟨v, rfl, h2⟩
    | false =>
      rw [q] at e
      exact fv_some t e
theorem fv_none {f : Str} : ∀ {gs : List (Str × V)} {fs : List (Str × PyData)}, FvR K H gs fs → fs.lookup f = none → gs.lookup f = none
  | _, _, .nil, _ => rfl
  | (g, v) :: gs, (g', d') :: fs, .cons h t, e => by
    obtain ⟨h1, h2⟩ := h
    have h1 : g = g' := h1
    subst h1
    rw [List.lookup_cons] at e ⊢
    cases q : (f == g) with
    | true => rw [q] at e; cases e
    | false => rw [q] at e; exact fv_none t e
theorem fv_put {f : Str} {y : V} {d : PyData} (r : Va K H y d) : ∀ {gs : List (Str × V)} {fs : List (Str × PyData)}, FvR K H gs fs → FvR K H (putF f y gs) (putFD f d fs)
  | _, _, .nil => .cons ⟨rfl, r⟩ .nil
  | (g, v) :: gs, (g', d') :: fs, .cons h t => by
    obtain ⟨h1, h2⟩ := h
    have h1 : g = g' := h1
    subst h1
    unfold putF putFD
    by_cases q : g = f
    · rw [if_pos q, if_pos q]
      exact .cons ⟨rfl, r⟩ t
    · rw [if_neg q, if_neg q]
      exact .cons ⟨rfl, h2⟩ (fv_put r t)
theorem fv_len (h : FvR K H gs fs) : gs.length = fs.length := plen h
end
theorem keys_set {μ : Mu} {j : Nat} {D : Addr} {m m' : MO} (hj : μ[j]? = some (D, m)) : (μ.set j (D, m')).map (·.1) = μ.map (·.1) := by
  rw [List.map_set]
  obtain ⟨hl, he⟩ := List.getElem?_eq_some_iff.mp hj
  apply List.ext_getElem (by simp)
  intro i h1 h2
  by_cases q : i = j
  · subst q
    simp [he]
  · rw [List.getElem_set_ne (Ne.symm q)]
/-- a call has changed one local object -/
theorem Rep.chgM {K : PySem.W.Frag} {W : Wd} {Γ : List DV} {μ : Mu} {σ : L2.St} {H H' : Hp} {D : Addr} {m m' : MO} {j : Nat} (R : Rep K W Γ μ σ H) (hj : μ[j]? = some (D, m)) (keep : ∀ b o, b ≠ D → H b = some o → H' b = some o) (hm : MOk K (off (hd W μ) H') H' D m') : Rep K W Γ (μ.set j (D, m')) σ H' ∧ Same (off (hd W μ) H) (off (hd W (μ.set j (D, m'))) H') := by
  have hmem : (D, m) ∈ μ := List.mem_of_getElem? hj
  have h0 : W.H0 D = none := (R.mu _ hmem).1
  have keys := keys_set (m' := m') hj
  have hh : hd W (μ.set j (D, m')) = hd W μ := by unfold hd; rw [keys]
  have inD : D ∈ hd W μ := List.mem_append_right _ (List.mem_map.mpr ⟨_, hmem, rfl⟩)
  have oe : Same (off (hd W μ) H) (off (hd W μ) H') := fun a o e => by
    obtain ⟨h1, h2⟩ := off_some e
    rw [off_out h1]
    exact keep a o (fun z => h1 (by rw [z]; exact inD)) h2
  have nrow : ¬ W.isRow D := fun ⟨scr, ns, e⟩ => (R.wd.hid D (R.wd.row _ _ _ e).1) h0
  refine ⟨⟨R.wd, ⟨fun a u n e => keep a u (fun z => by rw [z, h0] at e; cases e) (R.fr.keep a u n e), fun r scr ns e => ?_⟩, ?_, fun p hp => ?_, by rw [keys]; exact R.nd⟩, by rw [hh]; exact oe⟩
  · obtain ⟨i, s, q, e1, e2⟩ := R.fr.row r scr ns e
    exact ⟨i, s, q, keep r _ (fun (z : r = D) => nrow ⟨scr, ns, by rw [← z]; exact e⟩) e1, e2⟩
  · rw [hh]
    exact R.sl.up oe
  · rw [hh]
    obtain ⟨i, hi⟩ := List.getElem?_of_mem hp
    by_cases q : i = j
    · subst q
      rw [List.getElem?_set_self (List.getElem?_eq_some_iff.mp hj).1] at hi
      cases hi
      exact ⟨h0, hm⟩
    · rw [List.getElem?_set_ne (Ne.symm q)] at hi
      have hp' : p ∈ μ := List.mem_of_getElem? hi
      have ne : p.1 ≠ D := fun z => by
        have n := R.nd
        have e1 : (μ.map (·.1))[i]? = some D := by rw [List.getElem?_map, hi]; exact congrArg some z
        have e2 : (μ.map (·.1))[j]? = some D := by rw [List.getElem?_map, hj]; rfl
        exact q (nd_ix n e1 e2)
      exact ⟨(R.mu p hp').1, (R.mu p hp').2.up oe fun u e => keep _ _ ne e⟩
/-- a def whose first argument is an instance, which it may change -/
def spT (K : PySem.W.Frag) (C : Addr) (pre : List (Str × PyData) → List PyData → Prop) (post : List (Str × PyData) → List PyData → List (Str × PyData) → PyData → Prop) : Sp := fun vs H Q _ => ∃ (M : List Addr) (a dx : Addr) (gs : List (Str × V)) (fs : List (Str × PyData)) (ws : List V) (ds : List PyData), vs = .ref a :: ws ∧ (∀ b ∈ M, NT H b) ∧ a ∈ M ∧ H a = some (.ins C dx gs) ∧ FvR K (off M H) gs fs ∧ VaAll K (off M H) ws ds ∧ pre fs ds ∧
  ∀ v H' d fs' dx' gs', post fs ds fs' d → (∀ b o, b ≠ a → H b = some o → H' b = some o) → H' a = some (.ins C dx' gs') → FvR K (off M H') gs' fs' → Va K (off M H') v d → Q v H'
def RetT (K : PySem.W.Frag) (W : Wd) (a C : Addr) (P : List (Str × PyData) → PyData → Prop) : VK := fun v H => Fr W H ∧ ∃ d fs dx gs, P fs d ∧ H a = some (.ins C dx gs) ∧ FvR K (off (W.M ++ [a]) H) gs fs ∧ Va K (off (W.M ++ [a]) H) v d
section
variable {P : Program} {w : World} {K : PySem.W.Frag} {mg : Str → Option Value} {base : Heap} {x qual : Str} {params : Arguments} {body : List Stmt} {scope : Scope} {f : Addr} {fd : FuncData} {N ps : List Str} {k : Nat}
theorem fd_meth (F : FunD K x qual params body scope [] [] f fd) (Sc : FnScope N ps scope) (C : Addr) (pre : List (Str × PyData) → List PyData → Prop) (post : List (Str × PyData) → List PyData → List (Str × PyData) → PyData → Prop) (hlen : ∀ fs ds, pre fs ds → ds.length + 1 = ps.length)
    (h : ∀ (cdv : Value) (A : Around) (outer : List Env) (s : Shared) (H : Hp) (E : XK), Room k (A.deeper (envOfC qual scope s.heap.objs.size f cdv)) → ∀ (W : Wd) (a : Addr) (fs : List (Str × PyData)) (ds : List PyData), W.row = none → pre fs ds →
      Run (cxOf CX0 P w K mg base N qual scope f cdv A outer s H E).nox W (.r a :: (ds.map .d ++ List.replicate (N.length - ps.length) .no)) [(a, .ins C fs)] body { nx := fun _ H' => RetT K W a C (post fs ds) .non H', rt := RetT K W a C (post fs ds) }) :
    FnOk P w K mg base CX0 (k + 1) f fd ps (spT K C pre post) := by
  refine F.ok Sc (fun vs H Q E ⟨M, a, dx, gs, fs, ws, ds, e, _, _, _, _, hv, hpre, _⟩ => by rw [e, List.length_cons, hv.length]; exact hlen fs ds hpre) fun cdv A outer s H vs Q E hr ⟨M, a, dx, gs, fs, ws, ds, e, hM, haM, ha, hf, hv, hp, q⟩ => ?_
  refine ⟨_, PSs.nox wSs.ps, ?_⟩
  let W : Wd := ⟨off [a] H, M.filter fun b => decide (b ≠ a), none⟩
  have memW : ∀ b, b ∈ W.M ↔ b ∈ M ∧ b ≠ a := fun b => by
    show b ∈ M.filter _ ↔ _
    rw [List.mem_filter, decide_eq_true_iff]
  have mem : ∀ b, b ∈ hd W [(a, MO.ins C fs)] ↔ b ∈ M := fun b => by
    show b ∈ W.M ++ [a] ↔ _
    rw [List.mem_append, memW, List.mem_singleton]
    constructor
    · rintro (h | h)
      · exact h.1
      · rw [h]; exact haM
    · intro h
      by_cases q : b = a
      · exact .inr q
      · exact .inl ⟨h, q⟩
  have nr : ∀ a, ¬ W.isRow a := fun a ⟨_, _, e⟩ => nomatch e
  have ok : WdOk K W := ⟨fun b hb => by
    obtain ⟨h1, h2⟩ := (memW b).mp hb
    show off [a] H b ≠ none
    rw [off_out (by simpa using h2)]
    exact (hM b h1).1, fun _ _ _ e => (nomatch e), fun b hb => by
    obtain ⟨h1, h2⟩ := (memW b).mp hb
    show ∀ xs, off [a] H b ≠ some (.tup xs)
    rw [off_out (by simpa using h2)]
    exact (hM b h1).2⟩
  have oc : ∀ H', off (hd W [(a, MO.ins C fs)]) H' = off M H' := fun H' => off_cong mem
  have sl : Slots K (off (hd W [(a, MO.ins C fs)]) H) (start N vs) (.r a :: (ds.map .d ++ List.replicate (N.length - ps.length) .no)) := by
    rw [oc]
    show Slots K (off M H) (vs.map some ++ List.replicate (N.length - vs.length) none) _
    rw [e, List.length_cons, hv.length, hlen fs ds hp]
    have z := slots_start (K := K) (N.length - ps.length) hv
    refine ⟨by simp [z.len, hv.length], fun i dv hi => ?_⟩
    cases i with
    | zero => cases hi; exact ⟨_, rfl, rfl⟩
    | succ i => exact z.at_ i dv hi
  have ret : ∀ v H', RetT K W a C (post fs ds) v H' → Q v H' := fun v H' ⟨fr, d', fs', dx', gs', e, ea, ef, ev⟩ => by
    have o2 : off (W.M ++ [a]) H' = off M H' := oc H'
    rw [o2] at ef ev
    exact q v H' d' fs' dx' gs' e (fun b o n e => fr.keep b o (nr b) (by show off [a] H b = some o; rw [off_out (by simpa using n)]; exact e)) ea ef ev
  intro pins st I
  have z := h cdv A outer s H E hr W a fs ds rfl hp (start N vs) H ⟨ok, ⟨fun b o _ e => (off_some e).2, fun _ _ _ e => nomatch e⟩, sl, fun p hp => by
    rw [List.mem_singleton.mp hp]
    exact ⟨off_in List.mem_cons_self, dx, gs, ha, by rw [oc]; exact hf⟩, by simp⟩ pins st I
  refine wpAny_mono z (fun fl s' hq => ?_) fun _ _ z => z
  cases fl with
  | next =>
    obtain ⟨σ', H', I', q'⟩ := hq
    exact ⟨σ', H', I', ret _ _ q'⟩
  | brk => exact hq
  | cont => exact hq
  | ret u =>
    obtain ⟨v', σ', H', I', rv, q'⟩ := hq
    exact ⟨v', σ', H', I', rv, ret _ _ q'⟩
end
/-- a method of a class, ready to be called -/
structure FdM (P : Program) (w : World) (K : PySem.W.Frag) (mg : Str → Option Value) (base : Heap) (k : Nat) (C : Addr) (m : Str) (ps : List Str) (sp : Sp) : Prop where
  ex : ∃ (f : Addr) (fd : FuncData), FnOk P w K mg base CX0 k f fd ps sp ∧ Meth K C m f ∧ Binds K fd ps []
theorem FdM.mono {P : Program} {w : World} {K : PySem.W.Frag} {mg : Str → Option Value} {base : Heap} {j k : Nat} {C : Addr} {m : Str} {ps : List Str} {sp : Sp} (F : FdM P w K mg base j C m ps sp) (h : j ≤ k) : FdM P w K mg base k C m ps sp := by
  obtain ⟨f, fd, h1, h2, h3⟩ := F.ex
  exact ⟨f, fd, h1.mono h, h2, h3⟩
section
variable {X : Cx} {W W0 : Wd} {Γ : List DV} {μ : Mu} {e value : Expr} {es : List Expr} {rest : List Stmt} {D : Ends} {pos p p1 p2 pos' apos : Pos} {n m fn : Str} {a C : Addr} {fs : List (Str × PyData)} {ds : List PyData} {d : PyData} {k : Nat} {ps : List Str}
/-- what a local instance is -/
theorem ins_at {σ : L2.St} {H : Hp} (R : Rep X.K W Γ μ σ H) {j : Nat} (hj : μ[j]? = some (a, .ins C fs)) : ∃ dx gs, H a = some (.ins C dx gs) ∧ FvR X.K (off (hd W μ) H) gs fs := (R.mu _ (List.mem_of_getElem? hj)).2
/-- o.f -/
theorem ed_fld (i j : Nat) (c : Cls X.K C) (nf : NoAttr X.K C fn) (hl : fs.lookup fn = some d) (hi : Γ[i]? = some (.r a) := by rfl) (hj : μ[j]? = some (a, .ins C fs) := by rfl) (hN : X.N[i]? = some n := by rfl) (hv : Vis X.env.scope n := by first | exact Or.inl rfl | exact Or.inr (Or.inl rfl) | exact Or.inr (Or.inr rfl))
    (h1 : (n == ("__debug__" : Str)) = false := by decide) (h2 : (n == ("__classdict__" : Str)) = false := by decide) (hb : attributeBase (.Name n p) fn X.env (eval (.Name n p) X.env) = eval (.Name n p) X.env := by rfl) : Ed X W Γ μ (.Attribute (.Name n p) fn pos) d := fun σ H R Q q => by
  refine (pe_fld (pe_var hN hv h1 h2) hb).w ?_
  obtain ⟨o, g1, g2⟩ := R.sl.at_ i _ hi
  have g2' : o = some (.ref a) := g2
  subst g2'
  obtain ⟨dx, gs, ha, hf⟩ := ins_at R hj
  obtain ⟨v, hv1, hv2⟩ := fv_some hf hl
  exact ⟨_, g1, a, C, dx, gs, v, rfl, ha, c, nf, hv1, q v H R XT.refl hv2⟩
/-- o.f = value -/
theorem run_fset (i j : Nat) (c : Cls X.K C) (nf : NoAttr X.K C fn) (he : Ed X W Γ μ value d) (hlen : fs.length < 1000) (h : Run X W Γ (μ.set j (a, .ins C (putFD fn d fs))) rest D) (hi : Γ[i]? = some (.r a) := by rfl) (hj : μ[j]? = some (a, .ins C fs) := by rfl) (hN : X.N[i]? = some n := by rfl) (hv : Vis X.env.scope n := by first | exact Or.inl rfl | exact Or.inr (Or.inl rfl) | exact Or.inr (Or.inr rfl))
    (h1 : (n == ("__debug__" : Str)) = false := by decide) (h2 : (n == ("__classdict__" : Str)) = false := by decide) (hs : swapsWith value (some (.Attribute (.Name n p) fn pos')) pos.line X.env = pure false := by rfl) : Run X W Γ μ (.Assign [.Attribute (.Name n p) fn pos'] value pos :: rest) D := fun σ H R => by
  refine wSs_cons ((ps_fld (pe_var hN hv h1 h2) wE.pe hs).w (he σ H R _ fun v H2 R2 e2 r2 => ?_))
  obtain ⟨o, g1, g2⟩ := R2.sl.at_ i _ hi
  have g2' : o = some (.ref a) := g2
  subst g2'
  obtain ⟨dx, gs, ha, hf⟩ := ins_at R2 hj
  refine ⟨_, g1, a, C, dx, gs, rfl, ha, c, nf, by rw [fv_len hf]; exact hlen, h _ _ (R2.chg (m := .ins C fs) hj ⟨dx, _, upd_same, fv_put r2 hf⟩)⟩
/-- how a call of a def with an instance ends -/
theorem spT_call {pre : List (Str × PyData) → List PyData → Prop} {post : List (Str × PyData) → List PyData → List (Str × PyData) → PyData → Prop} {σ : L2.St} {H H2 : Hp} {j : Nat} {vs : List V} {E : XK} {Q : VK} (R2 : Rep X.K W Γ μ σ H2) (e2 : Same (off (hd W μ) H) (off (hd W μ) H2)) (hj : μ[j]? = some (a, .ins C fs)) (r2 : VaAll X.K (off (hd W μ) H2) vs ds) (hp : pre fs ds)
    (q : ∀ v d μ' H2, Rep X.K W Γ μ' σ H2 → Same (off (hd W μ) H) (off (hd W μ') H2) → Va X.K (off (hd W μ') H2) v d → (∃ fs', post fs ds fs' d ∧ μ' = μ.set j (a, .ins C fs')) → Q v H2) : spT X.K C pre post (.ref a :: vs) H2 Q E := by
  obtain ⟨dx, gs, ha, hf⟩ := ins_at R2 hj
  refine ⟨hd W μ, a, dx, gs, fs, vs, ds, rfl, R2.nts, List.mem_append_right _ (List.mem_map.mpr ⟨_, List.mem_of_getElem? hj, rfl⟩), ha, hf, r2, hp, fun v H3 d fs' dx' gs' po keep ha' hf' rv => ?_⟩
  obtain ⟨R3, s3⟩ := R2.chgM (m' := .ins C fs') hj keep ⟨dx', gs', ha', hf'⟩
  have hh : hd W (μ.set j (a, .ins C fs')) = hd W μ := by unfold hd; rw [keys_set (m' := .ins C fs') hj]
  exact q v d _ H3 R3 (same_trans e2 s3) (by rw [hh]; exact rv) ⟨fs', po, rfl⟩
/-- o.m(e, ..) -/
theorem em_meth (i j : Nat) {pre : List (Str × PyData) → List PyData → Prop} {post : List (Str × PyData) → List PyData → List (Str × PyData) → PyData → Prop} (F : FdM X.prog X.w X.K X.mg X.base k C m ps (spT X.K C pre post)) (hr : Room k X.A) (c : Cls X.K C) (hl : fs.lookup m = none) (ha : EdA X W Γ μ (e :: es) ds) (hp : pre fs ds) {pl : Sem Bool} (hi : Γ[i]? = some (.r a) := by rfl) (hj : μ[j]? = some (a, .ins C fs) := by rfl) (hN : X.N[i]? = some n := by rfl) (hv : Vis X.env.scope n := by first | exact Or.inl rfl | exact Or.inr (Or.inl rfl) | exact Or.inr (Or.inr rfl))
    (h1 : (n == ("__debug__" : Str)) = false := by decide) (h2 : (n == ("__classdict__" : Str)) = false := by decide)
    (hst : starEach (e :: es) X.env = (false, eval e X.env) :: starEach es X.env := by rfl) (hpl : (backTo pos (starEach es X.env)).any (·.1) = false := by rfl)
    (ht : eval (.Call (.Attribute (.Name n p) m apos) (e :: es) [] pos) X.env = (do
      let ov ← eval (.Name n p) X.env
      PySem.standAt apos.atName
      let (f, first) ← holding [ov] (getMethod ov m pl)
      callWith pos f first (backTo pos (starEach (e :: es) X.env)) (backToKw pos (keywordEach [] X.env))) := by rfl) : EvM X W Γ μ (.Call (.Attribute (.Name n p) m apos) (e :: es) [] pos) (fun d μ' => ∃ fs', post fs ds fs' d ∧ μ' = μ.set j (a, .ins C fs')) := fun σ H R Q q => by
  obtain ⟨f, fd, g1, g2, g3⟩ := F.ex
  refine (pe_meth (pl := pl) (E := fun _ _ _ => True) (pe_var hN hv h1 h2) c g2 g1 hr g3 .nil pass0 wA.pa hst hpl ht).w ?_
  obtain ⟨o, e1, e2⟩ := R.sl.at_ i _ hi
  have e2' : o = some (.ref a) := e2
  subst e2'
  obtain ⟨dx, gs, ha0, hf0⟩ := ins_at R hj
  refine ⟨_, e1, a, dx, gs, rfl, ha0, fv_none hf0 hl, ha σ H R _ fun vs H2 R2 x2 r2 => ?_⟩
  rw [List.append_nil]
  exact spT_call R2 x2 hj r2 hp q
theorem em_meth0 (i j : Nat) {pre : List (Str × PyData) → List PyData → Prop} {post : List (Str × PyData) → List PyData → List (Str × PyData) → PyData → Prop} (F : FdM X.prog X.w X.K X.mg X.base k C m ps (spT X.K C pre post)) (hr : Room k X.A) (c : Cls X.K C) (hl : fs.lookup m = none) (hp : pre fs []) {pl : Sem Bool} (hi : Γ[i]? = some (.r a) := by rfl) (hj : μ[j]? = some (a, .ins C fs) := by rfl) (hN : X.N[i]? = some n := by rfl) (hv : Vis X.env.scope n := by first | exact Or.inl rfl | exact Or.inr (Or.inl rfl) | exact Or.inr (Or.inr rfl))
    (h1 : (n == ("__debug__" : Str)) = false := by decide) (h2 : (n == ("__classdict__" : Str)) = false := by decide)
    (ht : eval (.Call (.Attribute (.Name n p) m apos) [] [] pos) X.env = (do
      let ov ← eval (.Name n p) X.env
      PySem.standAt apos.atName
      let (f, first) ← holding [ov] (getMethod ov m pl)
      callWith pos f first (backTo pos (starEach [] X.env)) (backToKw pos (keywordEach [] X.env))) := by rfl) : EvM X W Γ μ (.Call (.Attribute (.Name n p) m apos) [] [] pos) (fun d μ' => ∃ fs', post fs [] fs' d ∧ μ' = μ.set j (a, .ins C fs')) := fun σ H R Q q => by
  obtain ⟨f, fd, g1, g2, g3⟩ := F.ex
  refine (pe_meth0 (pl := pl) (E := fun _ _ _ => True) (pe_var hN hv h1 h2) c g2 g1 hr g3 .nil pass0 ht).w ?_
  obtain ⟨o, e1, e2⟩ := R.sl.at_ i _ hi
  have e2' : o = some (.ref a) := e2
  subst e2'
  obtain ⟨dx, gs, ha0, hf0⟩ := ins_at R hj
  refine ⟨_, e1, a, dx, gs, rfl, ha0, fv_none hf0 hl, ?_⟩
  show spT X.K C pre post [V.ref a] H Q (fun _ _ _ => True)
  exact spT_call R (Same.refl _) hj .nil hp q
/-- C(e, ..) -/
theorem em_make {x : Str} {g : Addr} {fd : FuncData} {pre : List (Str × PyData) → List PyData → Prop} {post : List (Str × PyData) → List PyData → List (Str × PyData) → PyData → Prop} (Mk_ : Mk X.K C g) (F : FnOk X.prog X.w X.K X.mg X.base CX0 k g fd ps (spT X.K C pre post)) (hb : Binds X.K fd ps []) (hr : Room (k + 1) X.A) (hm : X.mg x = some (.ref C)) (ha : EdA X W Γ μ (e :: es) ds) (hp : pre [] ds) (hz : ∀ fs' d, post [] ds fs' d → d = .none) (hg : Gl X x := by rfl)
    (hdb : (x == ("__debug__" : Str)) = false := by decide) (he : starEach (e :: es) X.env = (false, eval e X.env) :: starEach es X.env := by rfl) (hpl : (backTo pos (starEach es X.env)).any (·.1) = false := by rfl) :
    EvM X W Γ μ (.Call (.Name x p) (e :: es) [] pos) (fun d μ' => ∃ l fs' z, post [] ds fs' z ∧ d = ptD l ∧ μ' = (l, .ins C fs') :: μ) := fun σ H R Q q => by
  refine (pe_make Mk_ F hr hg hm hb .nil pass0 wA.pa hdb he hpl).w ?_
  refine ha σ H R _ fun vs H2 R2 x2 r2 l dx hl hdx hne => ?_
  rw [List.append_nil]
  have s1 := same_new (o := HO.own l) hdx
  have R3 := R2.same s1
  have hl3 : upd H2 dx (.own l) l = none := by rw [upd_ne (Ne.symm hne)]; exact hl
  have R4 := R3.born (D := l) (m := .ins C []) (o := .ins C dx []) hl3 ⟨dx, [], upd_same, .nil⟩
  have up : ∀ b o, off (hd W μ) H2 b = some o → off (hd W ((l, .ins C []) :: μ)) (upd (upd H2 dx (.own l)) l (.ins C dx [])) b = some o := fun b o e => by
    obtain ⟨z1, z2⟩ := off_some e
    have n1 : b ≠ l := fun z => by rw [z, hl] at z2; cases z2
    rw [off_out, upd_ne n1]
    · exact s1 b o z2
    · intro z
      rcases List.mem_append.mp z with z | z
      · exact z1 (List.mem_append_left _ z)
      · rcases List.mem_cons.mp z with z | z
        · exact n1 z
        · exact z1 (List.mem_append_right _ z)
  refine spT_call (H := upd (upd H2 dx (.own l)) l (.ins C dx [])) (j := 0) (fs := []) R4 (Same.refl _) rfl (r2.up up) hp fun v d μ' H5 R5 s5 r5 ⟨fs', po, eμ⟩ => ?_
  subst eμ
  obtain rfl := hz fs' d po
  cases r5
  exact ⟨rfl, q (.ref l) (ptD l) _ H5 R5 (same_trans x2 (same_trans up s5)) (.ptr l) ⟨l, fs', _, po, rfl, rfl⟩⟩
/-- return from a def with an instance -/
theorem run_retT {P : List (Str × PyData) → PyData → Prop} {nx bk ct : L2.St → Hp → Prop} (j : Nat) (he : Ed X W Γ μ e d) (hp : P fs d) (hj : μ[j]? = some (a, .ins C fs) := by rfl) : Run X W Γ μ (.Return (some e) pos :: rest) ⟨nx, RetT X.K W a C P, bk, ct⟩ :=
  run_retR he fun v σ H R r => by
    have sub : Same (off (hd W μ) H) (off (W.M ++ [a]) H) := same_offs fun b hb => by
      rcases List.mem_append.mp hb with z | z
      · exact List.mem_append_left _ z
      · rw [List.mem_singleton.mp z]
        exact List.mem_append_right _ (List.mem_map.mpr ⟨_, List.mem_of_getElem? hj, rfl⟩)
    obtain ⟨dx, gs, ha, hf⟩ := ins_at R hj
    exact ⟨R.fr, d, fs, dx, gs, hp, ha, hf.up sub, r.up sub⟩
/-- .. by its end -/
theorem run_endT {P : List (Str × PyData) → PyData → Prop} {rt : VK} {bk ct : L2.St → Hp → Prop} (j : Nat) (hp : P fs .none) (hj : μ[j]? = some (a, .ins C fs) := by rfl) : Run X W Γ μ [] ⟨fun _ H' => RetT X.K W a C P .non H', rt, bk, ct⟩ :=
  run_nil fun σ H R => by
    have sub : Same (off (hd W μ) H) (off (W.M ++ [a]) H) := same_offs fun b hb => by
      rcases List.mem_append.mp hb with z | z
      · exact List.mem_append_left _ z
      · rw [List.mem_singleton.mp z]
        exact List.mem_append_right _ (List.mem_map.mpr ⟨_, List.mem_of_getElem? hj, rfl⟩)
    obtain ⟨dx, gs, ha, hf⟩ := ins_at R hj
    exact ⟨R.fr, .none, fs, dx, gs, hp, ha, hf.up sub, .non⟩
end
end HW
set_option maxHeartbeats 4000000
namespace HW
open PySem PySem.Spec PyProof.Rows L2
open SX (S)
/-! ### a class that is made, a method that is called, and raises -/
section
variable {X : Cx} {CX : CXT} {k : Nat} {f C : Addr} {fd : FuncData} {ps : List Str} {sp : Sp} {E : L2.St → XK} {x m : Str} {p pos apos : Pos} {e o : Expr} {es : List Expr} {ta : TE} {t : TA}
end
/-- a class whose making raises -/
structure MkX (P : Program) (w : World) (K : PySem.W.Frag) (mg : Str → Option Value) (base : Heap) (k : Nat) (x : Str) (ps : List Str) (R : List PyData → Str → Option (Str × PyData) → Prop) : Prop where
  ex : ∃ (C f : Addr) (fd : FuncData) (j : Nat), j < k ∧ mg x = some (.ref C) ∧ Mk K C f ∧ FnOk P w K mg base (L2.CX P w) j f fd ps (spX K R) ∧ Binds K fd ps []
theorem MkX.mono {P : Program} {w : World} {K : PySem.W.Frag} {mg : Str → Option Value} {base : Heap} {j k : Nat} {x : Str} {ps : List Str} {R : List PyData → Str → Option (Str × PyData) → Prop} (F : MkX P w K mg base j x ps R) (h : j ≤ k) : MkX P w K mg base k x ps R := by
  obtain ⟨C, f, fd, i, h0, h1, h2, h3, h4⟩ := F.ex
  exact ⟨C, f, fd, i, Nat.lt_of_lt_of_le h0 h, h1, h2, h3, h4⟩
section
variable {X : Cx} {W : Wd} {Γ : List DV} {μ : Mu} {e : Expr} {es : List Expr} {ds : List PyData} {x f : Str} {fo : Option (Str × PyData)} {ps : List Str} {k : Nat} {p pos : Pos} {W0 : WX} {R : List PyData → Str → Option (Str × PyData) → Prop}
end
/-! ### masks and rows refused -/
end HW
namespace HW
open PySem PySem.Spec PyProof.Rows L2
open SX (S)
section
variable {X : Cx} {W : Wd} {Γ : List DV} {μ : Mu} {a b : Expr} {pos : Pos}
end
end HW
set_option maxHeartbeats 4000000
namespace HW
open PySem PySem.Spec PyProof.Rows L2
open SX (S)
/-! ### attributes as targets; len of an instance; an instance that is told -/
section
variable {X : Cx} {o : Expr} {f : Str} {pos : Pos} {to : TE}
end
section
variable {X : Cx} {W W0 : Wd} {Γ : List DV} {μ : Mu} {e value : Expr} {es : List Expr} {rest : List Stmt} {D : Ends} {pos p p1 p2 q1 q2 pos' apos : Pos} {n m f1 f2 : Str} {a C : Addr} {fs : List (Str × PyData)} {ds : List PyData} {d x y : PyData} {k : Nat} {ps : List Str}
theorem len_own {prog : Program} {w : World} {A : Around} {E : Value → Shared → Prop} {s : Shared} {K : PySem.W.Frag} {x C f : Addr} {ox : Obj} {od : Option Obj} {Q : Value → Shared → Prop} (X₀ : K.In s.heap) (I : PySem.W.InstAt s.heap x ox C od) (hs : PySem.W.findIn K (.ref C) "__len__" = some (some (.ref f))) (hf : PySem.W.isFn K (.ref f) = true)
    (h : wpAny (model prog w) A.in1 (call (.ref f) [.ref x]) (PySem.W.LenBack Q) E s) : wpAny (model prog w) A (call (.builtin "len") [.ref x]) Q E s := by
  refine Calls.call_function_entry kind_len plain_len entry_len (args_len1 _) ?_
  unfold Builtin.«len»
  refine wpAny_bind (m := oneArg "len" _) (wpAny_pure ?_)
  refine wpAny_bind (m := callSpecial? (.ref x) (Str.ofString "__len__")) (PySem.W.special_fn X₀ I hs (beq_iff_eq.mp hf) (wpAny_mono h (fun r s' hr => ?_) fun _ _ y => y))
  cases r <;> first | exact hr.elim | skip
  rename_i n u
  obtain ⟨⟨h0, h1⟩, hq⟩ := hr
  refine wpAny_bind (wpAny_holding (wpAny_pure ?_))
  refine wpAny_bind (wpAny_letGo ?_)
  show wpAny _ _ (if n < 0 then _ else _) _ _ _
  rw [if_neg (by omega)]
  show wpAny _ _ (if n ≥ 2 ^ 63 then _ else _) _ _ _
  rw [if_neg (by omega)]
  exact wpAny_bind (wpAny_mkInt (wpAny_pure ⟨_, rfl, hq⟩))
end
end HW
set_option maxHeartbeats 4000000
namespace HW
open PySem PySem.Spec PyProof.Rows L2
open SX (S)
theorem set_same {α : Type} {l : List α} {j : Nat} {x : α} (h : l[j]? = some x) : l.set j x = l := by
  apply List.ext_getElem?
  intro i
  by_cases q : i = j
  · subst q
    rw [List.getElem?_set_self (List.getElem?_eq_some_iff.mp h).1, h]
  · rw [List.getElem?_set_ne (Ne.symm q)]
/-- a class of the program, ready to be made -/
structure MkT (P : Program) (w : World) (K : PySem.W.Frag) (mg : Str → Option Value) (base : Heap) (k : Nat) (C : Addr) (x : Str) (ps : List Str) (sp : Sp) : Prop where
  ex : ∃ (f : Addr) (fd : FuncData) (j : Nat), j < k ∧ mg x = some (.ref C) ∧ Mk K C f ∧ FnOk P w K mg base CX0 j f fd ps sp ∧ Binds K fd ps []
theorem MkT.mono {P : Program} {w : World} {K : PySem.W.Frag} {mg : Str → Option Value} {base : Heap} {j k : Nat} {C : Addr} {x : Str} {ps : List Str} {sp : Sp} (F : MkT P w K mg base j C x ps sp) (h : j ≤ k) : MkT P w K mg base k C x ps sp := by
  obtain ⟨f, fd, i, h0, h1, h2, h3, h4⟩ := F.ex
  exact ⟨f, fd, i, Nat.lt_of_lt_of_le h0 h, h1, h2, h3, h4⟩
section
variable {P : Program} {w : World} {K : PySem.W.Frag} {mg : Str → Option Value} {base : Heap} {x qual : Str} {params : Arguments} {body : List Stmt} {scope : Scope} {f : Addr} {fd : FuncData} {N ps : List Str} {k : Nat}
end
section
variable {X : Cx} {W W0 : Wd} {Γ : List DV} {μ : Mu} {e value : Expr} {es : List Expr} {rest : List Stmt} {D : Ends} {pos p p1 p2 q1 q2 pos' apos : Pos} {n m f1 f2 : Str} {a C : Addr} {fs : List (Str × PyData)} {ds : List PyData} {d x y : PyData} {k : Nat} {ps : List Str}
/-- a call that leaves its instance -/
theorem EvM.pure_ {P : List (Str × PyData) → PyData → Prop} {j : Nat} (h : EvM X W Γ μ e (fun z μ' => ∃ fs', P fs' z ∧ μ' = μ.set j (a, .ins C fs'))) (hP : ∀ fs' z, P fs' z → fs' = fs ∧ z = d) (hj : μ[j]? = some (a, .ins C fs) := by rfl) : Ed X W Γ μ e d :=
  EvM.ed (EvM.imp h fun z μ' ⟨fs', p, e⟩ => by
    obtain ⟨h1, h2⟩ := hP fs' z p
    subst h1
    exact ⟨h2, by rw [e, set_same hj]⟩)
theorem em_makeT {cx : Str} {pre : List (Str × PyData) → List PyData → Prop} {post : List (Str × PyData) → List PyData → List (Str × PyData) → PyData → Prop} (F : MkT X.prog X.w X.K X.mg X.base k C cx ps (spT X.K C pre post)) (hr : Room k X.A) (ha : EdA X W Γ μ (e :: es) ds) (hp : pre [] ds) (hz : ∀ fs' d, post [] ds fs' d → fs' = fs ∧ d = .none) (hg : Gl X cx := by rfl)
    (hdb : (cx == ("__debug__" : Str)) = false := by decide) (he : starEach (e :: es) X.env = (false, eval e X.env) :: starEach es X.env := by rfl) (hpl : (backTo pos (starEach es X.env)).any (·.1) = false := by rfl) :
    EvM X W Γ μ (.Call (.Name cx p) (e :: es) [] pos) (fun d μ' => ∃ l, d = ptD l ∧ μ' = (l, .ins C fs) :: μ) := by
  obtain ⟨f, fd, i, h0, h1, h2, h3, h4⟩ := F.ex
  exact EvM.imp (em_make h2 h3 h4 (hr.mono h0) h1 ha hp (fun fs' d q => (hz fs' d q).2) hg hdb he hpl) fun d μ' ⟨l, fs', z, po, e1, e2⟩ => ⟨l, e1, by rw [e2, (hz fs' z po).1]⟩
/-- len(o), by its own __len__ -/
theorem ed_lenO (i j : Nat) {N : Nat} {pre : List (Str × PyData) → List PyData → Prop} {post : List (Str × PyData) → List PyData → List (Str × PyData) → PyData → Prop} (F : FdM X.prog X.w X.K X.mg X.base k C "__len__" ps (spT X.K C pre post)) (hr : Room (k + 1) X.A) (hm : X.mg "len" = none) (hp : pre fs []) (hP : ∀ fs' z, post fs [] fs' z → fs' = fs ∧ z = nn N) (hN62 : N < 2 ^ 62) (hi : Γ[i]? = some (.r a) := by rfl) (hj : μ[j]? = some (a, .ins C fs) := by rfl) (hN : X.N[i]? = some n := by rfl) (hv : Vis X.env.scope n := by first | exact Or.inl rfl | exact Or.inr (Or.inl rfl) | exact Or.inr (Or.inr rfl))
    (h1 : (n == ("__debug__" : Str)) = false := by decide) (h2 : (n == ("__classdict__" : Str)) = false := by decide) (hg : Gl X "len" := by rfl) (hs1 : starEach [.Name n p] X.env = (false, eval (.Name n p) X.env) :: starEach [] X.env := by rfl) (hpl : (backTo pos (starEach [] X.env)).any (·.1) = false := by rfl) : Ed X W Γ μ (.Call (.Name "len" p2) [.Name n p] [] pos) (nn N) := by
  obtain ⟨f, fd, g1, g2, g3⟩ := F.ex
  have cr : CallR X (.builtin "len") (fun xs H Q => ∃ a dx gs, xs = [.ref a] ∧ H a = some (.ins C dx gs) ∧ spT X.K C pre post [.ref a] H (fun v H2 => ∃ q : Nat, v = .int q ∧ q < 2 ^ 62 ∧ Q (.int q) H2) (fun _ _ _ => True)) := by
    intro pins s σ H xs us Q I rv h
    obtain ⟨a, dx, gs, rfl, ea, h⟩ := h
    obtain ⟨u, rfl, rx⟩ := vals1 rv
    obtain rfl : u = Value.ref a := rx
    obtain ⟨mA, O, _, _, _, _⟩ := ins_get I.hok ea
    obtain ⟨od, J, _⟩ := O.look
    have hl : ([Value.ref a] : List Value).length = ps.length := by rw [← g1.len _ _ _ _ h]; rfl
    have b := g3 s [.ref a] I.kIn (by rw [List.append_nil]; exact hl)
    rw [List.append_nil] at b
    refine len_own I.kIn J g2.at_ g2.fn (wpAny_call (codeAny_mono (g1.run X.A.in1 X.stack s H ⟨[.ref a], []⟩ [.ref a] [.ref a] _ _ hr.in1 I.env0.in1 b (.cons rfl .nil) h) fun r s' hq => ?_))
    cases r with
    | error er => exact pass0 pins σ H s er s' I hq
    | ok fl =>
      cases fl with
      | ret u =>
        obtain ⟨v, H', I3, rv, q, ev, hq62, q3⟩ := I.after hq
        subst ev
        obtain ⟨t, rfl⟩ := rv
        exact ⟨⟨Int.natCast_nonneg q, by omega⟩, .int q, H', I3.tok _, ⟨_, rfl⟩, q3⟩
      | next => exact False.elim hq
      | brk => exact False.elim hq
      | cont => exact False.elim hq
  intro σ H R Q q
  refine (pe_callB cr hg hm boot_len (pa_cons (pe_var hN hv h1 h2) pa_nil hs1) (by decide) (by decide) hs1 hpl).w ?_
  obtain ⟨o, e1, e2⟩ := R.sl.at_ i _ hi
  have e2' : o = some (.ref a) := e2
  subst e2'
  obtain ⟨dx, gs, ha0, hf0⟩ := ins_at R hj
  refine ⟨_, e1, a, dx, gs, rfl, ha0, ?_⟩
  refine spT_call R (Same.refl _) hj .nil hp fun v d μ' H2 R2 s2 r2 ⟨fs', po, eμ⟩ => ?_
  obtain ⟨z1, z2⟩ := hP fs' d po
  subst z1 z2
  rw [set_same hj] at eμ
  subst eμ
  cases r2
  exact ⟨N, rfl, hN62, q _ H2 R2 s2 (.int _)⟩
end
end HW
set_option maxHeartbeats 4000000
namespace HX
open PySem PySem.Spec PyProof.Rows L2 He
/-! the head's Hook with getters of properties -/
def prA (K : PySem.W.Frag) (p : Str × Option Str) : Addr := match PySem.W.recIn K (ma K (ga K p.1) (p.2.getD "")) "property" with
  | some (.ref g :: _) => g
  | _ => 0
def fnA (K : PySem.W.Frag) (a : Addr) : FnW := match K.lookup a with
  | some ⟨_, _, .func fd, _⟩ => some (fd.name, fd.qualname, fd.params, fd.body, fd.scope, fd.globals, fd.closure, fd.builtins)
  | _ => none
def okA (K : PySem.W.Frag) (a : Addr) (d : DefD) : Bool := PySem.W.keepIn K (.ref a) && (match K.lookup a with
  | some ⟨_, _, .func fd, _⟩ => PySem.W.codeIn K fd.code d.qual && (dflB K fd.defaults (d.dvs K) && kwdB K fd.kwdefaults (d.kws K))
  | _ => false)
theorem funD_at {K : PySem.W.Frag} {d : DefD} {a : Addr} (e : fnA K a = d.val) (c : okA K a d = true) : ∃ fd, FunD K d.name d.qual d.params d.body d.scope (d.dvs K) (d.kws K) a fd := by
  obtain ⟨kp, c2⟩ := ba c
  unfold fnA at e
  cases q : K.lookup a with
  | none =>
    rw [q] at c2
    cases c2
  | some o =>
    obtain ⟨oc, od, dt, osl⟩ := o
    rw [q] at c2 e
    cases dt with
    | func fd =>
      obtain ⟨n1, n2, n3, n4, n5, n6, n7, n8, n9, n10, n11, n12, n13, n14, n15⟩ := fd
      have e2 : (some (n1, n2, n3, n4, n5, n6, n7, n15) : FnW) = some (d.name, d.qual, d.params, .stmts d.body, d.scope, mainGlobals, [], builtinsNs) := e
      simp only [Option.some.injEq, Prod.mk.injEq] at e2
      obtain ⟨h1, h2, h3, h4, h5, h6, h7, h8⟩ := e2
      subst h1 h2 h3 h4 h5 h6 h7 h8
      have c3 : (PySem.W.codeIn K n13 d.qual && (dflB K n8 (d.dvs K) && kwdB K n9 (d.kws K))) = true := c2
      obtain ⟨k1, k2⟩ := ba c3
      obtain ⟨k3, k4⟩ := ba k2
      exact ⟨_, ⟨oc, od, n8, n9, n10, n11, n12, n13, n14, osl, rfl, q, k1, dflB_ok k3, kwdB_ok k4⟩, kp⟩
    | _ => cases c2
def obsQ (pn : List DefD) (K : PySem.W.Frag) : AlD := (pn.all fun d => okA K (prA K d.at_) d, pn.map fun d => fnA K (prA K d.at_))
def SaysP (pn : List DefD) (K : PySem.W.Frag) : Prop := obsQ pn K = valD pn
theorem SaysP.def_ {pn : List DefD} {K : PySem.W.Frag} (c : SaysP pn K) (i : Nat) {d : DefD} (h : pn[i]? = some d := by rfl) : ∃ fd, FunD K d.name d.qual d.params d.body d.scope (d.dvs K) (d.kws K) (prA K d.at_) fd := by
  have c2 : (pn.all fun d => okA K (prA K d.at_) d) = true := congrArg (fun z : AlD => z.1) c
  have e : pn.map (fun d => fnA K (prA K d.at_)) = pn.map DefD.val := congrArg (fun z : AlD => z.2) c
  have e2 : (pn.map fun d => fnA K (prA K d.at_))[i]? = (pn.map DefD.val)[i]? := by rw [e]
  rw [List.getElem?_map, List.getElem?_map, h] at e2
  exact funD_at (Option.some.inj e2) (List.all_eq_true.mp c2 d (List.mem_of_getElem? h))
end HX
namespace HW
open PySem PySem.Spec PyProof.Rows L2
open SX (S)
/-- a property of a class, ready to be read -/
structure FdP (P : Program) (w : World) (K : PySem.W.Frag) (mg : Str → Option Value) (base : Heap) (k : Nat) (C : Addr) (m : Str) (ps : List Str) (sp : Sp) : Prop where
  ex : ∃ (p g : Addr) (fd : FuncData), FnOk P w K mg base CX0 k g fd ps sp ∧ PropOf K C m p g ∧ Binds K fd ps []
theorem FdP.mono {P : Program} {w : World} {K : PySem.W.Frag} {mg : Str → Option Value} {base : Heap} {j k : Nat} {C : Addr} {m : Str} {ps : List Str} {sp : Sp} (F : FdP P w K mg base j C m ps sp) (h : j ≤ k) : FdP P w K mg base k C m ps sp := by
  obtain ⟨p, g, fd, h1, h2, h3⟩ := F.ex
  exact ⟨p, g, fd, h1.mono h, h2, h3⟩
/-- a method that raises and leaves all as it is -/
def spXT (K : PySem.W.Frag) (C : Addr) (R : List (Str × PyData) → List PyData → Str → Option (Str × PyData) → Prop) : Sp := fun vs H Q E => ∃ (L : List Addr) (a dx : Addr) (gs : List (Str × V)) (fs : List (Str × PyData)) (ws : List V) (ds : List PyData) (x : Str) (fo : Option (Str × PyData)), vs = .ref a :: ws ∧ (∀ b ∈ L, NT H b) ∧ H a = some (.ins C dx gs) ∧ FvR K (off L H) gs fs ∧ VaAll K (off L H) ws ds ∧ R fs ds x fo ∧ ∀ cls d H', XO K L H H' x fo cls d → E cls d H'
structure FdMX (P : Program) (w : World) (K : PySem.W.Frag) (mg : Str → Option Value) (base : Heap) (k : Nat) (C : Addr) (m : Str) (ps : List Str) (R : List (Str × PyData) → List PyData → Str → Option (Str × PyData) → Prop) : Prop where
  ex : ∃ (f : Addr) (fd : FuncData), FnOk P w K mg base (L2.CX P w) k f fd ps (spXT K C R) ∧ Meth K C m f ∧ Binds K fd ps []
theorem FdMX.mono {P : Program} {w : World} {K : PySem.W.Frag} {mg : Str → Option Value} {base : Heap} {j k : Nat} {C : Addr} {m : Str} {ps : List Str} {R : List (Str × PyData) → List PyData → Str → Option (Str × PyData) → Prop} (F : FdMX P w K mg base j C m ps R) (h : j ≤ k) : FdMX P w K mg base k C m ps R := by
  obtain ⟨f, fd, h1, h2, h3⟩ := F.ex
  exact ⟨f, fd, h1.mono h, h2, h3⟩
section
variable {P : Program} {w : World} {K : PySem.W.Frag} {mg : Str → Option Value} {base : Heap} {x qual : Str} {params : Arguments} {body : List Stmt} {scope : Scope} {f : Addr} {fd : FuncData} {N ps : List Str} {k : Nat}
end
section
variable {X : Cx} {W : Wd} {Γ : List DV} {μ : Mu} {e : Expr} {es : List Expr} {rest : List Stmt} {D : Ends} {pos p apos : Pos} {n m fn x : Str} {a C dx : Addr} {gs : List (Str × V)} {fs : List (Str × PyData)} {ds : List PyData} {d : PyData} {k : Nat} {ps : List Str} {fo : Option (Str × PyData)} {W0 : WX} {R : List (Str × PyData) → List PyData → Str → Option (Str × PyData) → Prop}
end
end HW
set_option maxHeartbeats 4000000
namespace HW
open PySem PySem.Spec PyProof.Rows L2
open SX (S)
section
variable {X : Cx} {W : Wd} {Γ : List DV} {μ : Mu} {a : Expr} {pos p p2 pos2 : Pos} {ds : List PyData} {d : PyData}
theorem i_tupL (hd : ds.getLast? = some d) : IxD X (.tuple ds) (.int (-1)) d := by
  have hl : ds ≠ [] := by intro e; rw [e] at hd; cases hd
  have h1 : ds[ds.length - 1]? = some d := by rw [← List.getLast?_eq_getElem?]; exact hd
  exact IxR.to ix_tup fun a b H Q ⟨L, _, ha, hb, k⟩ => by
    cases hb
    cases ha with
    | tup ha hs =>
      obtain ⟨v, hv, r⟩ := hs.at h1
      exact ⟨_, _, -1, v, rfl, rfl, SqT.up same_off ha, at_last (by rw [List.getLast?_eq_getElem?, hs.length]; exact hv), k _ _ (Same.refl _) r⟩
theorem s_tupI {z : Int} (e : z = -1) (h : 1 ≤ ds.length) : SlD X (.tuple ds) none (some z) (.tuple ds.dropLast) := by
  have h1 := s_tup (X := X) (ds := ds) (lo := none) (hi := some z)
  subst e
  have e1 : HT.sIx ds.length ds.length (some (-1)) = ds.length - 1 := by
    unfold HT.sIx
    simp
    omega
  rw [HT.sIx_none, e1, List.drop_zero, Nat.sub_zero] at h1
  rw [List.dropLast_eq_take]
  exact h1
theorem eqv_nilT (ds : List PyData) : PyData.eqv (.tuple ds) (.tuple []) = ds.isEmpty := by cases ds <;> rfl
theorem c_eqNilT {n : Nat} (hu : X.A.units + 64 < cLine) (h : Shp n (.tuple ds)) (hn : n ≤ 64 := by decide) : OpD X (compareOp .Eq) (.tuple ds) (.tuple []) (.bool ds.isEmpty) := by
  have z := c_eqD (X := X) (y := .tuple []) hu (h.ok hn) rfl
  rw [eqv_nilT] at z
  exact z
/-- list(range(e)) -/
theorem ed_listRange {N : Nat} (h : Ed X W Γ μ a (.int (N : Int))) (hm : X.mg "range" = none) (hm2 : X.mg "list" = none) (hN : N ≤ 100000) (hc : X.calm = true := by rfl) (hg : Gl X "range" := by rfl) (hg2 : Gl X "list" := by rfl) (na : starEach [a] X.env = (false, eval a X.env) :: starEach [] X.env := by rfl)
    (nb : starEach [.Call (.Name "range" p) [a] [] pos] X.env = (false, eval (.Call (.Name "range" p) [a] [] pos) X.env) :: starEach [] X.env := by rfl) : Ed X W Γ μ (.Call (.Name "list" p2) [.Call (.Name "range" p) [a] [] pos] [] pos2) (nD (List.range N)) := fun σ H R Q q => by
  refine (pe_listRg hc hg2 hm2 (prg_1 hg hm wE.pe na) nb).w (h σ H R _ fun v H2 R2 e2 r2 => ?_)
  cases r2
  refine ⟨_, rfl, ⟨by omega, by omega, by omega, by omega, by omega⟩, fun l hl => ?_⟩
  have sm := same_new (o := HO.lst (rgV 0 (N : Int))) hl
  refine q _ _ (R2.same sm) (e2.trans (XT.same sm)) (.lst (off_upd (new_out R2.ne hl)) ?_)
  have e : nD (List.range N) = .list ((List.range N).map nn) := rfl
  have key : ∀ K H, VaAll K H (rgV 0 (N : Int)) ((List.range N).map nn) := fun K H => by
    have e1 : rgV 0 (N : Int) = ((List.range N).map fun i : Nat => (i : Int)).map V.int := by
      unfold rgV
      rw [List.map_map]
      have : ((N : Int) - 0).toNat = N := by omega
      rw [this]
      refine List.map_congr_left fun i _ => ?_
      show V.int (0 + (i : Int)) = V.int (i : Int)
      rw [Int.zero_add]
    have e2 : (List.range N).map nn = ((List.range N).map fun i : Nat => (i : Int)).map PyData.int := by rw [List.map_map]; rfl
    rw [e1, e2]
    exact va_ints _
  exact key _ _
end
/-! ### trackers -/
def fitB (ws ts : List (List Nat)) (p : Nat) : Bool := (List.range ts.length).all fun i => decide (p + i < ws.length) && decide (missN (ws.getD (p + i) []) (ts.getD i []) = 0)
def startL (ws ts : List (List Nat)) : List Nat := (List.range ws.length).filter (fitB ws ts)
def stoodL (ws ts : List (List Nat)) : List PyData := (List.range (ts.length + 1)).map fun i => nD (startL ws (ts.take i))
/-- a tracker's attributes -/
def trk (l m : List Nat) (ts : List (List Nat)) : List (Str × PyData) := [("line", sD l), ("shape", sD m), ("told", .tuple (ts.map sD)), ("stood", .tuple (stoodL (viewsL l m) ts))]
structure OkT (l m : List Nat) (ts : List (List Nat)) : Prop where
  row : rowB l = true
  mask : maskB m = true
  few : ts.length ≤ 900
  looks : ∀ v ∈ ts, lookB m v = true
theorem trk_inj {l m l' m' : List Nat} {ts ts' : List (List Nat)} (h : trk l m ts = trk l' m' ts') : l = l' ∧ m = m' ∧ ts = ts' := by
  unfold trk at h
  simp only [List.cons.injEq, Prod.mk.injEq, true_and, and_true] at h
  obtain ⟨h1, h2, h3, _⟩ := h
  exact ⟨S_inj (PyData.str.inj h1), S_inj (PyData.str.inj h2), map_sD_inj (PyData.tuple.inj h3)⟩
def pre_init (fs : List (Str × PyData)) (ds : List PyData) : Prop := fs = [] ∧ ∃ l m : List Nat, ds = [sD l, sD m] ∧ rowB l = true ∧ maskB m = true
def post_init (_ : List (Str × PyData)) (ds : List PyData) (fs' : List (Str × PyData)) (d : PyData) : Prop := ∃ l m : List Nat, ds = [sD l, sD m] ∧ fs' = trk l m [] ∧ d = .none
/-- a method without arguments -/
def pre_t0 (fs : List (Str × PyData)) (ds : List PyData) : Prop := ∃ l m ts, fs = trk l m ts ∧ OkT l m ts ∧ ds = []
def post_t0 (g : List Nat → List Nat → List (List Nat) → PyData) (fs : List (Str × PyData)) (_ : List PyData) (fs' : List (Str × PyData)) (d : PyData) : Prop := ∃ l m ts, fs = trk l m ts ∧ fs' = fs ∧ d = g l m ts
def g_starts (l m : List Nat) (ts : List (List Nat)) : PyData := nD (startL (viewsL l m) ts)
def g_places (l m : List Nat) (ts : List (List Nat)) : PyData := nD ((startL (viewsL l m) ts).map fun p => p + (ts.length - 1))
def g_len (_ _ : List Nat) (ts : List (List Nat)) : PyData := nn ts.length
def g_seen (_ _ : List Nat) (ts : List (List Nat)) : PyData := .tuple (ts.map sD)
def pre_see (fs : List (Str × PyData)) (ds : List PyData) : Prop := ∃ l m ts v, fs = trk l m ts ∧ OkT l m ts ∧ ds = [sD v] ∧ lookB m v = true
def post_see (fs : List (Str × PyData)) (ds : List PyData) (fs' : List (Str × PyData)) (d : PyData) : Prop := ∃ l m ts v, fs = trk l m ts ∧ ds = [sD v] ∧ fs' = trk l m (ts ++ [v]) ∧ d = nn (startL (viewsL l m) (ts ++ [v])).length
def post_undo (fs : List (Str × PyData)) (_ : List PyData) (fs' : List (Str × PyData)) (d : PyData) : Prop := ∃ l m ts, fs = trk l m ts ∧ fs' = trk l m ts.dropLast ∧ d = .bool (!ts.isEmpty)
theorem fit_snoc (ws ts : List (List Nat)) (v : List Nat) (p : Nat) : fitB ws (ts ++ [v]) p = (fitB ws ts p && (decide (p + ts.length < ws.length) && decide (missN (ws.getD (p + ts.length) []) v = 0))) := by
  unfold fitB
  rw [List.length_append, List.length_singleton, List.range_succ, List.all_append]
  congr 1
  · rw [Bool.eq_iff_iff, List.all_eq_true, List.all_eq_true]
    have e : ∀ i ∈ List.range ts.length, (ts ++ [v]).getD i [] = ts.getD i [] := fun i hi => by
      rw [List.getD_eq_getElem?_getD, List.getD_eq_getElem?_getD, List.getElem?_append_left (List.mem_range.mp hi)]
    exact ⟨fun h i hi => by rw [← e i hi]; exact h i hi, fun h i hi => by rw [e i hi]; exact h i hi⟩
  · rw [List.all_cons, List.all_nil, Bool.and_true, List.getD_eq_getElem?_getD (l := ts ++ [v]), List.getElem?_append_right (Nat.le_refl _), Nat.sub_self]
    rfl
theorem start_snoc (ws ts : List (List Nat)) (v : List Nat) : startL ws (ts ++ [v]) = ((startL ws ts).filter fun p => decide (p + ts.length < ws.length)).filter fun p => decide (missN (ws.getD (p + ts.length) []) v = 0) := by
  unfold startL
  rw [List.filter_filter, List.filter_filter]
  refine List.filter_congr fun p _ => ?_
  rw [fit_snoc]
  cases fitB ws ts p <;> cases decide (p + ts.length < ws.length) <;> cases decide (missN (ws.getD (p + ts.length) []) v = 0) <;> rfl
theorem start_nil (ws : List (List Nat)) : startL ws [] = List.range ws.length := by
  unfold startL fitB
  rw [List.filter_eq_self.mpr]
  intro a _
  rfl
theorem start_len (ws ts : List (List Nat)) : (startL ws ts).length ≤ ws.length := by
  have := List.length_filter_le (fitB ws ts) (List.range ws.length)
  rwa [List.length_range] at this
theorem stood_snoc (ws ts : List (List Nat)) (v : List Nat) : stoodL ws (ts ++ [v]) = stoodL ws ts ++ [nD (startL ws (ts ++ [v]))] := by
  unfold stoodL
  rw [List.length_append, List.length_singleton, List.range_succ (n := ts.length + 1), List.map_append]
  congr 1
  · refine List.map_congr_left fun i hi => ?_
    have := List.mem_range.mp hi
    rw [List.take_append_of_le_length (by omega)]
  · show [nD (startL ws ((ts ++ [v]).take (ts.length + 1)))] = _
    rw [List.take_of_length_le (by simp)]
theorem stood_nil (ws : List (List Nat)) : stoodL ws [] = [nD (List.range ws.length)] := by
  show [nD (startL ws [])] = _
  rw [start_nil]
theorem stood_last (ws ts : List (List Nat)) : (stoodL ws ts).getLast? = some (nD (startL ws ts)) := by
  unfold stoodL
  rw [List.range_succ, List.map_append, List.map_singleton, List.getLast?_append]
  rw [List.take_length]
  rfl
theorem stood_drop (ws ts : List (List Nat)) (h : ts ≠ []) : (stoodL ws ts).dropLast = stoodL ws ts.dropLast := by
  have e : ts = ts.dropLast ++ [ts.getLast h] := (List.dropLast_concat_getLast h).symm
  generalize ts.dropLast = a at e
  generalize ts.getLast h = v at e
  subst e
  rw [stood_snoc]
  simp
theorem stood_len (ws ts : List (List Nat)) : (stoodL ws ts).length = ts.length + 1 := by simp [stoodL]
end HW
set_option maxHeartbeats 4000000
namespace HW
open PySem PySem.Spec PyProof.Rows L2
open SX (S)
/-! ### law 22's words -/
theorem OkT.drop {l m : List Nat} {ts : List (List Nat)} (h : OkT l m ts) : OkT l m ts.dropLast := ⟨h.row, h.mask, by rw [List.length_dropLast]; have := h.few; omega, fun u hu => h.looks u (List.dropLast_subset _ hu)⟩
theorem t0_pure {g : List Nat → List Nat → List (List Nat) → PyData} {l m : List Nat} {ts : List (List Nat)} {ds : List PyData} : ∀ fs' z, post_t0 g (trk l m ts) ds fs' z → fs' = trk l m ts ∧ z = g l m ts := fun fs' z ⟨l', m', ts', e1, e2, e3⟩ => by
  obtain ⟨rfl, rfl, rfl⟩ := trk_inj e1
  exact ⟨e2, e3⟩
/-- some of the local objects, in another order -/
theorem Rep.sub {K : PySem.W.Frag} {W : Wd} {Γ : List DV} {μ μ' : Mu} {σ : L2.St} {H : Hp} (R : Rep K W Γ μ σ H) (s : ∀ p ∈ μ', p ∈ μ) (nd : (μ.map (·.1)).Nodup → (μ'.map (·.1)).Nodup) : Rep K W Γ μ' σ H := by
  have sub : Same (off (hd W μ) H) (off (hd W μ') H) := same_offs fun a ha => by
    rcases List.mem_append.mp ha with z | z
    · exact List.mem_append_left _ z
    · obtain ⟨p, hp, rfl⟩ := List.mem_map.mp z
      exact List.mem_append_right _ (List.mem_map.mpr ⟨p, s p hp, rfl⟩)
  exact ⟨R.wd, R.fr, R.sl.up sub, fun p hp => ⟨(R.mu p (s p hp)).1, (R.mu p (s p hp)).2.up sub fun _ z => z⟩, nd R.nd⟩
section
variable {X : Cx} {W : Wd} {Γ : List DV} {μ μ' : Mu} {e : Expr} {es : List Expr} {rest : List Stmt} {D : Ends} {pos p p2 : Pos} {n : Str} {a C : Addr} {fs : List (Str × PyData)} {ds : List PyData} {k : Nat} {ps : List Str}
end
end HW
set_option maxHeartbeats 4000000
namespace HW
open PySem PySem.Spec PyProof.Rows L2
open SX (S)
/-! ### isinstance of a caught exception, with or without a dict -/
section
variable {X : Cx} {a D : Addr} {oe : Obj} {pn : List (Addr × Obj)} {d : Option Addr}
end
section
variable {X : Cx} {W W1 : Wd} {Γ Γ' : List DV} {μ : Mu} {xr c c1 c2 n : Str} {fo : Option (Str × PyData)} {a : Addr} {oe : Obj} {pn : List (Addr × Obj)} {cls : Value} {d : Option Addr} {pos p q1 q2 q3 pt : Pos} {b : Bool}
end
end HW
set_option maxHeartbeats 4000000
namespace HW
open PySem PySem.Spec PyProof.Rows L2
open SX (S)
/-! ### a list that is told is new -/
section
variable {P : Program} {w : World} {K : PySem.W.Frag} {mg : Str → Option Value} {base : Heap} {x qual : Str} {params : Arguments} {body : List Stmt} {scope : Scope} {f : Addr} {fd : FuncData} {N ps : List Str} {k : Nat}
end
section
variable {X : Cx} {W W0 : Wd} {Γ : List DV} {μ : Mu} {e elt tg iter : Expr} {ifs es : List Expr} {scope : Scope} {rest : List Stmt} {D : Ends} {pos p p1 p2 p3 : Pos} {n x : Str} {ds ys : List PyData} {l : Addr} {k : Nat} {ps : List Str} {P : PyData → Prop} {nx bk ct : L2.St → Hp → Prop}
end
end HW
set_option maxHeartbeats 4000000
namespace HW
open PySem PySem.Spec PyProof.Rows L2
open SX (S)
/-! ### local lists: changed, read, gathered -/
section
variable {X : Cx} {W : Wd} {Γ : List DV} {μ : Mu} {e : Expr} {es : List Expr} {rest : List Stmt} {D : Ends} {pos p p1 p2 p3 pos' : Pos} {n : Str} {ds ys : List PyData} {l : Addr}
end
end HW
set_option maxHeartbeats 4000000
namespace HW
open PySem PySem.Spec PyProof.Rows L2
open SX (S)
/-! ### law 36's words -/
end HW
set_option maxHeartbeats 4000000
namespace HW
open PySem PySem.Spec PyProof.Rows L2
open SX (S)
/-! ### rows of looks in any order: the levels -/
/-- in ascending order -/
def sortW (ws : Lk) : Lk := ws.mergeSort fun a b => decide (a ≤ b)
theorem sortW_perm (ws : Lk) : (sortW ws).Perm ws := List.mergeSort_perm _ _
theorem sortW_le (ws : Lk) : (sortW ws).Pairwise (· ≤ ·) := by
  have h : (sortW ws).Pairwise (fun a b => decide (a ≤ b) = true) := List.pairwise_mergeSort (le := fun a b : List Nat => decide (a ≤ b)) (fun a b c (h1 : decide (a ≤ b) = true) (h2 : decide (b ≤ c) = true) => decide_eq_true (List.le_trans (of_decide_eq_true h1) (of_decide_eq_true h2))) (fun a b => by
    show (decide (a ≤ b) || decide (b ≤ a)) = true
    rw [Bool.or_eq_true, decide_eq_true_iff, decide_eq_true_iff]
    exact List.le_total a b) _
  exact h.imp fun {a b} q => of_decide_eq_true q
theorem le_uniq : ∀ {a b : Lk}, a.Perm b → a.Pairwise (· ≤ ·) → b.Pairwise (· ≤ ·) → a = b
  | [], b, hp, _, _ => (List.Perm.nil_eq hp)
  | x :: a, [], hp, _, _ => by have := hp.length_eq; simp at this
  | x :: a, y :: b, hp, h1, h2 => by
    obtain ⟨p1, p2⟩ := List.pairwise_cons.mp h1
    obtain ⟨q1, q2⟩ := List.pairwise_cons.mp h2
    have hx : x ∈ y :: b := hp.mem_iff.mp List.mem_cons_self
    have hy : y ∈ x :: a := hp.mem_iff.mpr List.mem_cons_self
    have e : x = y := by
      rcases List.mem_cons.mp hx with e | hx
      · exact e
      · rcases List.mem_cons.mp hy with e | hy
        · exact e.symm
        · exact List.le_antisymm (p1 y hy) (q1 x hx)
    subst e
    rw [le_uniq (List.Perm.cons_inv hp) p2 q2]
def addT (rs : List Lk) (r : Lk) : List Lk := if r ∈ rs then rs else rs ++ [r]
def addL (L : Lv) (g : List Nat) (r : Lk) : Lv := if g ∈ L.map (·.1) then L.map (fun p => if p.1 = g then (p.1, addT p.2 r) else p) else L ++ [(g, [r])]
def stepL (m : List Nat) (p : Nat) (told : List Nat) (rest : Lk) (L : Lv) (i : Nat) : Lv := match laidL m told p (rest.getD i []) with
  | none => L
  | some g => if i = 0 ∨ rest.getD (i - 1) [] ≠ rest.getD i [] then addL L g (rest.take i ++ rest.drop (i + 1)) else L
def restL (m : List Nat) (p : Nat) (told : List Nat) (L : Lv) (rest : Lk) : Lv := (List.range rest.length).foldl (stepL m p told rest) L
def toldL (m : List Nat) (p : Nat) (L : Lv) (q : List Nat × List Lk) : Lv := q.2.foldl (restL m p q.1) L
def nextLv (m : List Nat) (p : Nat) (cur : Lv) : Lv := cur.foldl (toldL m p) []
def lvlL (m : List Nat) (vs : Lk) : Nat → Lv
  | 0 => [(List.replicate (m.length + vs.length - 1) 63, [sortW vs])]
  | p + 1 => nextLv m p (lvlL m vs p)
def inLv (L : Lv) (g : List Nat) (r : Lk) : Prop := ∃ q ∈ L, q.1 = g ∧ r ∈ q.2
theorem mem_addT {rs : List Lk} {r x : Lk} : x ∈ addT rs r ↔ x ∈ rs ∨ x = r := by
  unfold addT
  split
  · rename_i h
    exact ⟨.inl, fun z => z.elim id fun e => e ▸ h⟩
  · simp
theorem in_addL {L : Lv} {g g' : List Nat} {r r' : Lk} : inLv (addL L g r) g' r' ↔ inLv L g' r' ∨ (g' = g ∧ r' = r) := by
  unfold addL inLv
  split
  · rename_i h
    constructor
    · rintro ⟨q, hq, rfl, hr⟩
      obtain ⟨p, hp, rfl⟩ := List.mem_map.mp hq
      by_cases e : p.1 = g
      · rw [if_pos e] at hr ⊢
        rcases mem_addT.mp hr with z | z
        · exact .inl ⟨p, hp, rfl, z⟩
        · exact .inr ⟨e, z⟩
      · rw [if_neg e] at hr ⊢
        exact .inl ⟨p, hp, rfl, hr⟩
    · rintro (⟨q, hq, rfl, hr⟩ | ⟨rfl, rfl⟩)
      · refine ⟨_, List.mem_map.mpr ⟨q, hq, rfl⟩, ?_⟩
        by_cases e : q.1 = g
        · rw [if_pos e]
          exact ⟨rfl, mem_addT.mpr (.inl hr)⟩
        · rw [if_neg e]
          exact ⟨rfl, hr⟩
      · obtain ⟨q, hq, e⟩ := List.mem_map.mp h
        refine ⟨_, List.mem_map.mpr ⟨q, hq, rfl⟩, ?_⟩
        rw [if_pos e]
        exact ⟨e, mem_addT.mpr (.inr rfl)⟩
  · constructor
    · rintro ⟨q, hq, rfl, hr⟩
      rcases List.mem_append.mp hq with z | z
      · exact .inl ⟨q, z, rfl, hr⟩
      · rw [List.mem_singleton] at z
        subst z
        exact .inr ⟨rfl, List.mem_singleton.mp hr⟩
    · rintro (⟨q, hq, rfl, hr⟩ | ⟨rfl, rfl⟩)
      · exact ⟨q, List.mem_append_left _ hq, rfl, hr⟩
      · exact ⟨_, List.mem_append_right _ List.mem_cons_self, rfl, List.mem_cons_self⟩
/-- what a turn puts in -/
def putsL (m : List Nat) (p : Nat) (told : List Nat) (rest : Lk) (i : Nat) (g : List Nat) (r : Lk) : Prop :=
  laidL m told p (rest.getD i []) = some g ∧ (i = 0 ∨ rest.getD (i - 1) [] ≠ rest.getD i []) ∧ r = rest.take i ++ rest.drop (i + 1)
theorem in_step {m : List Nat} {p : Nat} {told : List Nat} {rest : Lk} {L : Lv} {i : Nat} {g : List Nat} {r : Lk} : inLv (stepL m p told rest L i) g r ↔ inLv L g r ∨ putsL m p told rest i g r := by
  unfold stepL putsL
  cases e : laidL m told p (rest.getD i []) with
  | none => simp
  | some g' =>
    show inLv (if _ then _ else _) g r ↔ _
    split
    · rename_i h
      rw [in_addL]
      constructor
      · rintro (z | ⟨z1, z2⟩)
        · exact .inl z
        · exact .inr ⟨by rw [z1], h, z2⟩
      · rintro (z | ⟨z1, _, z2⟩)
        · exact .inl z
        · exact .inr ⟨(Option.some.inj z1).symm, z2⟩
    · rename_i h
      exact ⟨.inl, fun z => z.elim id fun z => absurd z.2.1 h⟩
theorem in_fold {α : Type} {st : Lv → α → Lv} {P : α → List Nat → Lk → Prop} {g : List Nat} {r : Lk} : ∀ {l : List α} {L : Lv}, (∀ a ∈ l, ∀ L, inLv (st L a) g r ↔ inLv L g r ∨ P a g r) → (inLv (l.foldl st L) g r ↔ inLv L g r ∨ ∃ a ∈ l, P a g r)
  | [], L, h => by simp
  | a :: l, L, h => by
    rw [List.foldl_cons, in_fold (fun b hb => h b (List.mem_cons_of_mem _ hb)), h a List.mem_cons_self]
    constructor
    · rintro ((z | z) | ⟨b, hb, z⟩)
      · exact .inl z
      · exact .inr ⟨a, List.mem_cons_self, z⟩
      · exact .inr ⟨b, List.mem_cons_of_mem _ hb, z⟩
    · rintro (z | ⟨b, hb, z⟩)
      · exact .inl (.inl z)
      · rcases List.mem_cons.mp hb with e | hb
        · exact .inl (.inr (e ▸ z))
        · exact .inr ⟨b, hb, z⟩
theorem in_rest {m : List Nat} {p : Nat} {told : List Nat} {rest : Lk} {L : Lv} {g : List Nat} {r : Lk} : inLv (restL m p told L rest) g r ↔ inLv L g r ∨ ∃ i ∈ List.range rest.length, putsL m p told rest i g r := in_fold fun i _ L => in_step
theorem in_told {m : List Nat} {p : Nat} {q : List Nat × List Lk} {L : Lv} {g : List Nat} {r : Lk} : inLv (toldL m p L q) g r ↔ inLv L g r ∨ ∃ rest ∈ q.2, ∃ i ∈ List.range rest.length, putsL m p q.1 rest i g r := by
  unfold toldL
  exact in_fold (P := fun rest g r => ∃ i ∈ List.range rest.length, putsL m p q.1 rest i g r) fun rest _ L => in_rest
theorem in_next {m : List Nat} {p : Nat} {cur : Lv} {g : List Nat} {r : Lk} : inLv (nextLv m p cur) g r ↔ ∃ q ∈ cur, ∃ rest ∈ q.2, ∃ i ∈ List.range rest.length, putsL m p q.1 rest i g r := by
  unfold nextLv
  rw [in_fold (P := fun q g r => ∃ rest ∈ q.2, ∃ i ∈ List.range rest.length, putsL m p q.1 rest i g r) fun _ _ _ => in_told]
  constructor
  · rintro (⟨q, hq, _⟩ | z)
    · cases hq
    · exact z
  · exact .inr
/-- the first place of a look in sorted ones -/
theorem first_at {rest : Lk} (hs : rest.Pairwise (· ≤ ·)) {i : Nat} (hi : i < rest.length) (h : i = 0 ∨ rest.getD (i - 1) [] ≠ rest.getD i []) : rest.idxOf (rest.getD i []) = i := by
  have e : rest.getD i [] = rest[i] := by rw [List.getD_eq_getElem?_getD, List.getElem?_eq_getElem hi]; rfl
  rw [e]
  have hm : rest[i] ∈ rest := List.getElem_mem hi
  have hl := List.idxOf_lt_length_of_mem hm
  have hg : rest[rest.idxOf rest[i]] = rest[i] := List.getElem_idxOf hl
  rcases Nat.lt_trichotomy (rest.idxOf rest[i]) i with c | c | c
  · exfalso
    rcases h with h | h
    · omega
    · have h1 : i - 1 < rest.length := by omega
      have e1 : rest.getD (i - 1) [] = rest[i - 1] := by rw [List.getD_eq_getElem?_getD, List.getElem?_eq_getElem h1]; rfl
      rw [e1, e] at h
      have le1 : rest[i - 1] ≤ rest[i] := List.pairwise_iff_getElem.mp hs (i - 1) i h1 hi (by omega)
      have le2 : rest[i] ≤ rest[i - 1] := by
        by_cases q : rest.idxOf rest[i] = i - 1
        · have : rest[i - 1] = rest[i] := by
            have z := hg
            simp only [q] at z
            exact z
          rw [this]
          exact List.le_refl _
        · have z := List.pairwise_iff_getElem.mp hs (rest.idxOf rest[i]) (i - 1) hl h1 (by omega)
          rw [hg] at z
          exact z
      exact h (List.le_antisymm le1 le2)
  · exact c
  · exfalso
    have := List.not_of_lt_findIdx (p := fun x => x == rest[i]) (xs := rest) (i := i) c
    simp at this
theorem erase_take (rest : Lk) (v : List Nat) (h : v ∈ rest) : rest.erase v = rest.take (rest.idxOf v) ++ rest.drop (rest.idxOf v + 1) := by
  rw [List.erase_eq_eraseIdx_of_idxOf rfl, List.eraseIdx_eq_take_drop_succ]
theorem puts_iff {m : List Nat} {p : Nat} {told : List Nat} {rest : Lk} (hs : rest.Pairwise (· ≤ ·)) {g : List Nat} {r : Lk} : (∃ i ∈ List.range rest.length, putsL m p told rest i g r) ↔ ∃ v ∈ rest, laidL m told p v = some g ∧ r = rest.erase v := by
  constructor
  · rintro ⟨i, hi, h1, h2, h3⟩
    have hi := List.mem_range.mp hi
    have e : rest.getD i [] = rest[i] := by rw [List.getD_eq_getElem?_getD, List.getElem?_eq_getElem hi]; rfl
    have f := first_at hs hi h2
    have hm : rest.getD i [] ∈ rest := by rw [e]; exact List.getElem_mem hi
    exact ⟨rest.getD i [], hm, h1, by rw [erase_take _ _ hm, f, h3]⟩
  · rintro ⟨v, hv, h1, h2⟩
    have hl := List.idxOf_lt_length_of_mem hv
    have hg : rest.getD (rest.idxOf v) [] = v := by
      rw [List.getD_eq_getElem?_getD, List.getElem?_eq_getElem hl]
      exact List.getElem_idxOf hl
    refine ⟨rest.idxOf v, List.mem_range.mpr hl, by rw [hg]; exact h1, ?_, by rw [h2, erase_take _ _ hv]⟩
    by_cases q : rest.idxOf v = 0
    · exact .inl q
    · refine .inr fun e => ?_
      rw [hg] at e
      have h1' : rest.idxOf v - 1 < rest.length := by omega
      rw [List.getD_eq_getElem?_getD, List.getElem?_eq_getElem h1'] at e
      have := List.not_of_lt_findIdx (p := fun x => x == v) (xs := rest) (i := rest.idxOf v - 1) (by show _ < rest.idxOf v; omega)
      have e' : rest[rest.idxOf v - 1] = v := e
      simp [e'] at this
theorem clashGo_app (m : List Nat) (v : List Nat) : ∀ (us : Lk) (p : Nat) (f g : List Nat), clashGo m p f (us ++ [v]) = (g, none) ↔ ∃ t, clashGo m p f us = (t, none) ∧ laidL m t (p + us.length) v = some g
  | [], p, f, g => by
    show (match laidL m f p v with
      | none => (f, some p)
      | some g => clashGo m (p + 1) g []) = (g, none) ↔ _
    constructor
    · intro h
      refine ⟨f, rfl, ?_⟩
      cases e : laidL m f p v with
      | none => rw [e] at h; cases h
      | some g' =>
        rw [e] at h
        cases h
        rfl
    · rintro ⟨t, ht, h⟩
      cases ht
      have h' : laidL m f p v = some g := h
      rw [h']
      rfl
  | u :: us, p, f, g => by
    rw [List.cons_append]
    show (match laidL m f p u with
      | none => (f, some p)
      | some g => clashGo m (p + 1) g (us ++ [v])) = (g, none) ↔ ∃ t, (match laidL m f p u with
      | none => (f, some p)
      | some g => clashGo m (p + 1) g us) = (t, none) ∧ laidL m t (p + (us.length + 1)) v = some g
    cases e : laidL m f p u with
    | none =>
      constructor
      · intro h; cases h
      · rintro ⟨t, ht, _⟩; cases ht
    | some f' =>
      show clashGo m (p + 1) f' (us ++ [v]) = (g, none) ↔ ∃ t, clashGo m (p + 1) f' us = (t, none) ∧ _
      rw [clashGo_app m v us (p + 1) f' g, show p + 1 + us.length = p + (us.length + 1) by omega]
/-- the p-th level holds what p of the looks, in some order, lay -/
theorem lvl_iff (m : List Nat) (vs : Lk) : ∀ (p : Nat) (g : List Nat) (r : Lk), inLv (lvlL m vs p) g r ↔ ∃ us : Lk, us.length = p ∧ (us ++ r).Perm vs ∧ r.Pairwise (· ≤ ·) ∧ clashGo m 0 (List.replicate (m.length + vs.length - 1) 63) us = (g, none)
  | 0, g, r => by
    constructor
    · rintro ⟨q, hq, rfl, hr⟩
      rw [show lvlL m vs 0 = [_] from rfl, List.mem_singleton] at hq
      subst hq
      obtain rfl := List.mem_singleton.mp hr
      exact ⟨[], rfl, sortW_perm vs, sortW_le vs, rfl⟩
    · rintro ⟨us, hl, hp, hs, hc⟩
      obtain rfl := List.length_eq_zero_iff.mp hl
      rw [List.nil_append] at hp
      have e := le_uniq (hp.trans (sortW_perm vs).symm) hs (sortW_le vs)
      cases hc
      exact ⟨_, List.mem_cons_self, rfl, by rw [e]; exact List.mem_cons_self⟩
  | p + 1, g, r => by
    rw [show lvlL m vs (p + 1) = nextLv m p (lvlL m vs p) from rfl, in_next]
    constructor
    · rintro ⟨q, hq, rest, hr, i, hi, h⟩
      obtain ⟨us, hl, hp, hs, hc⟩ := (lvl_iff m vs p q.1 rest).mp ⟨q, hq, rfl, hr⟩
      obtain ⟨v, hv, h1, rfl⟩ := (puts_iff hs).mp ⟨i, hi, h⟩
      refine ⟨us ++ [v], by simp [hl], ?_, hs.sublist List.erase_sublist, (clashGo_app m v us 0 _ g).mpr ⟨q.1, hc, by rw [Nat.zero_add, hl]; exact h1⟩⟩
      rw [List.append_assoc]
      exact ((List.perm_cons_erase hv).symm.append_left us).trans hp
    · rintro ⟨us, hl, hp, hs, hc⟩
      have hne : us ≠ [] := fun e => by rw [e] at hl; cases hl
      obtain ⟨us', v, rfl⟩ : ∃ us' v, us = us' ++ [v] := ⟨us.dropLast, us.getLast hne, (List.dropLast_concat_getLast hne).symm⟩
      have hl' : us'.length = p := by simpa using hl
      obtain ⟨t, h1, h2⟩ := (clashGo_app m v us' 0 _ g).mp hc
      rw [Nat.zero_add, hl'] at h2
      have hs2 := sortW_le (v :: r)
      have hv : v ∈ sortW (v :: r) := (sortW_perm _).mem_iff.mpr List.mem_cons_self
      have hp2 : (us' ++ sortW (v :: r)).Perm vs := by
        rw [List.append_assoc] at hp
        exact ((sortW_perm (v :: r)).append_left us').trans hp
      obtain ⟨q, hq, e, hr⟩ := (lvl_iff m vs p t (sortW (v :: r))).mpr ⟨us', hl', hp2, hs2, h1⟩
      have er : r = (sortW (v :: r)).erase v := by
        refine le_uniq ?_ hs (hs2.sublist List.erase_sublist)
        have := ((sortW_perm (v :: r)).erase v)
        rw [List.erase_cons_head] at this
        exact this.symm
      obtain ⟨i, hi, h⟩ := (puts_iff (m := m) (p := p) (told := t) hs2 (g := g) (r := r)).mpr ⟨v, hv, h2, er⟩
      exact ⟨q, hq, _, hr, i, hi, by rw [e]; exact h⟩
theorem full_add {L : Lv} {g : List Nat} {r : Lk} (h : fullL L) : fullL (addL L g r) := by
  intro q hq
  unfold addL at hq
  split at hq
  · obtain ⟨p, hp, rfl⟩ := List.mem_map.mp hq
    split
    · intro e
      have : r ∈ addT p.2 r := mem_addT.mpr (.inr rfl)
      rw [show addT p.2 r = [] from e] at this
      cases this
    · exact h p hp
  · rcases List.mem_append.mp hq with z | z
    · exact h q z
    · rw [List.mem_singleton] at z
      subst z
      simp
theorem inv_fold {α : Type} {st : Lv → α → Lv} {I : Lv → Prop} : ∀ {l : List α} {L : Lv}, (∀ a ∈ l, ∀ L, I L → I (st L a)) → I L → I (l.foldl st L)
  | [], L, _, h => h
  | a :: l, L, hs, h => by
    rw [List.foldl_cons]
    exact inv_fold (fun b hb => hs b (List.mem_cons_of_mem _ hb)) (hs a List.mem_cons_self L h)
theorem inv_step {I : Lv → Prop} (ha : ∀ L g r, I L → I (addL L g r)) {m : List Nat} {p : Nat} {told : List Nat} {rest : Lk} {L : Lv} {i : Nat} (h : I L) : I (stepL m p told rest L i) := by
  unfold stepL
  cases laidL m told p (rest.getD i []) with
  | none => exact h
  | some g =>
    show I (if _ then _ else _)
    split
    · exact ha _ _ _ h
    · exact h
theorem inv_next {I : Lv → Prop} (ha : ∀ L g r, I L → I (addL L g r)) (h0 : I []) {m : List Nat} {p : Nat} {cur : Lv} : I (nextLv m p cur) :=
  inv_fold (fun _ _ _ h => inv_fold (fun _ _ _ h => inv_fold (fun _ _ _ h => inv_step ha h) h) h) h0
theorem full_lvl (m : List Nat) (vs : Lk) : ∀ p, fullL (lvlL m vs p)
  | 0 => by
    intro q hq
    rw [show lvlL m vs 0 = [_] from rfl, List.mem_singleton] at hq
    subst hq
    simp
  | p + 1 => inv_next (I := fullL) (fun L g r h => full_add h) (fun q hq => nomatch hq)
theorem nd_add {L : Lv} {g : List Nat} {r : Lk} (h : (L.map (·.1)).Nodup) : ((addL L g r).map (·.1)).Nodup := by
  unfold addL
  split
  · rw [List.map_map]
    have e : ((fun x : List Nat × List Lk => x.1) ∘ fun p : List Nat × List Lk => if p.1 = g then (p.1, addT p.2 r) else p) = fun p => p.1 := by
      funext p
      show (if p.1 = g then (p.1, addT p.2 r) else p).1 = p.1
      split <;> rfl
    rw [e]
    exact h
  · rename_i hn
    rw [List.map_append, List.nodup_append]
    refine ⟨h, by simp, fun a ha b hb e => ?_⟩
    simp at hb
    subst hb
    exact hn (e ▸ ha)
theorem nd_lvl (m : List Nat) (vs : Lk) : ∀ p, ((lvlL m vs p).map (·.1)).Nodup
  | 0 => by simp [lvlL]
  | p + 1 => inv_next (I := fun L => (L.map (·.1)).Nodup) (fun L g r h => nd_add h) (by simp)
theorem num_add {L : Lv} {g : List Nat} {r : Lk} (h : (L.map (·.1)).Nodup) : numL (addL L g r) ≤ numL L + 1 := by
  unfold addL numL
  split
  · rename_i hg
    clear hg
    induction L with
    | nil => simp
    | cons q L ih =>
      rw [List.map_cons] at h
      obtain ⟨h1, h2⟩ := List.nodup_cons.mp h
      rw [List.map_cons, List.map_cons, List.sum_cons, List.map_cons, List.sum_cons]
      by_cases e : q.1 = g
      · rw [if_pos e]
        have e2 : L.map (fun p => if p.1 = g then (p.1, addT p.2 r) else p) = L := by
          conv => rhs; rw [← List.map_id L]
          refine List.map_congr_left fun p hp => ?_
          rw [if_neg]
          · rfl
          · intro z
            exact h1 (List.mem_map.mpr ⟨p, hp, by rw [z, e]⟩)
        rw [e2]
        have : (addT q.2 r).length ≤ q.2.length + 1 := by
          unfold addT
          split <;> simp
        show (addT q.2 r).length + _ ≤ _
        omega
      · rw [if_neg e]
        have := ih h2
        omega
  · rw [List.map_append, List.sum_append]
    simp
theorem num_step {m : List Nat} {p : Nat} {told : List Nat} {rest : Lk} {L : Lv} {i : Nat} (h : (L.map (·.1)).Nodup) : ((stepL m p told rest L i).map (·.1)).Nodup ∧ numL (stepL m p told rest L i) ≤ numL L + 1 := by
  refine ⟨inv_step (I := fun L => (L.map (·.1)).Nodup) (fun L g r h => nd_add h) h, ?_⟩
  unfold stepL
  cases laidL m told p (rest.getD i []) with
  | none => exact Nat.le_succ _
  | some g =>
    show numL (if _ then _ else _) ≤ _
    split
    · exact num_add h
    · exact Nat.le_succ _
theorem num_fold {α : Type} {st : Lv → α → Lv} {c : α → Nat} : ∀ {l : List α} {L : Lv}, (∀ a ∈ l, ∀ L : Lv, (L.map (·.1)).Nodup → ((st L a).map (·.1)).Nodup ∧ numL (st L a) ≤ numL L + c a) → (L.map (·.1)).Nodup → ((l.foldl st L).map (·.1)).Nodup ∧ numL (l.foldl st L) ≤ numL L + (l.map c).sum
  | [], L, _, h => ⟨h, Nat.le_refl _⟩
  | a :: l, L, hs, h => by
    obtain ⟨h1, h2⟩ := hs a List.mem_cons_self L h
    obtain ⟨h3, h4⟩ := num_fold (c := c) (l := l) (fun b hb => hs b (List.mem_cons_of_mem _ hb)) h1
    refine ⟨h3, ?_⟩
    rw [List.foldl_cons, List.map_cons, List.sum_cons]
    omega
theorem sum_const {α : Type} (l : List α) (f : α → Nat) (c : Nat) (h : ∀ x ∈ l, f x ≤ c) : (l.map f).sum ≤ l.length * c := by
  induction l with
  | nil => simp
  | cons x l ih =>
    have h1 := h x List.mem_cons_self
    have h2 := ih fun y hy => h y (List.mem_cons_of_mem _ hy)
    rw [List.map_cons, List.sum_cons, List.length_cons, Nat.add_mul]
    omega
theorem num_next {m : List Nat} {p : Nat} {cur : Lv} {c : Nat} (hc : ∀ q ∈ cur, ∀ rest ∈ q.2, rest.length ≤ c) : numL (nextLv m p cur) ≤ numL cur * c := by
  unfold nextLv
  have h := (num_fold (st := toldL m p) (c := fun q => q.2.length * c) (l := cur) (L := []) (fun q hq L hn => by
    have h := num_fold (st := restL m p q.1) (c := fun rest => rest.length) (l := q.2) (L := L) (fun rest hr L hn => by
      have h := num_fold (st := stepL m p q.1 rest) (c := fun _ => 1) (l := List.range rest.length) (L := L) (fun i _ L hn => num_step hn) hn
      refine ⟨h.1, Nat.le_trans h.2 ?_⟩
      have := sum_const (List.range rest.length) (fun _ => 1) 1 (fun _ _ => Nat.le_refl _)
      rw [List.length_range] at this
      omega) hn
    refine ⟨h.1, Nat.le_trans h.2 ?_⟩
    have := sum_const q.2 (fun rest => rest.length) c (fun r hr => hc q hq r hr)
    omega) (by simp)).2
  refine Nat.le_trans h ?_
  show 0 + _ ≤ _
  rw [Nat.zero_add]
  unfold numL
  clear h hc
  induction cur with
  | nil => simp
  | cons q cur ih =>
    rw [List.map_cons, List.sum_cons, List.map_cons, List.sum_cons, Nat.add_mul]
    omega
theorem rest_len {m : List Nat} {vs : Lk} {p : Nat} : ∀ q ∈ lvlL m vs p, ∀ rest ∈ q.2, rest.length + p = vs.length := by
  intro q hq rest hr
  obtain ⟨us, hl, hp, _⟩ := (lvl_iff m vs p q.1 rest).mp ⟨q, hq, rfl, hr⟩
  have := hp.length_eq
  rw [List.length_append] at this
  omega
theorem num_lvl (m : List Nat) (vs : Lk) (h7 : vs.length ≤ 7) : ∀ p, numL (lvlL m vs p) ≤ 7 ^ p
  | 0 => by simp [lvlL, numL]
  | p + 1 => by
    refine Nat.le_trans (num_next (c := 7) fun q hq r hr => ?_) ?_
    · have := rest_len q hq r hr
      omega
    · rw [Nat.pow_succ]
      exact Nat.mul_le_mul_right 7 (num_lvl m vs h7 p)
/-- the rows of looks in any order -/
def ordsL (m : List Nat) (vs : Lk) : List (List Nat) := (lvlL m vs vs.length).map (·.1)
theorem mem_ords {m : List Nat} {vs : Lk} {g : List Nat} : g ∈ ordsL m vs ↔ ∃ us : Lk, us.Perm vs ∧ clashL m us = (g, none) := by
  constructor
  · intro h
    obtain ⟨q, hq, rfl⟩ := List.mem_map.mp h
    have h1 := full_lvl m vs _ q hq
    obtain ⟨r, hr⟩ := List.exists_mem_of_ne_nil _ h1
    obtain ⟨us, hl, hp, _, hc⟩ := (lvl_iff m vs _ q.1 r).mp ⟨q, hq, rfl, hr⟩
    have hr0 : r = [] := by
      have := hp.length_eq
      rw [List.length_append] at this
      exact List.length_eq_zero_iff.mp (by omega)
    subst hr0
    rw [List.append_nil] at hp
    refine ⟨us, hp, ?_⟩
    unfold clashL
    rw [hl]
    exact hc
  · rintro ⟨us, hp, hc⟩
    unfold clashL at hc
    rw [hp.length_eq] at hc
    obtain ⟨q, hq, e, _⟩ := (lvl_iff m vs vs.length g []).mpr ⟨us, hp.length_eq, by rw [List.append_nil]; exact hp, .nil, hc⟩
    exact List.mem_map.mpr ⟨q, hq, e⟩
/-! ### all orders -/
def ordGo (n : Nat) : Nat → List (List Nat)
  | 0 => [[]]
  | k + 1 => (ordGo n k).flatMap fun some => ((List.range n).filter fun a => decide (a ∉ some)).map fun a => some ++ [a]
theorem mem_ordGo {n : Nat} : ∀ {k : Nat} {o : List Nat}, o ∈ ordGo n k ↔ o.length = k ∧ o.Nodup ∧ ∀ a ∈ o, a < n
  | 0, o => by
    rw [show ordGo n 0 = [[]] from rfl, List.mem_singleton]
    constructor
    · rintro rfl
      simp
    · rintro ⟨h, _⟩
      exact List.length_eq_zero_iff.mp h
  | k + 1, o => by
    rw [show ordGo n (k + 1) = (ordGo n k).flatMap _ from rfl, List.mem_flatMap]
    constructor
    · rintro ⟨s, hs, h⟩
      obtain ⟨a, ha, rfl⟩ := List.mem_map.mp h
      obtain ⟨h1, h2⟩ := List.mem_filter.mp ha
      obtain ⟨g1, g2, g3⟩ := mem_ordGo.mp hs
      refine ⟨by simp [g1], ?_, fun b hb => ?_⟩
      · rw [List.nodup_append]
        refine ⟨g2, by simp, fun x hx y hy e => ?_⟩
        obtain rfl := List.mem_singleton.mp hy
        exact of_decide_eq_true h2 (e ▸ hx)
      · rcases List.mem_append.mp hb with z | z
        · exact g3 b z
        · obtain rfl := List.mem_singleton.mp z
          exact List.mem_range.mp h1
    · rintro ⟨h1, h2, h3⟩
      have hne : o ≠ [] := fun e => by rw [e] at h1; cases h1
      obtain ⟨s, a, rfl⟩ : ∃ s a, o = s ++ [a] := ⟨o.dropLast, o.getLast hne, (List.dropLast_concat_getLast hne).symm⟩
      rw [List.nodup_append] at h2
      refine ⟨s, mem_ordGo.mpr ⟨by simpa using h1, h2.1, fun b hb => h3 b (List.mem_append_left _ hb)⟩, List.mem_map.mpr ⟨a, List.mem_filter.mpr ⟨List.mem_range.mpr (h3 a (by simp)), decide_eq_true fun q => h2.2.2 a q a (by simp) rfl⟩, rfl⟩⟩
theorem perm_map_inv {α β : Type} [DecidableEq α] (f : α → β) : ∀ {us : List β} {l : List α}, us.Perm (l.map f) → ∃ l' : List α, l'.Perm l ∧ us = l'.map f
  | [], l, h => by
    have := h.length_eq
    rw [List.length_map] at this
    obtain rfl := List.length_eq_zero_iff.mp this.symm
    exact ⟨[], List.Perm.refl _, rfl⟩
  | u :: us, l, h => by
    obtain ⟨x, hx, e⟩ := List.mem_map.mp (h.mem_iff.mp List.mem_cons_self)
    have p := List.perm_cons_erase hx
    have h2 : (u :: us).Perm (u :: (l.erase x).map f) := h.trans (by
      have := p.map f
      rw [List.map_cons, e] at this
      exact this)
    obtain ⟨l', h3, h4⟩ := perm_map_inv f h2.cons_inv
    exact ⟨x :: l', (h3.cons x).trans p.symm, by rw [List.map_cons, e, h4]⟩
theorem range_perm {n : Nat} {o : List Nat} (h1 : o.length = n) (h2 : o.Nodup) (h3 : ∀ a ∈ o, a < n) : o.Perm (List.range n) := by
  have hn : (List.range n).Nodup := List.nodup_range
  have sub : ∀ a ∈ o, a ∈ List.range n := fun a ha => List.mem_range.mpr (h3 a ha)
  have key : ∀ {u l : List Nat}, u.Nodup → (∀ x ∈ u, x ∈ l) → l.length = u.length → l.Perm u := by
    intro u
    induction u with
    | nil => intro l _ _ h; rw [List.length_eq_zero_iff.mp h]
    | cons x u ih =>
      intro l hn hm h
      have hx := hm x List.mem_cons_self
      have p := List.perm_cons_erase hx
      have h2 : (l.erase x).length = u.length := by
        have := p.length_eq
        rw [List.length_cons] at this h
        omega
      obtain ⟨n1, n2⟩ := List.nodup_cons.mp hn
      refine p.trans ((ih n2 (fun y hy => ?_) h2).cons x)
      exact (List.mem_erase_of_ne (fun e : y = x => n1 (by rw [← e]; exact hy))).mpr (hm y (List.mem_cons_of_mem _ hy))
  exact (key h2 sub (by rw [List.length_range, h1])).symm
/-- in the order o -/
def inOrd (vs : Lk) (o : List Nat) : Lk := o.map fun i => vs.getD i []
theorem perm_ord {vs us : Lk} : us.Perm vs ↔ ∃ o ∈ ordGo vs.length vs.length, us = inOrd vs o := by
  have e : vs = (List.range vs.length).map fun i => vs.getD i [] := by
    apply List.ext_getElem
    · simp
    · intro i h1 h2
      rw [List.getElem_map, List.getElem_range, List.getD_eq_getElem?_getD, List.getElem?_eq_getElem h1]
      rfl
  constructor
  · intro h
    rw [e] at h
    obtain ⟨o, h1, h2⟩ := perm_map_inv _ h
    refine ⟨o, mem_ordGo.mpr ⟨by rw [h1.length_eq, List.length_range], h1.nodup_iff.mpr List.nodup_range, fun a ha => List.mem_range.mp (h1.mem_iff.mp ha)⟩, h2⟩
  · rintro ⟨o, ho, rfl⟩
    obtain ⟨h1, h2, h3⟩ := mem_ordGo.mp ho
    have := (range_perm h1 h2 h3).map fun i => vs.getD i []
    rw [← e] at this
    exact this
/-- the rows by all orders, each once -/
def dueGo (m : List Nat) (vs : Lk) : List (List Nat) → List (List Nat) → List (List Nat)
  | [], acc => acc
  | o :: os, acc => dueGo m vs os (match clashL m (inOrd vs o) with
    | (g, none) => if g ∈ acc then acc else acc ++ [g]
    | (_, some _) => acc)
theorem mem_due {m : List Nat} {vs : Lk} {g : List Nat} : ∀ {os acc : List (List Nat)}, g ∈ dueGo m vs os acc ↔ g ∈ acc ∨ ∃ o ∈ os, clashL m (inOrd vs o) = (g, none)
  | [], acc => by simp [dueGo]
  | o :: os, acc => by
    unfold dueGo
    rw [mem_due]
    rcases e : clashL m (inOrd vs o) with ⟨g', _ | c⟩
    · show g ∈ (if g' ∈ acc then acc else acc ++ [g']) ∨ _ ↔ _
      have h1 : g ∈ (if g' ∈ acc then acc else acc ++ [g']) ↔ g ∈ acc ∨ g = g' := by
        split
        · rename_i h
          exact ⟨.inl, fun z => z.elim id fun e => e ▸ h⟩
        · simp
      rw [h1]
      constructor
      · rintro ((z | z) | ⟨o', ho, z⟩)
        · exact .inl z
        · exact .inr ⟨o, List.mem_cons_self, by rw [e, z]⟩
        · exact .inr ⟨o', List.mem_cons_of_mem _ ho, z⟩
      · rintro (z | ⟨o', ho, z⟩)
        · exact .inl (.inl z)
        · rcases List.mem_cons.mp ho with q | ho
          · subst q
            rw [e] at z
            cases z
            exact .inl (.inr rfl)
          · exact .inr ⟨o', ho, z⟩
    · show g ∈ acc ∨ _ ↔ _
      constructor
      · rintro (z | ⟨o', ho, z⟩)
        · exact .inl z
        · exact .inr ⟨o', List.mem_cons_of_mem _ ho, z⟩
      · rintro (z | ⟨o', ho, z⟩)
        · exact .inl z
        · rcases List.mem_cons.mp ho with q | ho
          · subst q
            rw [e] at z
            cases z
          · exact .inr ⟨o', ho, z⟩
def dueL (m : List Nat) (vs : Lk) : List (List Nat) := dueGo m vs (ordGo vs.length vs.length) []
theorem due_ords (m : List Nat) (vs : Lk) (g : List Nat) : g ∈ dueL m vs ↔ g ∈ ordsL m vs := by
  unfold dueL
  rw [mem_due, mem_ords]
  constructor
  · rintro (z | ⟨o, ho, h⟩)
    · cases z
    · exact ⟨inOrd vs o, perm_ord.mpr ⟨o, ho, rfl⟩, h⟩
  · rintro ⟨us, hp, hc⟩
    obtain ⟨o, ho, rfl⟩ := perm_ord.mp hp
    exact .inr ⟨o, ho, hc⟩
end HW
set_option maxHeartbeats 4000000
namespace HW
open PySem PySem.Spec PyProof.Rows L2
open SX (S)
open PySem.W (dataLt AlikeAll AllAlike Sortable EachIs dataLe alike)
/-! ### tuples that can be keys -/
theorem ktD_tup {K : PySem.W.Frag} {H : Hp} {v : V} {ds : List PyData} (h : Va K H v (ktD ds)) : Va K H v (.tuple ds) := by
  cases h with
  | ktp ha hs => exact .tup (.inl (.inl ha)) hs
section
variable {X : Cx} {W : Wd} {Γ : List DV} {μ : Mu} {e : Expr} {ds es : List PyData}
theorem ed_kt (h : Ed X W Γ μ e (ktD ds)) : Ed X W Γ μ e (.tuple ds) := fun σ H R Q k => h σ H R Q fun v H2 R2 x2 r => k v H2 R2 x2 (ktD_tup r)
theorem c_tupLk : CallD X (.type "tuple") [.list ds] (ktD ds) := CallR.to call_tuple_of fun vs H Q ⟨L, hL, hv, k⟩ => by
  cases hv with
  | cons h1 h2 =>
    cases h2
    cases h1 with
    | lst ha hs => exact ⟨_, _, rfl, .inl ⟨SqL.of (off_some ha).2, fun l hl => k _ _ (same_new hl) (.ktp (off_upd (new_out hL hl)) (hs.up (XT.same (same_new hl))))⟩⟩
theorem o_catK (h : ds.length + es.length ≤ 16777216) : OpD X (binaryOp .Add) (ktD ds) (ktD es) (ktD (ds ++ es)) := OpR.to op_catA fun a b H Q ⟨L, hL, ha, hb, k⟩ => by
  cases ha with
  | ktp ha hs =>
    cases hb with
    | ktp hb ht =>
      refine ⟨_, _, _, _, rfl, rfl, .inl (.inl (off_some ha).2), .inl (.inl (off_some hb).2), by rw [hs.length, ht.length]; exact h, fun e => ?_, fun _ e => ?_, fun _ _ p hp => ?_⟩
      · subst e
        cases hs
        exact k _ _ (Same.refl _) (.ktp hb ht)
      · subst e
        cases ht
        rw [List.append_nil] at k
        exact k _ _ (Same.refl _) (.ktp ha hs)
      · exact k _ _ (same_new hp) (.ktp (off_upd (new_out hL hp)) ((hs.app ht).up (XT.same (same_new hp))))
theorem s_tupK {lo hi : Option Int} : SlD X (ktD ds) lo hi (ktD ((ds.drop (HT.sIx ds.length 0 lo)).take (HT.sIx ds.length ds.length hi - HT.sIx ds.length 0 lo))) := SlR.to sl_tupA fun v l u H Q ⟨e1, e2, L, hL, hv, k⟩ => by
  subst e1 e2
  cases hv with
  | ktp ha hs =>
    refine ⟨_, _, rfl, .inl (.inl (off_some ha).2), fun hw => ?_, fun _ p hp => ?_⟩
    · rw [hs.length] at hw
      rw [hw.1, hw.2] at k
      simp only [List.drop_zero, Nat.sub_zero, List.take_length] at k
      exact k _ _ (Same.refl _) (.ktp ha hs)
    · refine k _ _ (same_new hp) (.ktp (off_upd (new_out hL hp)) ?_)
      unfold cutV
      rw [hs.length]
      exact ((hs.drop _).take _).up (XT.same (same_new hp))
theorem s_kT (n : Nat) {z : Int} (e : z = (n : Int) := by rfl) : SlD X (ktD ds) none (some z) (ktD (ds.take n)) := by
  have h := s_tupK (X := X) (ds := ds) (lo := none) (hi := some z)
  subst e
  rw [HT.sIx_none, HT.sIx_nat, List.drop_zero, Nat.sub_zero] at h
  have e2 : ds.take (min n ds.length) = ds.take n := by
    rw [Nat.min_def]
    split
    · rfl
    · rw [List.take_of_length_le (by omega), List.take_of_length_le (by omega)]
  rw [e2] at h
  exact h
theorem s_kD (n : Nat) {z : Int} (e : z = (n : Int) := by rfl) : SlD X (ktD ds) (some z) none (ktD (ds.drop n)) := by
  have h := s_tupK (X := X) (ds := ds) (lo := some z) (hi := none)
  subst e
  rw [HT.sIx_none, HT.sIx_nat] at h
  have e2 : (ds.drop (min n ds.length)).take (ds.length - min n ds.length) = ds.drop n := by
    rw [Nat.min_def]
    split
    · rw [List.take_of_length_le (by simp)]
    · rw [List.drop_of_length_le (by omega), List.drop_of_length_le (by omega)]
      simp
  rw [e2] at h
  exact h
end
/-! ### a dict of dicts, on the way -/
def inK (r : Lk) : List Key := r.map fun t => Sum.inr (S t)
theorem inK_inj {r s : Lk} (h : inK r = inK s) : r = s := by
  unfold inK at h
  induction r generalizing s with
  | nil => cases s with
    | nil => rfl
    | cons => simp at h
  | cons x r ih => cases s with
    | nil => simp at h
    | cons y s =>
      rw [List.map_cons, List.map_cons] at h
      obtain ⟨h1, h2⟩ := List.cons.inj h
      rw [S_inj (Sum.inr.inj h1), ih h2]
theorem vaAll_inK {K : PySem.W.Frag} {H : Hp} {xs : List V} {r : Lk} (h : VaAll K H xs (r.map sD)) : xs = (inK r).map kV := by
  rw [vaAll_S (ws := r) h, inK, List.map_map, List.map_map]
  rfl
def setT (rs : List Lk) : List (List Key × PyData) := rs.map fun r => (inK r, PyData.bool true)
def innM (q : List Nat × List Lk) (b : Addr) : Addr × MO := (b, .dT (setT q.2))
def outK (L : Lv) (bs : List Addr) : List (Key × PyData) := L.zipWith (fun q b => (Sum.inr (S q.1), ptD b)) bs
def laterMu (a : Addr) (L : Lv) (bs : List Addr) : Mu := (a, .dK (outK L bs)) :: L.zipWith innM bs
def LaterIs (a : Addr) (L : Lv) (μ : Mu) : Prop := ∃ bs : List Addr, bs.length = L.length ∧ μ = laterMu a L bs
theorem pK_setT (rs : List Lk) (r : Lk) : pK (setT rs) (inK r) (.bool true) = setT (addT rs r) := by
  unfold pK addT setT
  by_cases h : r ∈ rs
  · rw [if_pos h, if_pos]
    · rw [List.map_map]
      refine List.map_congr_left fun s _ => ?_
      show (if inK s = inK r then (inK s, PyData.bool true) else (inK s, PyData.bool true)) = _
      split <;> rfl
    · rw [List.any_eq_true]
      exact ⟨_, List.mem_map.mpr ⟨r, h, rfl⟩, decide_eq_true rfl⟩
  · rw [if_neg h, if_neg, List.map_append]
    · rfl
    · rw [List.any_eq_true]
      rintro ⟨p, hp, e⟩
      obtain ⟨s, hs, rfl⟩ := List.mem_map.mp hp
      exact h (inK_inj (of_decide_eq_true e) ▸ hs)
/-- where the row stands -/
theorem vK_out {g : List Nat} : ∀ {L : Lv} {bs : List Addr}, bs.length = L.length → (L.map (·.1)).Nodup →
    (vK (outK L bs) (Sum.inr (S g)) = none ∧ g ∉ L.map (·.1)) ∨ ∃ j q b, L[j]? = some q ∧ bs[j]? = some b ∧ q.1 = g ∧ vK (outK L bs) (Sum.inr (S g)) = some (ptD b) ∧ addL L g = fun r => L.set j (q.1, addT q.2 r)
  | [], _, _, _ => .inl ⟨rfl, by simp⟩
  | q :: L, [], h, _ => by simp at h
  | q :: L, b :: bs, h, hn => by
    rw [List.map_cons] at hn
    obtain ⟨n1, n2⟩ := List.nodup_cons.mp hn
    by_cases e : q.1 = g
    · refine .inr ⟨0, q, b, rfl, rfl, e, by simp [outK, vK, e], ?_⟩
      funext r
      unfold addL
      rw [if_pos (by rw [List.map_cons, e]; exact List.mem_cons_self), List.map_cons, if_pos e]
      show _ :: _ = _ :: L
      congr 1
      conv => rhs; rw [← List.map_id L]
      refine List.map_congr_left fun p hp => ?_
      rw [if_neg]
      · rfl
      · intro z
        exact n1 (List.mem_map.mpr ⟨p, hp, by rw [z, e]⟩)
    · have ne : ¬ (Sum.inr (S q.1) : Key) = Sum.inr (S g) := fun z => e (S_inj (Sum.inr.inj z))
      have ev : vK (outK (q :: L) (b :: bs)) (Sum.inr (S g)) = vK (outK L bs) (Sum.inr (S g)) := by
        simp [outK, vK, ne]
      rcases vK_out (g := g) (by simpa using h) n2 with ⟨h1, h2⟩ | ⟨j, q', b', h1, h2, h3, h4, h5⟩
      · refine .inl ⟨by rw [ev, h1], ?_⟩
        rw [List.map_cons, List.mem_cons]
        rintro (z | z)
        · exact e z.symm
        · exact h2 z
      · refine .inr ⟨j + 1, q', b', by simpa using h1, by simpa using h2, h3, by rw [ev, h4], ?_⟩
        funext r
        have z := congrFun h5 r
        have hm : g ∈ L.map (·.1) := List.mem_map.mpr ⟨q', List.mem_of_getElem? h1, h3⟩
        unfold addL at z ⊢
        rw [if_pos hm] at z
        rw [if_pos (by rw [List.map_cons]; exact List.mem_cons_of_mem _ hm), List.map_cons, if_neg e, z]
        rfl
theorem zip_set {α β γ : Type} (f : α → β → γ) : ∀ (l : List α) (m : List β) (j : Nat) (x : α) (y : β), m[j]? = some y → (l.set j x).zipWith f m = (l.zipWith f m).set j (f x y)
  | [], m, j, x, y, h => by simp
  | a :: l, [], j, x, y, h => by simp at h
  | a :: l, b :: m, 0, x, y, h => by
    simp at h
    subst h
    rfl
  | a :: l, b :: m, j + 1, x, y, h => by
    rw [List.set_cons_succ, List.zipWith_cons_cons, List.zipWith_cons_cons, List.set_cons_succ, zip_set f l m j x y (by simpa using h)]
theorem zip_same {α β γ : Type} (f : α → β → γ) {l : List α} {m : List β} {j : Nat} {x a : α} {y : β} (ha : l[j]? = some a) (hy : m[j]? = some y) (e : f x y = f a y) : (l.set j x).zipWith f m = l.zipWith f m := by
  rw [zip_set f l m j x y hy, e]
  apply List.ext_getElem?
  intro i
  by_cases q : i = j
  · subst q
    have : (l.zipWith f m)[i]? = some (f a y) := by rw [List.getElem?_zipWith, ha, hy]
    rw [List.getElem?_set_self (List.getElem?_eq_some_iff.mp this).1, this]
  · rw [List.getElem?_set_ne (Ne.symm q)]
theorem later_put {a : Addr} {L : Lv} {bs : List Addr} {j : Nat} {q : List Nat × List Lk} {b : Addr} {r : Lk} (h1 : L[j]? = some q) (h2 : bs[j]? = some b) : (laterMu a L bs).set (j + 1) (b, .dT (setT (addT q.2 r))) = laterMu a (L.set j (q.1, addT q.2 r)) bs := by
  unfold laterMu outK
  rw [List.set_cons_succ, zip_same (x := (q.1, addT q.2 r)) (fun (q : List Nat × List Lk) (b : Addr) => ((Sum.inr (S q.1) : Key), ptD b)) h1 h2 rfl, zip_set innM L bs j _ b h2]
  rfl
theorem later_at {a : Addr} {L : Lv} {bs : List Addr} {j : Nat} {q : List Nat × List Lk} {b : Addr} (h1 : L[j]? = some q) (h2 : bs[j]? = some b) : (laterMu a L bs)[j + 1]? = some (b, .dT (setT q.2)) := by
  unfold laterMu
  rw [List.getElem?_cons_succ, List.getElem?_zipWith, h1, h2]
  rfl
theorem later_new {a p : Addr} {L : Lv} {bs : List Addr} {g : List Nat} {r : Lk} (h : bs.length = L.length) : laterMu a (L ++ [(g, [r])]) (bs ++ [p]) = (a, .dK (outK L bs ++ [(Sum.inr (S g), ptD p)])) :: (L.zipWith innM bs ++ [(p, .dT (setT [r]))]) := by
  unfold laterMu outK
  rw [List.zipWith_append h.symm, List.zipWith_append h.symm]
  rfl
section
variable {X : Cx} {W : Wd} {Γ : List DV} {μ : Mu} {e1 e2 : Expr} {rest : List Stmt} {D : Ends} {pos pos' p1 apos cpos pd pv : Pos} {n : Str} {a : Addr} {L : Lv} {g : List Nat} {r : Lk} {jv : Nat}
/-- later.setdefault(row, {})[rest] = True -/
theorem run_setdef (i : Nat) (hu : X.A.units + 64 < cLine) (h1 : ∀ μ, Ed X W Γ μ e1 (sD g)) (h2 : ∀ μ, Ed X W Γ μ e2 (ktD (r.map sD))) (hnd : (L.map (·.1)).Nodup) (hl : L.length < 16777216) (hl2 : ∀ q ∈ L, q.2.length < 16777216) (hμ : LaterIs a L μ)
    (h : ∀ μ', LaterIs a (addL L g r) μ' → Run X W Γ μ' rest D) (hi : Γ[i]? = some (.r a) := by rfl) (hN : X.N[i]? = some n := by rfl) (hv : Vis X.env.scope n := by first | exact Or.inl rfl | exact Or.inr (Or.inl rfl) | exact Or.inr (Or.inr rfl))
    (hd1 : (n == ("__debug__" : Str)) = false := by decide) (hd2 : (n == ("__classdict__" : Str)) = false := by decide) (m : M2 X (.Name n p1) "setdefault" apos e1 (.Dict [] [] pd) cpos := by exact ⟨rfl, rfl, rfl, rfl⟩)
    (hs : swapsWith (.Constant (.bool true) jv pv) (some (.Subscript (.Call (.Attribute (.Name n p1) "setdefault" apos) [e1, .Dict [] [] pd] [] cpos) e2 pos')) pos.line X.env = pure false := by rfl) :
    Run X W Γ μ (.Assign [.Subscript (.Call (.Attribute (.Name n p1) "setdefault" apos) [e1, .Dict [] [] pd] [] cpos) e2 pos'] (.Constant (.bool true) jv pv) pos :: rest) D := fun σ H R => by
  obtain ⟨bs, hbl, rfl⟩ := hμ
  refine wSs_cons ((ps_dput (by omega) (pe_dsetd (pe_var hN hv hd1 hd2) wE.pe pe_dnewT m) wE.pe pe_bl hs).w ?_)
  obtain ⟨o, g1, g2⟩ := R.sl.at_ i _ hi
  obtain rfl : o = some (.ref a) := g2
  have ha0 : (a, MO.dK (outK L bs)) ∈ laterMu a L bs := List.mem_cons_self
  obtain ⟨ks0, hk0, _⟩ := (R.mu _ ha0).2
  refine ⟨_, g1, a, rfl, .inl ⟨ks0, .inl hk0⟩, h1 _ σ H R _ fun v H2 R2 x2 r2 => fun p hp => ?_⟩
  cases r2
  have R3 := R2.born (m := .dT []) (o := .dT []) hp ⟨[], upd_same, .nil⟩
  obtain ⟨ks, hk, hpd⟩ := (R3.mu _ (List.mem_cons_of_mem _ ha0)).2
  have hkl : ks.length < sizeLine := by
    have e1 : ks.length = (outK L bs).length := plen hpd
    have e2 : (outK L bs).length ≤ L.length := by
      unfold outK
      rw [List.length_zipWith]
      exact Nat.min_le_left _ _
    rw [sizeLine_eq]
    omega
  refine ⟨ks, Sum.inr (S g), hk, rfl, hkl, fun u hu' => ?_, fun hn => ?_⟩
  · have R4 : Rep X.K W Γ (laterMu a L bs) σ (upd H2 p (.dT [])) := R2.same (same_new hp)
    rcases vK_out (g := g) hbl hnd with ⟨z1, z2⟩ | ⟨j, q, b, z1, z2, z3, z4, z5⟩
    · rcases kv_val (Sum.inr (S g)) hpd with ⟨y1, _⟩ | ⟨v', d', _, y2, _⟩
      · rw [y1] at hu'; cases hu'
      · rw [z1] at y2; cases y2
    · rcases kv_val (Sum.inr (S g)) hpd with ⟨y1, _⟩ | ⟨v', d', y1, y2, y3⟩
      · rw [y1] at hu'; cases hu'
      · rw [y1] at hu'
        cases hu'
        rw [z4] at y2
        cases y2
        cases y3
        refine h2 _ σ _ R4 _ fun y H4 R5 x5 r5 => ?_
        cases r5 with
        | ktp ht hxs =>
          have exs := vaAll_inK hxs
          subst exs
          have hj := later_at (a := a) z1 z2
          obtain ⟨ks', hk', hp'⟩ := (R5.mu _ (List.mem_of_getElem? hj)).2
          have hl' : ks'.length < sizeLine := by
            have e1 : ks'.length = (setT q.2).length := plen hp'
            have e2 := hl2 q (List.mem_of_getElem? z1)
            rw [e1, setT, List.length_map, sizeLine_eq]
            exact e2
          refine ⟨b, _, rfl, DPut.t hk' (off_some ht).2 hl', ?_⟩
          refine h (laterMu a (addL L g r) bs) ⟨bs, ?_, rfl⟩ _ _ ?_
          · rw [congrFun z5 r, List.length_set, hbl]
          · rw [congrFun z5 r, ← later_put z1 z2]
            have R6 := R5.chg (m' := .dT (pK (setT q.2) (inK r) (.bool true))) hj ⟨_, upd_same, kv_put (inK r) hp' (.bl true)⟩
            rw [pK_setT] at R6
            exact R6
  · have hvn : vK (outK L bs) (Sum.inr (S g)) = none := by
      rcases kv_val (Sum.inr (S g)) hpd with ⟨_, y2⟩ | ⟨v', d', y1, _, _⟩
      · exact y2
      · rw [y1] at hn; cases hn
    have hgn : g ∉ L.map (·.1) := by
      rcases vK_out (g := g) hbl hnd with ⟨_, z2⟩ | ⟨j, q, b, z1, z2, z3, z4, z5⟩
      · exact z2
      · rw [z4] at hvn; cases hvn
    have R4 := R3.chg (j := 1) (m' := .dK (pK (outK L bs) (Sum.inr (S g)) (ptD p))) rfl ⟨_, upd_same, kv_put (Sum.inr (S g)) hpd (.ptr p)⟩
    rw [pK_new hvn] at R4
    refine h2 _ σ _ R4 _ fun y H4 R5 x5 r5 => ?_
    cases r5 with
    | ktp ht hxs =>
      have exs := vaAll_inK hxs
      subst exs
      obtain ⟨ks', hk', hp'⟩ := (R5.mu (p, .dT []) List.mem_cons_self).2
      have hl' : ks'.length < sizeLine := by
        have e1 : ks'.length = ([] : List (List Key × PyData)).length := plen hp'
        rw [e1, sizeLine_eq]
        decide
      refine ⟨p, _, rfl, DPut.t hk' (off_some ht).2 hl', ?_⟩
      have eL : addL L g r = L ++ [(g, [r])] := if_neg hgn
      have R6 := R5.chg (j := 0) (m' := .dT (pK [] (inK r) (.bool true))) rfl ⟨_, upd_same, kv_put (inK r) hp' (.bl true)⟩
      refine h (laterMu a (addL L g r) (bs ++ [p])) ⟨bs ++ [p], ?_, rfl⟩ _ _ ?_
      · rw [eL, List.length_append, List.length_append, hbl]
        rfl
      · rw [eL, later_new hbl]
        refine R6.sub (fun x hx => ?_) fun nd => ?_
        · rcases List.mem_cons.mp hx with z | z
          · rw [z]
            exact List.mem_cons_of_mem _ List.mem_cons_self
          · rcases List.mem_append.mp z with z | z
            · exact List.mem_cons_of_mem _ (List.mem_cons_of_mem _ z)
            · rw [List.mem_singleton.mp z]
              exact List.mem_cons_self
        · refine (List.Perm.nodup_iff ?_).mp nd
          show List.Perm (p :: a :: (L.zipWith innM bs).map (·.1)) (a :: ((L.zipWith innM bs ++ [(p, MO.dT (setT [r]))]).map (·.1)))
          rw [List.map_append]
          refine (List.Perm.swap a p _).trans (List.Perm.cons a ?_)
          exact (List.perm_append_comm (l₁ := [p]) (l₂ := (L.zipWith innM bs).map (·.1)))
end
/-! ### it becomes data -/
def tkD (kvs : List (List Key × PyData)) : PyData := dtD (kvs.map fun p => (PyData.tuple (p.1.map kD), p.2))
def lvE (q : List Nat × List Lk) : Key × PyData := (Sum.inr (S q.1), tkD (setT q.2))
def lvD (L : Lv) : PyData := fkD (L.map lvE)
theorem Rep.lockT {K : PySem.W.Frag} {W : Wd} {Γ : List DV} {μ : Mu} {H : Hp} {σ : L2.St} {a b : Addr} {kvs : List (Key × PyData)} {ts : List (List Key × PyData)} {j : Nat} {k : Key} {od : Obj} {ks : List (List Key × V)} (R : Rep K W Γ ((a, .dK kvs) :: (b, .dT ts) :: μ) σ H)
    (hj : kvs[j]? = some (k, ptD b)) (hk : H b = some (.dT ks)) : Rep K W Γ ((a, .dK (kvs.set j (k, tkD ts))) :: μ) σ (upd H b (.frz od (.dT ks))) := by
  obtain ⟨h0, ks1, hk1, hv1⟩ := R.mu (b, .dT ts) (List.mem_cons_of_mem _ List.mem_cons_self)
  replace hk1 : H b = some (.dT ks1) := hk1
  rw [hk] at hk1
  obtain rfl : ks = ks1 := HO.dT.inj (Option.some.inj hk1)
  have nd := R.nd
  rw [List.map_cons, List.map_cons] at nd
  obtain ⟨n1, n2⟩ := List.nodup_cons.mp nd
  obtain ⟨n3, n4⟩ := List.nodup_cons.mp n2
  have nab : a ≠ b := fun e => n1 (by rw [e]; exact List.mem_cons_self)
  have hb0 : W.H0 b = none := h0
  have nl : b ∉ hd W ((a, .dK (kvs.set j (k, tkD ts))) :: μ) := fun q => by
    rcases List.mem_append.mp q with z | z
    · exact R.wd.hid b z hb0
    · rw [List.map_cons] at z
      rcases List.mem_cons.mp z with z | z
      · exact nab z.symm
      · exact n3 z
  have sub : Same (off (hd W ((a, .dK kvs) :: (b, .dT ts) :: μ)) H) (off (hd W ((a, .dK (kvs.set j (k, tkD ts))) :: μ)) (upd H b (.frz od (.dT ks)))) := fun x o e => by
    obtain ⟨e1, e2⟩ := off_some e
    have na : x ≠ b := fun z => e1 (List.mem_append_right _ (by rw [z, List.map_cons, List.map_cons]; exact List.mem_cons_of_mem _ List.mem_cons_self))
    rw [off_out (fun z => by
      rcases List.mem_append.mp z with z | z
      · exact e1 (List.mem_append_left _ z)
      · rw [List.map_cons] at z
        rcases List.mem_cons.mp z with z | z
        · exact e1 (List.mem_append_right _ (by rw [List.map_cons, z]; exact List.mem_cons_self))
        · exact e1 (List.mem_append_right _ (by rw [List.map_cons, List.map_cons]; exact List.mem_cons_of_mem _ (List.mem_cons_of_mem _ z)))), upd_ne na]
    exact e2
  have hbv : Va K (off (hd W ((a, .dK (kvs.set j (k, tkD ts))) :: μ)) (upd H b (.frz od (.dT ks)))) (.ref b) (tkD ts) := by
    obtain ⟨v1, v2⟩ := kv_vals hv1
    refine .dtf (by rw [off_out nl, upd_same]) (v1.up sub) ?_
    rw [zip_kv (fun k : List Key => PyData.tuple (k.map kD)) ts]
    congr 1
    have z := congrArg (List.map fun k : List Key => PyData.tuple (k.map kD)) v2
    rw [List.map_map, List.map_map] at z
    exact z.symm
  refine ⟨R.wd, ⟨fun x o n e => ?_, fun r scr ns e => ?_⟩, R.sl.up sub, fun p hp => ?_, List.nodup_cons.mpr ⟨fun z => n1 (List.mem_cons_of_mem _ z), n4⟩⟩
  · have na : x ≠ b := fun z => by rw [z, hb0] at e; cases e
    rw [upd_ne na]
    exact R.fr.keep x o n e
  · obtain ⟨i', s', q', z1, z2⟩ := R.fr.row r scr ns e
    have na : r ≠ b := fun z => R.wd.hid r (R.wd.row _ _ _ e).1 (z ▸ hb0)
    exact ⟨i', s', q', by rw [upd_ne na]; exact z1, z2⟩
  · rcases List.mem_cons.mp hp with z | z
    · subst z
      obtain ⟨g0, ka, hka, hva⟩ := R.mu (a, .dK kvs) List.mem_cons_self
      refine ⟨g0, ka, by rw [upd_ne nab]; exact hka, ?_⟩
      exact kv_setAt (pmp hva fun _ _ z => ⟨z.1, z.2.up sub⟩) hj fun v hv => by
        cases hv
        exact hbv
    · have na : p.1 ≠ b := fun e => n3 (by rw [← e]; exact List.mem_map.mpr ⟨p, z, rfl⟩)
      have hp2 := R.mu p (List.mem_cons_of_mem _ (List.mem_cons_of_mem _ z))
      exact ⟨hp2.1, hp2.2.up sub fun o e => by rw [upd_ne na]; exact e⟩
where
  kv_setAt {K : PySem.W.Frag} {H : Hp} {k : Key} {d d' : PyData} : ∀ {ks : List (Key × V)} {kvs : List (Key × PyData)} {j : Nat}, KvR K H ks kvs → kvs[j]? = some (k, d) → (∀ v, Va K H v d → Va K H v d') → KvR K H ks (kvs.set j (k, d'))
    | _, _, _, .nil, h, _ => by simp at h
    | p :: ks, q :: kvs, 0, .cons r t, h, f => by
      have h : q = (k, d) := Option.some.inj h
      subst h
      exact .cons ⟨r.1, f _ r.2⟩ t
    | p :: ks, q :: kvs, j + 1, .cons r t, h, f => .cons r (kv_setAt t (by simpa using h) f)
section
variable {X : Cx} {W : Wd} {Γ : List DV} {μ : Mu} {sts : List Stmt} {D : Ends} {a b : Addr}
theorem run_lockT {kvs : List (Key × PyData)} {ts : List (List Key × PyData)} (j : Nat) {k : Key} (hj : kvs[j]? = some (k, ptD b)) (h : Run X W Γ ((a, .dK (kvs.set j (k, tkD ts))) :: μ) sts D) : Run X W Γ ((a, .dK kvs) :: (b, .dT ts) :: μ) sts D := fun σ H R pins s I => by
  obtain ⟨h0, ks, hk, hv⟩ := R.mu (b, .dT ts) (List.mem_cons_of_mem _ List.mem_cons_self)
  obtain ⟨od, I2⟩ := I.lock hk trivial
  exact h σ _ (R.lockT hj hk) pins s I2
theorem run_lockAll : ∀ (L : Lv) (bs : List Addr) (pre : List (Key × PyData)), bs.length = L.length → Run X W Γ [(a, .dK (pre ++ L.map lvE))] sts D → Run X W Γ ((a, .dK (pre ++ outK L bs)) :: L.zipWith innM bs) sts D
  | [], bs, pre, _, h => by simpa [outK] using h
  | q :: L, [], pre, hb, h => by simp at hb
  | q :: L, b :: bs, pre, hb, h => by
    refine run_lockT (k := Sum.inr (S q.1)) pre.length ?_ ?_
    · show (pre ++ (Sum.inr (S q.1), ptD b) :: outK L bs)[pre.length]? = _
      rw [List.getElem?_append_right (Nat.le_refl _), Nat.sub_self]
      rfl
    · have e : (pre ++ outK (q :: L) (b :: bs)).set pre.length (Sum.inr (S q.1), tkD (setT q.2)) = (pre ++ [lvE q]) ++ outK L bs := by
        show (pre ++ (Sum.inr (S q.1), ptD b) :: outK L bs).set pre.length _ = _
        rw [List.set_append_right _ _ (Nat.le_refl _), Nat.sub_self, List.set_cons_zero, List.append_assoc]
        rfl
      rw [e]
      refine run_lockAll L bs (pre ++ [lvE q]) (by simpa using hb) ?_
      rw [List.append_assoc]
      exact h
/-- the dict of dicts is only read from now on -/
theorem run_frzLv {L : Lv} (i : Nat) (hμ : LaterIs a L μ) (h : Run X W (Γ.set i (.d (lvD L))) [] sts D) (hi : Γ[i]? = some (.r a) := by rfl) : Run X W Γ μ sts D := by
  obtain ⟨bs, hb, rfl⟩ := hμ
  have z := run_lockAll (X := X) (W := W) (Γ := Γ) (sts := sts) (D := D) (a := a) L bs [] hb (run_frzK i h hi)
  exact z
end
end HW
set_option maxHeartbeats 4000000
namespace HW
open PySem PySem.Spec PyProof.Rows L2
open SX (S)
open PySem.W (dataLt AlikeAll AllAlike Sortable EachIs dataLe alike)
/-! ### walks over locked dicts -/
section
variable {X : Cx} {W : Wd} {Γ : List DV} {μ : Mu} {tg e : Expr} {apos cpos : Pos} {kvs : List (Key × PyData)} {α β : Type} {enc : α → PyData} {enc' : β → PyData}
theorem IterV.unmap {iter : Expr} {xs : List β} {f : β → α} (h : IterD X W Γ μ tg iter enc (xs.map f)) (e : ∀ x, enc (f x) = enc' x) : IterD X W Γ μ tg iter enc' xs := by
  obtain ⟨wi, h1, h2⟩ := h
  refine ⟨wi, h1, fun σ H R R' k => h2 σ H R R' fun ys J H1 py R1 e1 wk => k xs J H1 rfl R1 e1 ?_⟩
  rw [py, List.map_map] at wk
  have ee : enc ∘ f = enc' := funext e
  rw [ee] at wk
  exact wk
theorem va_kD {K : PySem.W.Frag} {H : Hp} : ∀ k : Key, Va K H (kV k) (kD k)
  | .inl i => .int i
  | .inr x => .str x
theorem va_kVs {K : PySem.W.Frag} {H : Hp} : ∀ k : List Key, VaAll K H (k.map kV) (k.map kD)
  | [] => .nil
  | x :: k => .cons (va_kD x) (va_kVs k)
/-- .items() of a locked dict -/
theorem it_fitems {elts : List Expr} {kk : Nat} {tpos : Pos} (he : Ed X W Γ μ e (fkD kvs)) (hbase : attributeBase e "items" X.env (eval e X.env) = eval e X.env := by rfl) (hline : (apos.endLine == cpos.line) = true := by rfl) : IterD X W Γ μ (.Tuple elts kk tpos) (.Call (.Attribute e "items" apos) [] [] cpos) (fun q : Key × PyData => pr2 (kD q.1) q.2) kvs :=
  ⟨_, pi_items wE.pe hbase hline, fun σ H R R' k => he σ H R _ fun v H1 R1 e1 r1 => by
    obtain ⟨a, o, ks, rfl, h1, h2, h3⟩ := fk_of r1
    have hl : ks.length = kvs.length := by
      have := h2.length
      rw [List.length_map, List.length_map] at this
      exact this
    refine ⟨a, o, ks, rfl, (off_some h1).2, k _ _ H1 rfl R1 e1 ⟨fun i H hi s => ⟨s a _ h1, by rw [List.length_map] at hi; omega⟩, fun i d H v H' L hd hL s y => ?_, fun H s => ⟨s a _ h1, by rw [List.length_map]; omega⟩⟩⟩
    obtain ⟨T, key, v, hy, rfl, hT, rfl⟩ := y
    have sm := same_new (o := HO.tup [kV key, v]) hT
    refine ⟨sm, ?_⟩
    rw [List.getElem?_map] at hd
    obtain ⟨q, hq, rfl⟩ := Option.map_eq_some_iff.mp hd
    have hk : kD key = kD q.1 := by
      have e1 := congrArg (·[i]?) h3
      simp only [List.getElem?_map, hy, hq, Option.map_some] at e1
      exact Option.some.inj e1
    have hv2 : (kvs.map (·.2))[i]? = some q.2 := by rw [List.getElem?_map, hq]; rfl
    obtain ⟨v2, z1, z2⟩ := h2.at hv2
    rw [List.getElem?_map, hy] at z1
    cases z1
    exact .tup (.inl (.inl (off_upd (new_out (fun l h => (hL l h).1) hT)))) (.cons (hk ▸ va_kD key) (.cons ((z2.up s).up (XT.same sm)) .nil))⟩
theorem tk_of {K : PySem.W.Frag} {H : Hp} {v : V} {ts : List (List Key × PyData)} (h : Va K H v (tkD ts)) : ∃ (a : Addr) (o : Obj) (ks : List (List Key × V)), v = .ref a ∧ H a = some (.frz o (.dT ks)) ∧ VaAll K H (ks.map (·.2)) (ts.map (·.2)) ∧ ks.map (fun p => PyData.tuple (p.1.map kD)) = ts.map (fun p => PyData.tuple (p.1.map kD)) := by
  cases h with
  | @dtf a o ks ds kvs' h1 h2 h3 =>
    have hl : (ks.map fun p => PyData.tuple (p.1.map kD)).length = ds.length := by rw [List.length_map, ← h2.length, List.length_map]
    rw [zip_kv (fun k : List Key => PyData.tuple (k.map kD)) ts] at h3
    have hl2 : (ts.map fun p => PyData.tuple (p.1.map kD)).length = (ts.map (·.2)).length := by rw [List.length_map, List.length_map]
    have e1 := congrArg (List.map Prod.fst) h3
    have e2 := congrArg (List.map Prod.snd) h3
    rw [List.map_fst_zip (by omega), List.map_fst_zip (by omega)] at e1
    rw [List.map_snd_zip (by omega), List.map_snd_zip (by omega)] at e2
    exact ⟨a, o, ks, rfl, h1, e2 ▸ h2, e1.symm⟩
/-- the keys, tuples, of a locked dict -/
theorem it_fkeysT {ts : List (List Key × PyData)} (he : Ed X W Γ μ e (tkD ts)) : IterD X W Γ μ tg e (fun p : List Key × PyData => ktD (p.1.map kD)) ts :=
  ⟨_, pi_keys wE.pe, fun σ H R R' k => he σ H R _ fun v H1 R1 e1 r1 => by
    obtain ⟨a, o, ks, rfl, h1, h2, h3⟩ := tk_of r1
    have hl : ks.length = ts.length := by
      have := h2.length
      rw [List.length_map, List.length_map] at this
      exact this
    refine ⟨a, o, rfl, .inr ⟨ks, (off_some h1).2, k _ _ H1 rfl R1 e1 ⟨fun i H hi s => ⟨s a _ h1, by rw [List.length_map] at hi; omega⟩, fun i d H v H' L hd hL s y => ?_, fun H s => ⟨s a _ h1, by rw [List.length_map]; omega⟩⟩⟩⟩
    obtain ⟨rfl, key, u, q, hy, rfl, hq⟩ := y
    refine ⟨Same.refl _, ?_⟩
    rw [List.getElem?_map] at hd
    obtain ⟨p, hp, rfl⟩ := Option.map_eq_some_iff.mp hd
    have hk : key.map kD = p.1.map kD := by
      have e1 := congrArg (·[i]?) h3
      simp only [List.getElem?_map, hy, hp, Option.map_some] at e1
      exact PyData.tuple.inj (Option.some.inj e1)
    show Va X.K _ _ (ktD (p.1.map kD))
    rw [← hk]
    exact .ktp (by rw [off_out (fun z => (hL q z).2 _ hq)]; exact hq) (va_kVs key)⟩
end
theorem inK_kD (r : Lk) : (inK r).map kD = r.map sD := by
  unfold inK
  rw [List.map_map]
  rfl
section
variable {X : Cx} {W : Wd} {Γ : List DV} {μ : Mu} {tg e : Expr} {apos cpos : Pos} {L : Lv} {rs : List Lk}
/-- for told, lots in level.items() -/
theorem it_lvl {elts : List Expr} {kk : Nat} {tpos : Pos} (he : Ed X W Γ μ e (lvD L)) (hbase : attributeBase e "items" X.env (eval e X.env) = eval e X.env := by rfl) (hline : (apos.endLine == cpos.line) = true := by rfl) : IterD X W Γ μ (.Tuple elts kk tpos) (.Call (.Attribute e "items" apos) [] [] cpos) (fun q : List Nat × List Lk => pr2 (sD q.1) (tkD (setT q.2))) L :=
  IterV.unmap (f := lvE) (it_fitems he hbase hline) fun q => rfl
/-- for rest in lots -/
theorem it_lots (he : Ed X W Γ μ e (tkD (setT rs))) : IterD X W Γ μ tg e (fun r : Lk => ktD (r.map sD)) rs :=
  IterV.unmap (f := fun r : Lk => (inK r, PyData.bool true)) (it_fkeysT he) fun r => by
    show ktD ((inK r).map kD) = _
    rw [inK_kD]
end
/-! ### {row: {looks: True}} -/
def tDispT (tk tv : TE) : TE := fun σ H Q => ∀ p, H p = none → tk σ (upd H p (.dT [])) fun x H1 => tv σ H1 fun y H2 => ∃ (b : Addr) (ks : List Key), x = .ref b ∧ H2 p = some (.dT []) ∧ H2 b = some (.tup (ks.map kV)) ∧ Q (.ref p) (upd H2 p (.dT [(ks, y)]))
theorem pe_dispT {X : Cx} {pos : Pos} {k v : Expr} {tk tv : TE} (hu : X.A.units + 64 < cLine) (hk : PE X k tk) (hv : PE X v tv) : PE X (.Dict [some k] [v] pos) (tDispT tk tv) := by
  refine ⟨fun pins s σ H Q I q => ?_⟩
  have hn := I.hok.fresh (Nat.le_refl s.heap.objs.size)
  have I1 := I.laid (a := s.heap.objs.size) (o := .dT []) (h' := s.heap.push { cls := .type "dict", data := .dict #[] }) (t' := s.toks) (fun _ _ q => Heap.get?_push_of_some _ q) (Nat.le_refl _) (dt_empty s.heap I.big)
  rw [arm_eval_Dict, zip_pairTrees [some k] [v] X.env pos rfl rfl, dictDisplay_pairs (pairTrees [some k] [v] X.env pos) (by intro e; cases e) (by show 1 < 17; decide)]
  refine wpAny_bind (wpAny_standAt (wpAny_bind (wpAny_subDictH (knd := tupleKind (mixKind X.prog X.w)) (Q := fun d s' => wpAny (model X.prog X.w) X.A (pure (Value.ref d)) (EP X pins σ Q) X.xe s') (by show X.A.units < cLine; omega) (by show 1 ≤ 15; decide) ?_)))
  refine pairTrees_cons_walk (thn (hk.run pins _ σ _ _ I1 (q _ hn)) fun u s2 ⟨x, H1, I2, rx, q1⟩ => thn (hv.run pins s2 σ H1 _ I2 q1) fun w s3 ⟨y, H2, I3, ry, b, ks, ex, ep, eb, q2⟩ => pairTrees_nil_walk ?_)
  subst ex
  cases (show u = Value.ref b from rx)
  obtain ⟨z, hd, xs, rel, dd⟩ := dt_of I3.hok ep
  cases rel
  refine ⟨[(ks, b, w)], ⟨rfl, rfl, key_of I3.hok eb, trivial⟩, dd, fun h' tk dd' hs => wpAny_pure ⟨.ref s.heap.objs.size, _, ?_, rfl, q2⟩⟩
  obtain ⟨qo, es, ep', hq, h2, h3, h4, _, h5⟩ := dd'
  refine d_write (t' := tk) I3 (by rw [ep]; exact True.intro) hs ⟨qo, hq⟩ ⟨by show 1 ≤ sizeLine; decide, hd, _, (KT.put (H := H2) (kvs := []) (xs := []) .nil ks eb ry).keeps fun c ys ec => ?_, qo, es, ep', hq, h2, h3, h4, h5⟩
  rw [upd_ne (ne_of ec ep (fun z => nomatch z))]
  exact ec
section
variable {X : Cx} {W : Wd} {Γ : List DV} {e1 e2 : Expr} {rest : List Stmt} {D : Ends} {pos p p1 p2 pv : Pos} {n : Str} {g : List Nat} {r : Lk} {jv : Nat}
theorem run_newLv (i : Nat) (hu : X.A.units + 64 < cLine) (h1 : ∀ μ, Ed X W Γ μ e1 (sD g)) (h2 : ∀ μ, Ed X W Γ μ e2 (ktD (r.map sD))) (h : ∀ a μ', LaterIs a [(g, [r])] μ' → Run X W (Γ.set i (.r a)) μ' rest D) (nd : X.N.Nodup) (hN : X.N[i]? = some n := by rfl) (hx : Loc X.env.scope n := by first | exact Or.inl rfl | exact Or.inr rfl)
    (hs : swapsWith (.Dict [some e1] [.Dict [some e2] [.Constant (.bool true) jv pv] p2] p1) (some (.Name n p)) pos.line X.env = pure false := by rfl) (hf : X.fn n = true ∨ X.env.scope.names.lookup n = some .local := by first | exact .inr rfl | exact .inl rfl) :
    Run X W Γ [] (.Assign [.Name n p] (.Dict [some e1] [.Dict [some e2] [.Constant (.bool true) jv pv] p2] p1) pos :: rest) D := fun σ H R => by
  refine wSs_cons ((ps_set nd hN hx (pe_disp (pps_cons wE.pe (pe_dispT hu wE.pe pe_bl) pps_nil) rfl rfl (by simp) (Nat.le_add_left 1 14)) hs hf).w ?_)
  intro p hp
  have R1 := R.born (m := .dK []) (o := .dK []) hp ⟨[], upd_same, .nil⟩
  refine h1 _ σ _ R1 _ fun v H2 R2 x2 r2 => fun p' hp' => ?_
  cases r2
  have R3 := R2.born (m := .dT []) (o := .dT []) hp' ⟨[], upd_same, .nil⟩
  refine h2 _ σ _ R3 _ fun y H4 R4 x4 r4 => ?_
  cases r4 with
  | ktp ht hxs =>
    have exs := vaAll_inK hxs
    subst exs
    obtain ⟨ks', hk', hp2⟩ := (R4.mu (p', .dT []) List.mem_cons_self).2
    cases hp2
    refine ⟨_, inK r, rfl, hk', (off_some ht).2, ?_⟩
    have R5 := R4.chg (j := 0) (m' := .dT [(inK r, .bool true)]) rfl ⟨[(inK r, .bl true)], upd_same, .cons ⟨rfl, .bl true⟩ .nil⟩
    obtain ⟨ks2, hk2, hp3⟩ := (R5.mu (p, .dK []) (List.mem_cons_of_mem _ List.mem_cons_self)).2
    cases hp3
    refine ⟨hk2, [(Sum.inr (S g), .ref p')], rfl, Nat.le_add_left 1 14, ?_⟩
    have R6 := R5.chg (j := 1) (m' := .dK [(Sum.inr (S g), ptD p')]) rfl ⟨[(Sum.inr (S g), .ref p')], upd_same, .cons ⟨rfl, .ptr p'⟩ .nil⟩
    have R7 : Rep X.K W Γ (laterMu p [(g, [r])] [p']) σ (upd _ p (.dK [(Sum.inr (S g), .ref p')])) := R6.sub (fun x hx => by
      rcases List.mem_cons.mp hx with z | z
      · rw [z]
        exact List.mem_cons_of_mem _ List.mem_cons_self
      · rcases List.mem_cons.mp z with z | z
        · rw [z]
          exact List.mem_cons_self
        · cases z) fun nd => (List.Perm.swap p p' []).nodup_iff.mp nd
    exact h p _ ⟨[p'], rfl, rfl⟩ _ _ ⟨R7.wd, R7.fr, R7.sl.setr i, R7.mu, R7.nd⟩
end
/-! ### sorted(dict of texts) -/
theorem each_keys : ∀ {vs : List Value} {ks : List (List Nat)}, vs.length = ks.length → (∀ (j : Nat) (v : Value), vs[j]? = some v → ∃ t, ks[j]? = some t ∧ IsTx v t) → EachIs IsTx vs ks
  | [], [], _, _ => .nil
  | [], _ :: _, h, _ => by simp at h
  | _ :: _, [], h, _ => by simp at h
  | v :: vs, k :: ks, h, f => by
    obtain ⟨t, e, ht⟩ := f 0 v rfl
    have e : k = t := by simpa using e
    subst e
    exact .cons ht (each_keys (by simpa using h) fun j u hu => by simpa using f (j + 1) u (by simpa using hu))
theorem call_sortedDK {X : Cx} (hcalm : X.calm = true) (hu : X.A.units + 64 < cLine) : CallR X (.builtin "sorted") (fun xs H Q => ∃ (a : Addr) (kvs : List (Key × V)) (ks : List (List Nat)), xs = [.ref a] ∧ Rd H a (.dK kvs) ∧ kvs.map (·.1) = ks.map (fun t => Sum.inr (S t)) ∧ ks.Nodup ∧ ks.length ≤ 16777216 ∧
    ∀ p, H p = none → Q (.ref p) (upd H p (.lst (vS (sU ks))))) := by
  intro pins s σ H xs us Q I r q
  obtain ⟨a, kvs, ks, ex, hd, hks, hnd, hz, q⟩ := q
  subst ex
  obtain ⟨u, eu, rx⟩ := vals1 r
  subst eu
  cases rx
  obtain ⟨z, lo, vs, rel, dd⟩ := dk_rd I.hok hd
  obtain ⟨ep, hat⟩ := dd.dictAt
  have hkeys : vs.map (·.1) = ks.map (fun t => Sum.inr (S t)) := rel.keys.symm.trans hks
  have hl : vs.length = ks.length := by
    have e := congrArg List.length hkeys
    rw [List.length_map, List.length_map] at e
    exact e
  have h16 : vs.length ≤ sizeLine := by rw [hl, sizeLine_eq]; omega
  refine Calls.call_function_entry PyProof.Rows.kind_sorted PyProof.Rows.plain_sorted PyProof.Rows.entry_sorted (PyProof.Rows.args_sorted1 _) ?_
  unfold Builtin.«sorted»
  refine wpAny_bind (m := checkCount "sorted" 1 1 _) (wpAny_pure ?_)
  refine wpAny_bind (PySem.W.kdu_collect (A := X.A.in1) (PySem.W.kdl_dict (knd := mixKind X.prog X.w) (kvs := vs) (ep := ep) lo) (I.ok.hd hcalm) hat h16 fun h' tk acc hk hacc => ?_)
  have hal : acc.toList.length = ks.length := by rw [Array.length_toList, hacc.1, hl]
  have hS : EachIs IsTx acc.toList ks := each_keys hal fun j v e => by
    obtain ⟨k, x, e1, e2⟩ := hacc.2 j v (by rw [← Array.getElem?_toList]; exact e)
    have e3 : (vs.map (·.1))[j]? = some k := by rw [List.getElem?_map, e1]; all_goals rfl
    rw [hkeys, List.getElem?_map] at e3
    cases e4 : ks[j]? with
    | none => rw [e4] at e3; cases e3
    | some y =>
      rw [e4] at e3
      have e5 : Sum.inr (S y) = k := Option.some.inj e3
      subst e5
      obtain ⟨t, ev⟩ := Value.isStrOf_shape (x := S y) (v := v) e2
      exact ⟨y, rfl, t, ev⟩
  have I1 : Inv X pins σ H { s with heap := h', toks := tk } := I.kept hk
  refine wpAny_bind (wpAny_newList ?_ (by rw [hal, sizeLine_eq]; omega))
  have hoL : (h'.push (seqObj "list" acc.toList.toArray 0)).get? h'.objs.size = some (seqObj "list" acc.toList.toArray 0) := Heap.get?_push_size _ rfl
  refine wpAny_bind (wpAny_holding (PySem.W.list_sort_data (s := { s with heap := h'.push (seqObj "list" acc.toList.toArray 0), toks := tk }) (R := IsTx) (bs := ks) (enc := sD) hoL hS (hS.mono fun v b ⟨t, e⟩ => ⟨[], by rw [e]; exact .str _ _, by simp⟩) allS sortS (by rw [sizeLine_eq]; omega) (fun b hb => ?_) fun out hl eo => ?_))
  · show _ + 1 + 0 < cLine
    show X.A.in1.units + 1 + 0 < cLine
    have : X.A.in1.units = X.A.units + 1 := rfl
    omega
  obtain ⟨c, hc⟩ := PyProof.Rows.sortedHeap_at (vs := acc.toList) (out := out.toArray) hoL
  have eb : ks.mergeSort (dataLe false sD) = sU ks := by
    have e1 : (ks.mergeSort (dataLe false sD)).map sD = sortD (ks.map sD) := by
      unfold sortD
      rw [List.map_mergeSort]
      intro a _ b _
      rfl
    rw [sU_sortD ks (by rw [uq_nodup hnd])] at e1
    exact map_sD_inj e1
  rw [eb] at eo
  have hlen : (vS (sU ks)).length ≤ sizeLine := by
    rw [List.length_map, sU_len, uq_nodup hnd, sizeLine_eq]
    exact hz
  refine wpAny_pure ⟨_, rfl, .ref h'.objs.size, upd H h'.objs.size (.lst (vS (sU ks))), I1.laid (t' := tk) (fun b u e => ?_) (Nat.le_refl _)
    (show ObjOk X.prog X.w _ _ _ (.lst (vS (sU ks))) from ⟨hlen, out, c, vals_tx eo, hc⟩), rfl, q _ (I1.hok.fresh (Nat.le_refl _))⟩
  have hb : b < h'.objs.size := Heap.lt_size e
  rw [PyProof.Rows.sortedHeap_old (Nat.ne_of_lt hb) (by rw [size_push']; exact Nat.lt_succ_of_lt hb)]
  exact Heap.get?_push_of_some _ e
section
variable {X : Cx} {W : Wd} {Γ : List DV} {μ : Mu} {e : Expr} {pos p : Pos} {L : Lv}
theorem lv_keys {K : PySem.W.Frag} {H : Hp} {v : V} (h : Va K H v (lvD L)) : ∃ (a : Addr) (o : Obj) (ks : List (Key × V)), v = .ref a ∧ H a = some (.frz o (.dK ks)) ∧ ks.map (·.1) = (L.map (·.1)).map fun t => Sum.inr (S t) := by
  obtain ⟨a, o, ks, h1, h2, h3, h4⟩ := fk_of h
  refine ⟨a, o, ks, h1, h2, ?_⟩
  have z : ∀ {as bs : List Key}, as.map kD = bs.map kD → as = bs := by
    intro as
    induction as with
    | nil => intro bs e; cases bs with
      | nil => rfl
      | cons => simp at e
    | cons x as ih => intro bs e; cases bs with
      | nil => simp at e
      | cons y bs =>
        rw [List.map_cons, List.map_cons] at e
        obtain ⟨e1, e2⟩ := List.cons.inj e
        rw [ih e2]
        congr 1
        cases x <;> cases y <;> first | (cases e1; rfl) | exact nomatch e1
  refine z ?_
  rw [List.map_map, List.map_map, List.map_map]
  have e4 := h4
  rw [List.map_map] at e4
  exact e4
/-- sorted(e), e gives the dict of dicts -/
theorem ed_sortLv (he : Ed X W Γ μ e (lvD L)) (hnd : (L.map (·.1)).Nodup) (hl : L.length ≤ 16777216) (hm : X.mg "sorted" = none) (hu : X.A.units + 64 < cLine) (hc : X.calm = true := by rfl) (hg : Gl X "sorted" := by rfl)
    (na : starEach [e] X.env = (false, eval e X.env) :: starEach [] X.env := by rfl) (hpl : (backTo pos (starEach [] X.env)).any (·.1) = false := by rfl) : Ed X W Γ μ (.Call (.Name "sorted" p) [e] [] pos) (wD (sU (L.map (·.1)))) := fun σ H R Q k => by
  refine (pe_callB (call_sortedDK hc hu) hg hm boot_sorted (pa_cons wE.pe pa_nil na) (by decide) (by decide) na hpl).w (he σ H R _ fun v H2 R2 e2 r2 => ?_)
  obtain ⟨a, o, ks, rfl, h2, h3⟩ := lv_keys r2
  refine ⟨a, ks, L.map (·.1), rfl, .inr ⟨o, (off_some h2).2⟩, h3, hnd, by rw [List.length_map]; exact hl, fun pp hp => ?_⟩
  have sm := same_new (o := HO.lst (vS (sU (L.map (·.1))))) hp
  exact k _ _ (R2.same sm) (e2.trans (XT.same sm)) (.lst (off_upd (new_out R2.ne hp)) (vaAll_vS _))
end
/-! ### sorted(texts), a list or a tuple -/
theorem sort_sortW (ws : Lk) : ws.mergeSort (dataLe false sD) = sortW ws := by
  unfold sortW
  congr 1
  funext a b
  show (!dataLt (sD b) (sD a)) = decide (a ≤ b)
  rw [ltS]
  by_cases h : a ≤ b
  · rw [decide_eq_true h, decide_eq_false (fun q : b < a => absurd q (List.not_lt.mpr h))]
    rfl
  · rw [decide_eq_false h, decide_eq_true (List.not_le.mp h)]
    rfl
theorem call_sortedSq {X : Cx} (hu : X.A.units + 64 < cLine) : CallR X (.builtin "sorted") (fun xs H Q => ∃ (a : Addr) (ws : List (List Nat)), xs = [.ref a] ∧ (SqL X.K H a (vS ws) ∨ SqT X.K H a (vS ws)) ∧ ws.length ≤ 16777216 ∧ ∀ p, H p = none → Q (.ref p) (upd H p (.lst (vS (sortW ws))))) := by
  intro pins s σ H xs us Q I r q
  obtain ⟨a, ws, ex, hd, hz, q⟩ := q
  subst ex
  obtain ⟨u, eu, rx⟩ := vals1 r
  subst eu
  cases rx
  obtain ⟨its, T, o, n, rv, hT, ho, hc, hdt, hits⟩ : ∃ (its : List Value) (T : String) (o : Obj) (n : Nat), Vals (vS ws) its ∧ (T = "list" ∨ T = "tuple") ∧ s.heap.get? a = some o ∧ o.cls = .type T ∧ o.data = .seq its.toArray n ∧ its.length ≤ sizeLine := by
    rcases hd with hd | hd
    · obtain ⟨its, rv, pl, hz⟩ := I.list hd
      obtain ⟨o, n, ho, hc, _, hdt⟩ := pl
      exact ⟨its, "list", o, n, rv, .inl rfl, ho, hc, hdt, by rw [← rv.length]; exact hz⟩
    · obtain ⟨its, rv, pl, hz⟩ := I.tuple hd
      obtain ⟨o, ho, hc, n, hdt⟩ := pl
      exact ⟨its, "tuple", o, n, rv, .inr rfl, ho, hc, hdt, by rw [← rv.length]; exact hz⟩
  have hS : EachIs IsTx its ws := each_keys (by rw [← rv.length, List.length_map]) fun j v e => by
    have hj : j < ws.length := by
      have := (List.getElem?_eq_some_iff.mp e).1
      rw [← rv.length, List.length_map] at this
      exact this
    have hw : ws[j]? = some ws[j] := List.getElem?_eq_getElem hj
    have hx : (vS ws)[j]? = some (.str (S ws[j])) := by rw [List.getElem?_map, hw]; rfl
    obtain ⟨u, hu, ru⟩ := rv.get hx
    rw [e] at hu
    cases hu
    exact ⟨ws[j], hw, ru⟩
  refine Calls.call_function_entry PyProof.Rows.kind_sorted PyProof.Rows.plain_sorted PyProof.Rows.entry_sorted (PyProof.Rows.args_sorted1 _) ?_
  unfold Builtin.«sorted»
  refine wpAny_bind (m := checkCount "sorted" 1 1 _) (wpAny_pure ?_)
  refine wpAny_bind (wpAny_collect_seq (A := X.A.in1) a hT ho hc hdt (fun h' hk => ?_) (by rw [List.size_toArray]; exact hits))
  have I1 : Inv X pins σ H { s with heap := h' } := I.kept (t' := s.toks) hk
  refine wpAny_bind (wpAny_newList ?_ (by show its.toArray.toList.length ≤ _; simpa using hits))
  have hoL : (h'.push (seqObj "list" its.toArray.toList.toArray 0)).get? h'.objs.size = some (seqObj "list" its.toArray.toList.toArray 0) := Heap.get?_push_size _ rfl
  refine wpAny_bind (wpAny_holding (PySem.W.list_sort_data (s := { s with heap := h'.push (seqObj "list" its.toArray.toList.toArray 0) }) (R := IsTx) (bs := ws) (enc := sD) hoL hS (hS.mono fun v b ⟨t, e⟩ => ⟨[], by rw [e]; exact .str _ _, by simp⟩) allS sortS (by rw [sizeLine_eq]; omega) (fun b hb => ?_) fun out hl eo => ?_))
  · show _ + 1 + 0 < cLine
    show X.A.in1.units + 1 + 0 < cLine
    have : X.A.in1.units = X.A.units + 1 := rfl
    omega
  obtain ⟨c, hc⟩ := PyProof.Rows.sortedHeap_at (vs := its.toArray.toList) (out := out.toArray) hoL
  rw [sort_sortW] at eo
  have hlen : (vS (sortW ws)).length ≤ sizeLine := by
    rw [List.length_map, (sortW_perm ws).length_eq, sizeLine_eq]
    exact hz
  refine wpAny_pure ⟨_, rfl, .ref h'.objs.size, upd H h'.objs.size (.lst (vS (sortW ws))), I1.laid (t' := s.toks) (fun b u e => ?_) (Nat.le_refl _)
    (show ObjOk X.prog X.w _ _ _ (.lst (vS (sortW ws))) from ⟨hlen, out, c, vals_tx eo, hc⟩), rfl, q _ (I1.hok.fresh (Nat.le_refl _))⟩
  have hb : b < h'.objs.size := Heap.lt_size e
  rw [PyProof.Rows.sortedHeap_old (Nat.ne_of_lt hb) (by rw [size_push']; exact Nat.lt_succ_of_lt hb)]
  exact Heap.get?_push_of_some _ e
section
variable {X : Cx} {W : Wd} {Γ : List DV} {μ : Mu} {e : Expr} {pos p : Pos} {ws : List (List Nat)} {t : Bool}
theorem ed_sortSq (he : Ed X W Γ μ e (seqD t (ws.map sD))) (hl : ws.length ≤ 16777216) (hm : X.mg "sorted" = none) (hu : X.A.units + 64 < cLine) (hg : Gl X "sorted" := by rfl)
    (na : starEach [e] X.env = (false, eval e X.env) :: starEach [] X.env := by rfl) (hpl : (backTo pos (starEach [] X.env)).any (·.1) = false := by rfl) : Ed X W Γ μ (.Call (.Name "sorted" p) [e] [] pos) (wD (sortW ws)) := fun σ H R Q k => by
  refine (pe_callB (call_sortedSq hu) hg hm boot_sorted (pa_cons wE.pe pa_nil na) (by decide) (by decide) na hpl).w (he σ H R _ fun v H2 R2 e2 r2 => ?_)
  have hx : ∀ {xs : List V}, VaAll X.K (off (hd W μ) H2) xs (ws.map sD) → xs = vS ws := fun h => by
    rw [vaAll_S (ws := ws) h, List.map_map]
    rfl
  have fin : ∀ a, v = .ref a → (SqL X.K H2 a (vS ws) ∨ SqT X.K H2 a (vS ws)) → ∃ (a : Addr) (ws' : List (List Nat)), [v] = [V.ref a] ∧ (SqL X.K H2 a (vS ws') ∨ SqT X.K H2 a (vS ws')) ∧ ws'.length ≤ 16777216 ∧ ∀ p, H2 p = none → Q (.ref p) (upd H2 p (.lst (vS (sortW ws')))) := fun a ea h => by
    subst ea
    refine ⟨a, ws, rfl, h, hl, fun pp hp => ?_⟩
    have sm := same_new (o := HO.lst (vS (sortW ws))) hp
    exact k _ _ (R2.same sm) (e2.trans (XT.same sm)) (.lst (off_upd (new_out R2.ne hp)) (vaAll_vS _))
  cases t with
  | true =>
    cases r2 with
    | tup ha hv =>
      obtain rfl := hx hv
      exact fin _ rfl (.inr (SqT.up same_off ha))
  | false =>
    cases r2 with
    | lst ha hv =>
      obtain rfl := hx hv
      exact fin _ rfl (.inl (SqL.of (off_some ha).2))
end
end HW
set_option maxHeartbeats 4000000
namespace HW
open PySem PySem.Spec PyProof.Rows L2
open SX (S)
open PySem.W (dataLt AlikeAll AllAlike Sortable EachIs dataLe alike)
/-! ### list(text) -/
theorem call_listS {X : Cx} (hc : X.calm = true) : CallR X (.type "list") (fun xs H Q => ∃ l : List Nat, xs = [.str (S l)] ∧ l.length ≤ 16777216 ∧ ∀ q, H q = none → Q (.ref q) (upd H q (.lst (l.map fun c => V.str ⟨#[c]⟩)))) := by
  intro pins s σ H xs us Q I r h
  obtain ⟨l, rfl, hz, q⟩ := h
  obtain ⟨u, rfl, rx⟩ := vals1 r
  obtain ⟨t, rfl⟩ := rx
  have hsz : (S l).cps.size = l.length := by simp [S]
  refine call_list_str (hn := by rw [hsz, sizeLine_eq]; exact hz) (I.ok.hd hc) (S l) t fun h' tk acc c' hk e hi => ?_
  refine ⟨.ref s.heap.objs.size, upd H s.heap.objs.size (.lst (l.map fun c => V.str ⟨#[c]⟩)), I.laid hk (Nat.le_refl _) ⟨by rw [List.length_map, sizeLine_eq]; exact hz, acc.toList, c', ?_, by rw [Array.toArray_toList]; exact e⟩, rfl, q _ (I.hok.fresh (Nat.le_refl _))⟩
  refine vals_of_idx _ _ (by rw [List.length_map, Array.length_toList, hi.1, hsz]) fun j u hj => ?_
  obtain ⟨c, t', hc, rfl⟩ := hi.2 j u (by rw [← Array.getElem?_toList]; exact hj)
  have hc' : l[j]? = some c := by simpa [S] using hc
  exact ⟨.str ⟨#[c]⟩, by rw [List.getElem?_map, hc']; rfl, ⟨_, rfl⟩⟩
theorem c_listS {X : Cx} {l : List Nat} (hl : l.length ≤ 16777216) (hc : X.calm = true := by rfl) : CallD X (.type "list") [sD l] (gL l) := CallR.to (call_listS hc) fun vs H Q ⟨L, hL, hv, k⟩ => by
  cases hv with
  | cons h1 h2 =>
    cases h2
    cases h1
    exact ⟨l, rfl, hl, fun q hq => k _ _ (same_new hq) (.lst (off_upd (new_out hL hq)) (va_signs l))⟩
/-! ### turns whose local objects are known by a fact -/
def SttM (K : PySem.W.Frag) (W : Wd) (Γ' : List DV) (Φ : Mu → Prop) : L2.St → Hp → Prop := StP K W (fun Γ μ => wk Γ Γ' ∧ Φ μ)
section
variable {X : Cx} {W : Wd} {Γ Γ' : List DV} {μ : Mu} {α : Type} {iter : Expr} {body rest : List Stmt} {pos p : Pos} {enc : α → PyData} {D : Ends} {n : Str}
theorem run_eM {Φ : Mu → Prop} {rt : VK} {bk ct : L2.St → Hp → Prop} (h : Φ μ) (w : wk Γ Γ' := by repeat (first | exact wk_n | refine wk_s ?_ | refine wk_0 ?_)) : Run X W Γ μ [] ⟨SttM X.K W Γ' Φ, rt, bk, ct⟩ := run_turn rfl ⟨w, h⟩
theorem run_forM {xs : List α} (k : Nat) (hi : IterD X W Γ μ (.Name n p) iter enc xs) (Γ0 : Nat → List DV) (Φ : Nat → Mu → Prop) (h0 : Φ 0 μ)
    (hs : ∀ W1, Wle W W1 → ∀ i x, xs[i]? = some x → ∀ μ', Φ i μ' → Run X W1 ((Γ0 i).set k (.d (enc x))) μ' body { D with nx := SttM X.K W1 (Γ0 (i + 1)) (Φ (i + 1)), ct := SttM X.K W1 (Γ0 (i + 1)) (Φ (i + 1)), bk := wSs X rest D })
    (hd' : ∀ μ', Φ xs.length μ' → Run X W (Γ0 xs.length) μ' rest D) (hN : X.N.Nodup) (w : wk Γ (Γ0 0) := by repeat (first | exact wk_n | refine wk_s ?_ | refine wk_0 ?_)) (hn : X.N[k]? = some n := by rfl) (hx : Loc X.env.scope n := by first | exact Or.inl rfl | exact Or.inr rfl) (hff : X.fn n = true ∨ X.env.scope.names.lookup n = some .local := by first | exact .inr rfl | exact .inl rfl)
    (hp : PassesOwn (model X.prog X.w) X.A X.env X.xe := by exact PassesOwn.never) (hc : X.calm = true := by rfl) (hf : ∀ x, foldedSetIterable iter X.env x = pure x := by intro _; rfl) :
    Run X W Γ μ (.For (.Name n p) iter body [] pos :: rest) D :=
  run_for k hi (fun i Γ μ => wk Γ (Γ0 i) ∧ Φ i μ) ⟨w, h0⟩ (fun W1 l i x Γ' μ' h ⟨w', q⟩ => run_weak (hs W1 l i x h μ' q) (run_forS.wk_set w' k)) (fun Γ' μ' ⟨w', q⟩ => run_weak (hd' μ' q) w') hN hn hx hff hp hc hf
theorem run_for2M {xs : List α} {n1 n2 : Str} {p1 p2 tpos : Pos} {kk : Nat} {e1 e2 : α → PyData} (k1 k2 : Nat) (hi : IterD X W Γ μ (.Tuple [.Name n1 p1, .Name n2 p2] kk tpos) iter (fun x => pr2 (e1 x) (e2 x)) xs) (Γ0 : Nat → List DV) (Φ : Nat → Mu → Prop) (h0 : Φ 0 μ)
    (hs : ∀ W1, Wle W W1 → ∀ i x, xs[i]? = some x → ∀ μ', Φ i μ' → Run X W1 (((Γ0 i).set k1 (.d (e1 x))).set k2 (.d (e2 x))) μ' body { D with nx := SttM X.K W1 (Γ0 (i + 1)) (Φ (i + 1)), ct := SttM X.K W1 (Γ0 (i + 1)) (Φ (i + 1)), bk := wSs X rest D })
    (hd' : ∀ μ', Φ xs.length μ' → Run X W (Γ0 xs.length) μ' rest D) (hN : X.N.Nodup) (w : wk Γ (Γ0 0) := by repeat (first | exact wk_n | refine wk_s ?_ | refine wk_0 ?_)) (hn1 : X.N[k1]? = some n1 := by rfl) (hn2 : X.N[k2]? = some n2 := by rfl) (hx1 : Loc X.env.scope n1 := by first | exact Or.inl rfl | exact Or.inr rfl) (hx2 : Loc X.env.scope n2 := by first | exact Or.inl rfl | exact Or.inr rfl)
    (hf1 : X.fn n1 = true ∨ X.env.scope.names.lookup n1 = some .local := by first | exact .inr rfl | exact .inl rfl) (hf2 : X.fn n2 = true ∨ X.env.scope.names.lookup n2 = some .local := by first | exact .inr rfl | exact .inl rfl)
    (hp : PassesOwn (model X.prog X.w) X.A X.env X.xe := by exact PassesOwn.never) (hc : X.calm = true := by rfl) (hf : ∀ x, foldedSetIterable iter X.env x = pure x := by intro _; rfl) :
    Run X W Γ μ (.For (.Tuple [.Name n1 p1, .Name n2 p2] kk tpos) iter body [] pos :: rest) D :=
  run_for2 k1 k2 hi (fun i Γ μ => wk Γ (Γ0 i) ∧ Φ i μ) ⟨w, h0⟩ (fun W1 l i x Γ' μ' h ⟨w', q⟩ => run_weak (hs W1 l i x h μ' q) (run_forS.wk_set (run_forS.wk_set w' k1) k2)) (fun Γ' μ' ⟨w', q⟩ => run_weak (hd' μ' q) w') hN hn1 hn2 hx1 hx2 hf1 hf2 hp hc hf
end
/-! ### how many, on the way -/
theorem num_mono_add {L : Lv} {g : List Nat} {r : Lk} : numL L ≤ numL (addL L g r) := by
  unfold addL numL
  split
  · rename_i hg
    clear hg
    induction L with
    | nil => simp
    | cons q L ih =>
      rw [List.map_cons, List.sum_cons, List.map_cons, List.map_cons, List.sum_cons]
      have h1 : q.2.length ≤ (if q.1 = g then (q.1, addT q.2 r) else q).2.length := by
        split
        · show q.2.length ≤ (addT q.2 r).length
          unfold addT
          split <;> simp
        · exact Nat.le_refl _
      omega
  · rw [List.map_append, List.sum_append]
    omega
theorem num_mono_step {m : List Nat} {p : Nat} {told : List Nat} {rest : Lk} (L : Lv) (i : Nat) : numL L ≤ numL (stepL m p told rest L i) := by
  unfold stepL
  cases laidL m told p (rest.getD i []) with
  | none => exact Nat.le_refl _
  | some g =>
    show _ ≤ numL (if _ then _ else _)
    split
    · exact num_mono_add
    · exact Nat.le_refl _
theorem mono_fold {α : Type} {st : Lv → α → Lv} (h : ∀ L a, numL L ≤ numL (st L a)) : ∀ (l : List α) (L : Lv), numL L ≤ numL (l.foldl st L)
  | [], L => Nat.le_refl _
  | a :: l, L => by
    rw [List.foldl_cons]
    exact Nat.le_trans (h L a) (mono_fold h l _)
theorem mono_take {α : Type} {st : Lv → α → Lv} (h : ∀ L a, numL L ≤ numL (st L a)) (l : List α) (j : Nat) (L : Lv) : numL ((l.take j).foldl st L) ≤ numL (l.foldl st L) := by
  conv => rhs; rw [← List.take_append_drop j l, List.foldl_append]
  exact mono_fold h _ _
theorem fold_succ {α β : Type} {st : β → α → β} {l : List α} {j : Nat} {x : α} (hx : l[j]? = some x) (b : β) : (l.take (j + 1)).foldl st b = st ((l.take j).foldl st b) x := by
  rw [List.take_add_one, hx, List.foldl_append]
  rfl
theorem num_mono_rest {m : List Nat} {p : Nat} {told : List Nat} (L : Lv) (r : Lk) : numL L ≤ numL (restL m p told L r) := mono_fold num_mono_step _ _
theorem num_mono_told {m : List Nat} {p : Nat} (L : Lv) (q : List Nat × List Lk) : numL L ≤ numL (toldL m p L q) := mono_fold num_mono_rest _ _
theorem PartOk.in_len {L : Lv} {c : Nat} (h : PartOk L c) : ∀ q ∈ L, q.2.length ≤ c := fun q hq => by
  refine Nat.le_trans ?_ h.num
  unfold numL
  clear h
  induction L with
  | nil => cases hq
  | cons x L ih =>
    rw [List.map_cons, List.sum_cons]
    rcases List.mem_cons.mp hq with e | hq
    · rw [e]; omega
    · have := ih hq
      omega
theorem PartOk.mono {L : Lv} {c d : Nat} (h : PartOk L c) (l : c ≤ d) : PartOk L d := ⟨h.nd, h.full, Nat.le_trans h.num l⟩
theorem part_ok {m : List Nat} {vs : Lk} (h7 : vs.length ≤ 7) {p : Nat} (hp : p < vs.length) {j j' : Nat} {q : List Nat × List Lk} {rest : Lk} (hq : (lvlL m vs p)[j]? = some q) (hr : q.2[j']? = some rest) (k : Nat) :
    PartOk (((List.range rest.length).take k).foldl (stepL m p q.1 rest) ((q.2.take j').foldl (restL m p q.1) (((lvlL m vs p).take j).foldl (toldL m p) []))) 823543 := by
  have nd0 : ((((lvlL m vs p).take j).foldl (toldL m p) []).map (·.1)).Nodup := inv_fold (I := fun L : Lv => (L.map (·.1)).Nodup) (fun _ _ _ h => inv_fold (I := fun L : Lv => (L.map (·.1)).Nodup) (fun _ _ _ h => inv_fold (I := fun L : Lv => (L.map (·.1)).Nodup) (fun _ _ _ h => inv_step (I := fun L : Lv => (L.map (·.1)).Nodup) (fun L g r h => nd_add h) h) h) h) (by simp)
  have fl0 : fullL (((lvlL m vs p).take j).foldl (toldL m p) []) := inv_fold (I := fullL) (fun _ _ _ h => inv_fold (I := fullL) (fun _ _ _ h => inv_fold (I := fullL) (fun _ _ _ h => inv_step (I := fullL) (fun L g r h => full_add h) h) h) h) (fun q hq => nomatch hq)
  refine ⟨?_, ?_, ?_⟩
  · exact inv_fold (I := fun L : Lv => (L.map (·.1)).Nodup) (fun _ _ _ h => inv_step (I := fun L : Lv => (L.map (·.1)).Nodup) (fun L g r h => nd_add h) h) (inv_fold (I := fun L : Lv => (L.map (·.1)).Nodup) (fun _ _ _ h => inv_fold (I := fun L : Lv => (L.map (·.1)).Nodup) (fun _ _ _ h => inv_step (I := fun L : Lv => (L.map (·.1)).Nodup) (fun L g r h => nd_add h) h) h) nd0)
  · exact inv_fold (I := fullL) (fun _ _ _ h => inv_step (I := fullL) (fun L g r h => full_add h) h) (inv_fold (I := fullL) (fun _ _ _ h => inv_fold (I := fullL) (fun _ _ _ h => inv_step (I := fullL) (fun L g r h => full_add h) h) h) fl0)
  · refine Nat.le_trans (mono_take num_mono_step _ _ _) ?_
    show numL (restL m p q.1 _ rest) ≤ _
    rw [← fold_succ (st := restL m p q.1) hr]
    refine Nat.le_trans (mono_take num_mono_rest _ _ _) ?_
    show numL (toldL m p _ q) ≤ _
    rw [← fold_succ (st := toldL m p) hq]
    refine Nat.le_trans (mono_take num_mono_told _ _ _) ?_
    show numL (lvlL m vs (p + 1)) ≤ _
    refine Nat.le_trans (num_lvl m vs h7 (p + 1)) ?_
    exact Nat.le_trans (Nat.pow_le_pow_right (by decide) (show p + 1 ≤ 7 by omega)) (by decide)
theorem lvl_ok {m : List Nat} {vs : Lk} (h7 : vs.length ≤ 7) {p : Nat} (hp : p ≤ vs.length) : PartOk (lvlL m vs p) 823543 := ⟨nd_lvl m vs p, full_lvl m vs p, Nat.le_trans (num_lvl m vs h7 p) (Nat.le_trans (Nat.pow_le_pow_right (by decide) (show p ≤ 7 by omega)) (by decide))⟩
theorem lvl_told {m : List Nat} {vs : Lk} {p : Nat} : ∀ q ∈ lvlL m vs p, q.1.length = m.length + vs.length - 1 ∧ ∀ rest ∈ q.2, rest.length ≤ vs.length ∧ ∀ v ∈ rest, v ∈ vs := by
  intro q hq
  have key : ∀ rest ∈ q.2, q.1.length = m.length + vs.length - 1 ∧ rest.length ≤ vs.length ∧ ∀ v ∈ rest, v ∈ vs := fun rest hr => by
    obtain ⟨us, hl, hp, hs, hc⟩ := (lvl_iff m vs p q.1 rest).mp ⟨q, hq, rfl, hr⟩
    have h1 := clash_len (m := m) us 0 (List.replicate (m.length + vs.length - 1) 63)
    rw [hc, List.length_replicate] at h1
    have h2 := hp.length_eq
    rw [List.length_append] at h2
    exact ⟨h1, by omega, fun v hv => hp.mem_iff.mp (List.mem_append_right _ hv)⟩
  obtain ⟨r, hr⟩ := List.exists_mem_of_ne_nil _ (full_lvl m vs p q hq)
  exact ⟨(key r hr).1, fun rest hr => (key rest hr).2⟩
def stepO (rest : Lk) (v : List Nat) (i : Nat) (L : Lv) : Option (List Nat) → Lv
  | none => L
  | some g => if i = 0 ∨ rest.getD (i - 1) [] ≠ v then addL L g (rest.take i ++ rest.drop (i + 1)) else L
theorem stepL_eq {m : List Nat} {p : Nat} {told : List Nat} {rest : Lk} {L : Lv} {i : Nat} {v : List Nat} (h : rest.getD i [] = v) : stepL m p told rest L i = stepO rest v i L (laidL m told p v) := by
  unfold stepL
  rw [h]
  cases laidL m told p v <;> rfl
/-! ### the words of law 17 -/
def R_orders_of (ds : List PyData) (d : PyData) : Prop := ∃ (m : List Nat) (t : Bool) (vs : List (List Nat)), ds = [sD m, seqD t (vs.map sD)] ∧ maskB m = true ∧ 1 ≤ vs.length ∧ vs.length ≤ 7 ∧ (∀ v ∈ vs, lookB m v = true) ∧ d = lvD (lvlL m vs vs.length)
def rowsF (m : List Nat) (vs : Lk) : List (List Nat) := sU (ordsL m vs)
def R_rows_from (ds : List PyData) (d : PyData) : Prop := ∃ (m : List Nat) (t : Bool) (vs : List (List Nat)), ds = [sD m, seqD t (vs.map sD)] ∧ maskB m = true ∧ 1 ≤ vs.length ∧ vs.length ≤ 7 ∧ (∀ v ∈ vs, lookB m v = true) ∧ d = wD (rowsF m vs)
def R_sure_from (ds : List PyData) (d : PyData) : Prop := ∃ (m : List Nat) (t : Bool) (vs : List (List Nat)), ds = [sD m, seqD t (vs.map sD)] ∧ maskB m = true ∧ 1 ≤ vs.length ∧ vs.length ≤ 7 ∧ (∀ v ∈ vs, lookB m v = true) ∧ d = sureD (rowsF m vs) (m.length + vs.length - 1)
/-! ### what rows agree in -/
theorem mem_rowsF {m : List Nat} {vs : Lk} {g : List Nat} : g ∈ rowsF m vs ↔ ∃ us : Lk, us.Perm vs ∧ clashL m us = (g, none) := mem_sU.trans mem_ords
theorem rowsF_ok {m : List Nat} {vs : Lk} (hv : ∀ v ∈ vs, lookB m v = true) : ∀ r ∈ rowsF m vs, r.length = m.length + vs.length - 1 ∧ lkS r := by
  intro r hr
  obtain ⟨us, hp, hc⟩ := mem_rowsF.mp hr
  unfold clashL at hc
  have h1 := clash_len (m := m) us 0 (List.replicate (m.length + us.length - 1) 63)
  have h2 := clash_signs (m := m) us 0 (List.replicate (m.length + us.length - 1) 63) (fun v hv' => (lookB_iff.mp (hv v (hp.mem_iff.mp hv'))).2) (fun c hc => .inl (List.eq_of_mem_replicate hc))
  rw [hc] at h1 h2
  rw [List.length_replicate, hp.length_eq] at h1
  exact ⟨h1, h2⟩
theorem rowsF_len {m : List Nat} {vs : Lk} (h7 : vs.length ≤ 7) : (rowsF m vs).length ≤ 823543 := by
  unfold rowsF
  rw [sU_len]
  refine Nat.le_trans (uq_le (us := ordsL m vs) fun w hw => hw) ?_
  unfold ordsL
  rw [List.length_map]
  exact (lvl_ok h7 (Nat.le_refl _)).len
theorem one_all {r : List Nat} {rs : List (List Nat)} {a : Nat} : oneW (colL (r :: rs) a) = if (r :: rs).all (fun x => decide (x.getD a 0 = r.getD a 0)) = true then [r.getD a 0] else [63] := by
  have hm : ∀ w, w ∈ colL (r :: rs) a ↔ ∃ x ∈ r :: rs, [x.getD a 0] = w := fun w => mem_sU.trans List.mem_map
  have hlt := sU_lt ((r :: rs).map fun x => [x.getD a 0])
  change (colL (r :: rs) a).Pairwise (· < ·) at hlt
  by_cases h : (r :: rs).all (fun x => decide (x.getD a 0 = r.getD a 0)) = true
  · rw [if_pos h]
    have h2 : ∀ w ∈ colL (r :: rs) a, w = [r.getD a 0] := fun w hw => by
      obtain ⟨x, hx, e⟩ := (hm w).mp hw
      rw [← e, of_decide_eq_true (List.all_eq_true.mp h x hx)]
    have h3 : [r.getD a 0] ∈ colL (r :: rs) a := (hm _).mpr ⟨r, List.mem_cons_self, rfl⟩
    revert hlt h2 h3
    generalize colL (r :: rs) a = ws
    intro hlt h2 h3
    cases ws with
    | nil => cases h3
    | cons u us => cases us with
      | nil =>
        rw [h2 u List.mem_cons_self]
        rfl
      | cons u2 us =>
        exfalso
        have e1 := h2 u List.mem_cons_self
        have e2 := h2 u2 (List.mem_cons_of_mem _ List.mem_cons_self)
        have := (List.pairwise_cons.mp hlt).1 u2 List.mem_cons_self
        rw [e1, e2] at this
        exact List.lt_irrefl _ this
  · rw [if_neg h]
    unfold oneW
    rw [if_neg]
    intro h1
    apply h
    rw [List.all_eq_true]
    intro x hx
    have h3 : [r.getD a 0] ∈ colL (r :: rs) a := (hm _).mpr ⟨r, List.mem_cons_self, rfl⟩
    have h4 : [x.getD a 0] ∈ colL (r :: rs) a := (hm _).mpr ⟨x, hx, rfl⟩
    revert h1 h3 h4
    generalize colL (r :: rs) a = ws
    intro h1 h3 h4
    match ws, h1 with
    | [u], _ =>
      have e1 := List.mem_singleton.mp h3
      have e2 := List.mem_singleton.mp h4
      rw [← e1] at e2
      exact decide_eq_true (List.cons.inj e2).1
theorem lt_uniq {a b : List (List Nat)} (ha : a.Pairwise (· < ·)) (hb : b.Pairwise (· < ·)) (h : ∀ x, x ∈ a ↔ x ∈ b) : a = b := by
  have na : a.Nodup := ha.imp (S := fun a b => a ≠ b) fun {a b} (q : a < b) (e : a = b) => List.lt_irrefl b (by rw [e] at q; exact q)
  have nb : b.Nodup := hb.imp (S := fun a b => a ≠ b) fun {a b} (q : a < b) (e : a = b) => List.lt_irrefl b (by rw [e] at q; exact q)
  have hl : a.length = b.length := Nat.le_antisymm (by
      have := uq_le (ws := a) (us := b) fun x hx => (h x).mp hx
      rwa [uq_nodup na] at this) (by
      have := uq_le (ws := b) (us := a) fun x hx => (h x).mpr hx
      rwa [uq_nodup nb] at this)
  have hp : a.Perm b := perm_of_len nb (fun x hx => (h x).mpr hx) hl
  exact le_uniq hp (ha.imp fun {a b} q => List.le_of_lt q) (hb.imp fun {a b} q => List.le_of_lt q)
/-- the rows by all orders are those that are told -/
theorem due_rows (m : List Nat) (vs : Lk) : sU (dueL m vs) = rowsF m vs := lt_uniq (sU_lt _) (sU_lt _) fun x => by
  rw [mem_sU, rowsF, mem_sU]
  exact due_ords m vs x
/-! ### the law's dict -/
section
variable {X : Cx} {W : Wd} {Γ : List DV} {μ : Mu} {pos p p2 : Pos} {n : Str} {a : Addr} {ws : List (List Nat)}
end
end HW
set_option maxHeartbeats 4000000
namespace HW
open PySem PySem.Spec PyProof.Rows L2
open SX (S)
/-! ### law 24's words -/
def turnC (b c : Nat) : Nat := if c ∈ [97, 98, 99, 100] then turnL b c else c
def turnW (b : Nat) (l : List Nat) : List Nat := l.map (turnC b)
def R_turned (ds : List PyData) (d : PyData) : Prop := ∃ (l : List Nat) (b : Nat), ds = [sD l, nn b] ∧ b < 4 ∧ l.length ≤ 1000 ∧ d = sD (turnW b l)
def R_by (ds : List PyData) (d : PyData) : Prop := ∃ b : Nat, ds = [nn b] ∧ b < 4 ∧ d = .bool true
def R_long (ds : List PyData) (d : PyData) : Prop := ds = [] ∧ d = .bool true
theorem turnW_low {b : Nat} {l : List Nat} (h : ∀ c ∈ l, c < 128) : ∀ c ∈ turnW b l, c < 128 := fun c hc => by
  obtain ⟨x, hx, rfl⟩ := List.mem_map.mp hc
  unfold turnC
  split
  · have := (turnL_low (b := b) (c := x)).2
    omega
  · exact h x hx
theorem shp_turn {b : Nat} {l : List Nat} (h : ∀ c ∈ l, c < 128) : Shp 0 (sD (turnW b l)) := Shp.str (turnW_low h)
abbrev gW (b : Nat) : List Nat := turnW b [97, 98, 98, 97, 98]
abbrev bW (b : Nat) : List Nat := turnW b [97, 98, 97, 98, 97]
abbrev mX : List Nat := [120, 46, 120]
theorem kv_row : ∀ b, b < 4 → rowB (gW b) = true ∧ rowB (bW b) = true ∧ lookB mX (turnW b [98, 63]) = true ∧ lookB mX (turnW b [97, 97]) = true ∧ lookB mX (turnW b [97, 98]) = true ∧ lookB mX (turnW b [98, 97]) = true ∧ lookB mX (turnW b [98, 98]) = true := by decide +kernel
theorem kv_1 : seenL [120, 46, 120, 120] = [0, 2, 3] ∧ togL [120, 46, 120] [120, 120] 1 = [120, 120, 120] ∧ togL [120, 120] [120, 120] 3 = [120, 120, 46, 120, 120] := by decide +kernel
theorem kv_2 : ∀ b, b < 4 → viewsL (gW b) mX = [turnW b [97, 98], turnW b [98, 97], turnW b [98, 98]] ∧ tellsB (gW b) mX = true := by decide +kernel
theorem kv_3 : ∀ b, b < 4 → (likeP (viewsL (bW b) mX)).head? = some (0, 2) ∧ (distL (viewsL (gW b) mX)).min? = some 1 := by decide +kernel
theorem kv_3g : ∀ b, b < 4 → grpsL (viewsL (bW b) mX) (viewsL (bW b) mX).length = [.tuple [nn 0, nn 2]]
  | 0, _ => rfl
  | 1, _ => rfl
  | 2, _ => rfl
  | 3, _ => rfl
  | b + 4, h => by omega
theorem kv_4 : ∀ b, b < 4 → standsB (gW b) mX 0 1 = false ∧ standsB (gW b) mX 0 0 = true ∧ (likeP (viewsL (gW b) mX)).head? = none := by decide +kernel
theorem kv_5 : viewsL [97, 98] mX = [] ∧ (distL (viewsL [97, 98, 99] mX)).min? = none ∧ standsB [97, 98, 99] mX 3 3 = true := by decide +kernel
theorem kv_6 : ∀ b, b < 4 → (idxL (viewsL (gW b) mX) fun v => decide (missN v (turnW b [98, 63]) = 0)) = [1, 2] ∧ (idxL (viewsL (gW b) mX) fun v => decide (missN v (turnW b [97, 97]) = 0)) = [] ∧ (idxL (viewsL (gW b) mX) fun v => decide (missN v (turnW b [97, 97]) ≤ 1)) = [0, 1] := by decide +kernel
theorem kv_7 : ∀ b, b < 4 → stepsN (viewsL (bW b) mX) = some 2 := by decide +kernel
theorem kv_8 : stepsN (viewsL [97, 97, 97, 97] [120]) = some 4 ∧ stepsN (viewsL [] [120]) = none := by decide +kernel
/-! longest rows, rings, masks -/
theorem sm_X2 : Small mX 2 := ⟨by decide, by decide, by decide, by decide, by decide⟩
theorem sm_X1 : Small mX 1 := ⟨by decide, by decide, by decide, by decide, by decide⟩
abbrev mY : List Nat := [120, 120, 46, 120]
theorem sm_Y2 : Small mY 2 := ⟨by decide, by decide, by decide, by decide, by decide⟩
theorem sm_2 : Small [120, 120] 2 := ⟨by decide, by decide, by decide, by decide, by decide⟩
theorem kl_1 : lev mX 2 7 = [] ∧ (∀ j, j < 7 → lev mX 2 j ≠ []) := by decide +kernel
theorem kl_2 : lev mX 1 4 = [] ∧ (∀ j, j < 4 → lev mX 1 j ≠ []) := by decide +kernel
theorem kl_3 : lev mY 2 12 = [] ∧ (∀ j, j < 12 → lev mY 2 j ≠ []) := by decide +kernel
theorem kl_4 : lev mX 2 6 = [[97, 98, 97, 98, 98, 97], [97, 98, 98, 97, 98, 97], [98, 97, 97, 98, 97, 98], [98, 97, 98, 97, 97, 98]] ∧ (lev mX 2 5).length = 12 := by decide +kernel
theorem top_1 : topK mX 2 = 7 := (topK_eq sm_X2 kl_1.1 kl_1.2).symm
theorem top_2 : topK mX 1 = 4 := (topK_eq sm_X1 kl_2.1 kl_2.2).symm
theorem top_3 : topK mY 2 = 12 := (topK_eq sm_Y2 kl_3.1 kl_3.2).symm
theorem cnt_1 : cntR mX 2 5 = 12 := by
  unfold cntR
  rw [top_1, if_pos (by decide), kl_4.2]
theorem kl_5 : (letL 2).filter (fun c => tellsB ([97, 98, 97, 98, 98] ++ [c]) mX) = [97] := by decide +kernel
theorem lowB_of {n : Nat} {l : List Nat} (h : l.all (fun c => decide (97 ≤ c) && decide (c < 97 + n)) = true) : lowL n l := fun c hc => by
  have := List.all_eq_true.mp h c hc
  rw [Bool.and_eq_true, decide_eq_true_iff, decide_eq_true_iff] at this
  exact this
theorem far_of {m : List Nat} {n T : Nat} {r : List Nat} (hs : Small m n) (hl : lowL n r) (ht : tellsB r m = true) (h1 : farL m n r T = []) (h2 : ∀ j, j < T → farL m n r j ≠ []) : farD m n r = .int ((r.length + T : Nat) - 1 : Int) := by
  have z := farT_spec hs hl ht
  have e : farT m n r = T := by
    rcases Nat.lt_trichotomy (farT m n r) T with c | c | c
    · exact absurd z.2.1 (h2 _ c)
    · exact c
    · exact absurd h1 (z.2.2 _ c)
  unfold farD
  rw [if_pos ht, e]
theorem kl_6 : farL mX 2 [97, 97, 98] 3 = [] ∧ (∀ j, j < 3 → farL mX 2 [97, 97, 98] j ≠ []) ∧ farL mX 2 [97, 98, 98, 97] 3 = [] ∧ (∀ j, j < 3 → farL mX 2 [97, 98, 98, 97] j ≠ []) ∧ tellsB [97, 97, 98] mX = true ∧ tellsB [97, 98, 98, 97] mX = true ∧ tellsB [97, 98, 97, 98, 97] mX = false := by decide +kernel
theorem far_1 : farD mX 2 [97, 97, 98] = nn 5 := far_of sm_X2 (lowB_of (by decide)) kl_6.2.2.2.2.1 kl_6.1 kl_6.2.1
theorem far_2 : farD mX 2 [97, 98, 98, 97] = nn 6 := far_of sm_X2 (lowB_of (by decide)) kl_6.2.2.2.2.2.1 kl_6.2.2.1 kl_6.2.2.2.1
theorem far_3 : farD mX 2 [97, 98, 97, 98, 97] = .none := by
  unfold farD
  rw [if_neg (by rw [kl_6.2.2.2.2.2.2]; decide)]
theorem kl_7 : ringV [97, 97, 98] (seenL mX) = [[97, 98], [97, 97], [98, 97]] ∧ ringV [97, 98] (seenL mX) = [[97, 97], [98, 98]] := by decide +kernel
theorem kl_8 : ringsL mX 2 3 ≠ [] ∧ ringsL mX 2 4 = [] ∧ (ringsL mX 2 3).headD [] = [97, 97, 98] := by decide +kernel
theorem kl_9 : ringsL mY 2 7 ≠ [] ∧ ringsL mY 2 8 = [] ∧ (ringsL mY 2 7).headD [] = [97, 97, 97, 98, 97, 98, 98] := by decide +kernel
theorem kl_10 : ringsL [120, 120] 2 4 = [[97, 97, 98, 98]] := by decide +kernel
theorem kl_12 : (foldQ [97, 98, 98, 97, 98] (allM 3)).2 = [mX] ∧ (foldQ [97, 97, 97] (allM 2)).2 = [] ∧ (foldQ [97, 98] (allM 1)).2 = [[120]] := by decide +kernel
/-! the best masks -/
theorem kb_1 : allM 4 = [[120], [120, 120], [120, 46, 120], [120, 120, 120], [120, 46, 46, 120], [120, 46, 120, 120], [120, 120, 46, 120], [120, 120, 120, 120]] ∧ allM 2 = [[120], [120, 120]] := by decide +kernel
theorem kb_2 : lev [120, 120] 2 6 = [] ∧ (∀ j, j < 6 → lev [120, 120] 2 j ≠ []) ∧ lev [120, 46, 46, 120] 2 8 = [] ∧ (∀ j, j < 8 → lev [120, 46, 46, 120] 2 j ≠ []) := by decide +kernel
theorem top_4 : topK [120, 120] 2 = 6 := (topK_eq sm_2 kb_2.1 kb_2.2.1).symm
theorem sm_Z2 : Small [120, 46, 46, 120] 2 := ⟨by decide, by decide, by decide, by decide, by decide⟩
theorem top_5 : topK [120, 46, 46, 120] 2 = 8 := (topK_eq sm_Z2 kb_2.2.2.1 kb_2.2.2.2).symm
theorem sb_skip {many n : Nat} {s : Nat × List (List Nat)} {m : List Nat} (h : (seenL m).length ≠ many) : stepB many n s m = s := by
  unfold stepB
  rw [if_neg h]
theorem sb_more {many n K : Nat} {s : Nat × List (List Nat)} {m : List Nat} (h : (seenL m).length = many) (hk : topK m n = K) (h2 : K - 1 > s.1) : stepB many n s m = (K - 1, [m]) := by
  unfold stepB
  rw [if_pos h, hk, if_pos h2]
theorem best_1 : foldB 2 2 (allM 4) = (7, [[120, 46, 46, 120]]) := by
  rw [kb_1.1]
  unfold foldB
  rw [List.foldl_cons, sb_skip (by decide), List.foldl_cons, sb_more (by decide) top_4 (by decide), List.foldl_cons, sb_more (by decide) top_1 (by decide), List.foldl_cons, sb_skip (by decide), List.foldl_cons, sb_more (by decide) top_5 (by decide), List.foldl_cons, sb_skip (by decide), List.foldl_cons, sb_skip (by decide), List.foldl_cons, sb_skip (by decide)]
  rfl
theorem best_2 : foldB 3 2 (allM 2) = (0, []) := by
  rw [kb_1.2]
  unfold foldB
  rw [List.foldl_cons, sb_skip (by decide), List.foldl_cons, sb_skip (by decide)]
  rfl
/-! rows put together -/
abbrev someW (b : Nat) : Lk := [turnW b [97, 98], turnW b [98, 97], turnW b [98, 98]]
theorem kj_1 : ∀ b, b < 4 → clashL mX (someW b) = (gW b, none) ∧ (clashL mX [turnW b [97, 98], turnW b [98, 97], turnW b [97, 98]]).2 = some 2 := by decide +kernel
theorem kj_2 : clashL mX [[97, 98], [63, 63]] = ([97, 63, 98, 63], none) := by decide +kernel
abbrev dueW (b : Nat) : Lk := [turnW b [97, 98, 98, 97, 98], turnW b [97, 98, 98, 98, 97], turnW b [98, 97, 98, 98, 97], turnW b [98, 98, 97, 98, 98]]
theorem kj_3 : ∀ b, b < 4 → dueL mX (someW b) = [turnW b [97, 98, 98, 97, 98], turnW b [97, 98, 98, 98, 97], turnW b [98, 98, 97, 98, 98], turnW b [98, 97, 98, 98, 97]] ∧ (dueW b).Nodup ∧ (∀ a, a < 5 → (uq ((dueW b).map fun r => [r.getD a 0])).length ≠ 1) ∧ (∀ v ∈ someW b, lookB mX v = true) := by decide +kernel
theorem kj_4 : dueL [120, 120] [[97, 98], [98, 98]] = [[97, 98, 98]] := by decide +kernel
theorem mem_rows {m : List Nat} {vs : Lk} {x : List Nat} : x ∈ rowsF m vs ↔ x ∈ dueL m vs := by rw [← due_rows, mem_sU]
theorem sU_sortW {ws : Lk} (h : ws.Nodup) : sU ws = sortW ws := by
  refine le_uniq ?_ ((sU_lt ws).imp fun {a b} q => List.le_of_lt q) (sortW_le ws)
  have p := sU_perm ws
  rw [uq_nodup h] at p
  exact p.trans (sortW_perm ws).symm
theorem sU_ext {a b : Lk} (h : ∀ x, x ∈ a ↔ x ∈ b) : sU a = sU b := lt_uniq (sU_lt a) (sU_lt b) fun x => by rw [mem_sU, mem_sU]; exact h x
theorem rows_1 {b : Nat} (hb : b < 4) : rowsF mX (someW b) = sortW (dueW b) := by
  obtain ⟨h1, h2, _, _⟩ := kj_3 b hb
  rw [← due_rows, h1, ← sU_sortW h2]
  refine sU_ext fun x => ?_
  simp only [List.mem_cons, List.not_mem_nil, or_false]
  constructor
  · rintro (h | h | h | h) <;> simp [h]
  · rintro (h | h | h | h) <;> simp [h]
theorem sure_mem {rs rs' : Lk} {k : Nat} (h : ∀ x, x ∈ rs ↔ x ∈ rs') : sureD rs k = sureD rs' k := by
  unfold sureD
  have e : rs = [] ↔ rs' = [] := by
    constructor
    · intro e
      rw [List.eq_nil_iff_forall_not_mem]
      intro x hx
      have := (h x).mpr hx
      rw [e] at this
      cases this
    · intro e
      rw [List.eq_nil_iff_forall_not_mem]
      intro x hx
      have := (h x).mp hx
      rw [e] at this
      cases this
  have ec : ∀ a, colL rs a = colL rs' a := fun a => sU_ext fun x => by
    rw [List.mem_map, List.mem_map]
    exact ⟨fun ⟨r, hr, q⟩ => ⟨r, (h r).mp hr, q⟩, fun ⟨r, hr, q⟩ => ⟨r, (h r).mpr hr, q⟩⟩
  by_cases q : rs = []
  · rw [if_pos q, if_pos (e.mp q)]
  · rw [if_neg q, if_neg fun z => q (e.mpr z)]
    have : (fun a => oneW (colL rs a)) = fun a => oneW (colL rs' a) := funext fun a => by rw [ec]
    rw [this]
theorem sure_q {rs : Lk} : ∀ {k : Nat}, rs ≠ [] → (∀ a, a < k → (uq (rs.map fun r => [r.getD a 0])).length ≠ 1) → sureD rs k = sD (List.replicate k 63)
  | 0, h, _ => by rw [sure_zero, if_neg h]; rfl
  | k + 1, h, h2 => by
    have ih := sure_q (rs := rs) (k := k) h fun a ha => h2 a (by omega)
    have e0 : sureD rs k = sD ((List.range k).map fun a => oneW (colL rs a)).flatten := by unfold sureD; rw [if_neg h]
    rw [e0] at ih
    rw [sure_succ h, S_inj (PyData.str.inj ih), show oneW (colL rs k) = [63] from oneW_more (h2 k (by omega)), List.replicate_succ']
theorem sure_1 {b : Nat} (hb : b < 4) : sureD (rowsF mX (someW b)) 5 = sD [63, 63, 63, 63, 63] := by
  obtain ⟨_, h2, h3, _⟩ := kj_3 b hb
  rw [sure_mem (rs' := dueW b) fun x => by rw [rows_1 hb]; exact (sortW_perm _).mem_iff]
  exact sure_q (List.cons_ne_nil _ _) h3
theorem sure_2 : sureD (rowsF [120, 120] [[97, 98], [98, 98]]) 3 = sD [97, 98, 98] := by
  rw [sure_mem (rs' := [[97, 98, 98]]) fun x => by rw [mem_rows, kj_4]]
  unfold sureD
  rw [if_neg (List.cons_ne_nil _ _)]
  have e : (List.range 3).map (fun a => oneW (colL [[97, 98, 98]] a)) = [[97], [98], [98]] := by
    show [oneW (sU [[97]]), oneW (sU [[98]]), oneW (sU [[98]])] = _
    rw [oneW_one (w := [97]) (by decide), oneW_one (w := [98]) (by decide)]
  rw [e]
  rfl
def mendP (ps : List (Nat × List Nat)) : Option (Nat × List Nat) := match ps with
  | [] => none
  | a :: l => some (minP a l)
theorem mend_some {ps : List (Nat × List Nat)} {p : Nat × List Nat} (h : mendP ps = some p) : mendO ps = prD p := by
  cases ps with
  | nil => cases h
  | cons a l => cases h; rfl
theorem km_1 : mendP (mendL [97, 98, 97, 98, 97] mX 2) = some (1, [97, 98, 97, 98, 98]) ∧ mendP (mendL [97, 98, 98, 97, 98] mX 2) = some (0, [97, 98, 98, 97, 98]) ∧ mendL [97, 97, 97] [120] 2 = [] := by decide +kernel
def weakN (l m : List Nat) (n : Nat) : List (Nat × Nat) := (List.range l.length).flatMap fun i => (((letL n).filter fun c => decide (c ≠ l.getD i 0)).filter fun c => tellsB (chgL l i c) m).map fun c => (i, c)
theorem weak_N (l m : List Nat) (n : Nat) : weakL l m n = (weakN l m n).map fun p => pr2 (nn p.1) (sg p.2) := by
  unfold weakL weakN weakAt
  rw [List.map_flatMap]
  congr 1
  funext i
  rw [List.map_map]
  rfl
theorem km_2 : weakN [97, 98, 98, 97, 98] mX 2 = [(1, 97), (2, 97)] := by decide +kernel
/-! a tracker -/
abbrev v1W (b : Nat) : List Nat := turnW b [97, 97]
abbrev v2W (b : Nat) : List Nat := turnW b [98, 63]
theorem kt_1 : ∀ b, b < 4 → startL (viewsL (bW b) mX) [] = [0, 1, 2] ∧ startL (viewsL (bW b) mX) [v1W b] = [0, 2] ∧ startL (viewsL (bW b) mX) [v1W b, v2W b] = [0] := by decide +kernel
theorem okt_0 {b : Nat} (hb : b < 4) : OkT (bW b) mX [] := ⟨(kv_row b hb).2.1, by decide, by simp, fun v hv => nomatch hv⟩
theorem okt_1 {b : Nat} (hb : b < 4) : OkT (bW b) mX [v1W b] := ⟨(kv_row b hb).2.1, by decide, by simp, fun v hv => by rw [List.mem_singleton.mp hv]; exact (kv_row b hb).2.2.2.1⟩
theorem okt_2 {b : Nat} (hb : b < 4) : OkT (bW b) mX [v1W b, v2W b] := ⟨(kv_row b hb).2.1, by decide, by simp, fun v hv => by
  rcases List.mem_cons.mp hv with e | e
  · rw [e]; exact (kv_row b hb).2.2.2.1
  · rw [List.mem_singleton.mp e]; exact (kv_row b hb).2.2.1⟩
section
variable {X : Cx} {W : Wd} {Γ : List DV} {μ μ1 μ2 : Mu} {a b e c : Expr} {rs : List Expr} {rest : List Stmt} {D : Ends} {pos : Pos} {x : PyData}
/-- a != b, both the same: no; a may change local objects -/
theorem tm_ne {n : Nat} (hu : X.A.units + 64 < cLine) (ha : EvM X W Γ μ a (fun d μ' => d = x ∧ μ' = μ1)) (hb : Ed X W Γ μ1 b x) (sh : Shp n x) (hn : n ≤ 64 := by decide) (hm : behindInMarks .NotEq b = false := by first | exact nomark _ | rfl) : EvTM X W Γ μ (.Compare a [.NotEq] [b] pos) (fun k μ' => k = false ∧ μ' = μ1) :=
  tcm ha (B := fun _ _ y μ2 => y = x ∧ μ2 = μ1) (fun z μ2 ⟨_, e2⟩ => by subst e2; exact Ed.m hb) (fun z μ2 y μ3 ⟨e1, e2⟩ ⟨e3, e4⟩ => ⟨false, ⟨rfl, e4⟩, by subst e1 e3; exact c_neSame hu sh hn⟩) hm
theorem wm_or (h : EvTM X W Γ μ a (fun k μ' => k = false ∧ μ' = μ1)) (h2 : EvWM X W Γ μ1 (.BoolOp .Or (b :: rs) pos) (fun k μ' => k = false ∧ μ' = μ2)) : EvWM X W Γ μ (.BoolOp .Or (a :: b :: rs) pos) (fun k μ' => k = false ∧ μ' = μ2) :=
  twm_or h (fun μ' ⟨_, e⟩ => by subst e; exact h2) (fun _ q => nomatch q.1)
/-- if c: .. where c says no -/
theorem run_ifF {sa : List Stmt} (hc : EvTM X W Γ μ c (fun k μ' => k = false ∧ μ' = μ1)) (h : Run X W Γ μ1 rest D) : Run X W Γ μ (.If c sa [] pos :: rest) D :=
  run_ifM hc (fun _ q => nomatch q.1) (fun μ' ⟨_, e⟩ => by subst e; exact run_skip h)
/-- not e, e true -/
theorem tm_not (h : EvM X W Γ μ e (fun d μ' => d = .bool true ∧ μ' = μ1)) (he : ∀ whole, isTrue e X.env whole = (do let v ← whole; PySem.standAt e.pos; holding [v] (truthy v)) := by intro _; rfl) : EvTM X W Γ μ (.UnaryOp .Not e pos) (fun k μ' => k = false ∧ μ' = μ1) :=
  tnm (etm_val (EvM.imp h fun d μ' ⟨e1, e2⟩ => ⟨true, e1, rfl, e2⟩) he)
end
section
variable {X : Cx} {W : Wd} {Γ : List DV} {μ : Mu} {e : Expr} {pos p apos : Pos} {n : Str} {a C : Addr} {k : Nat} {l m : List Nat} {ts : List (List Nat)} {v : List Nat}
/-- t.see(e) -/
theorem em_see (i j : Nat) (F : FdM X.prog X.w X.K X.mg X.base k C "see" ["self", "view"] (spT X.K C pre_see post_see)) (hr : Room k X.A) (c : Cls X.K C) (ok : OkT l m ts) (hv : lookB m v = true) (ha : Ed X W Γ μ e (sD v)) {pl : Sem Bool} (hi : Γ[i]? = some (.r a) := by rfl) (hj : μ[j]? = some (a, .ins C (trk l m ts)) := by rfl) (hN : X.N[i]? = some n := by rfl) (hvs : Vis X.env.scope n := by first | exact Or.inl rfl | exact Or.inr (Or.inl rfl) | exact Or.inr (Or.inr rfl))
    (h1 : (n == ("__debug__" : Str)) = false := by decide) (h2 : (n == ("__classdict__" : Str)) = false := by decide)
    (hst : starEach [e] X.env = (false, eval e X.env) :: starEach [] X.env := by rfl) (hpl : (backTo pos (starEach [] X.env)).any (·.1) = false := by rfl)
    (ht : eval (.Call (.Attribute (.Name n p) "see" apos) [e] [] pos) X.env = (do
      let ov ← eval (.Name n p) X.env
      PySem.standAt apos.atName
      let (f, first) ← holding [ov] (getMethod ov "see" pl)
      callWith pos f first (backTo pos (starEach [e] X.env)) (backToKw pos (keywordEach [] X.env))) := by rfl) :
    EvM X W Γ μ (.Call (.Attribute (.Name n p) "see" apos) [e] [] pos) (fun d μ' => d = nn (startL (viewsL l m) (ts ++ [v])).length ∧ μ' = μ.set j (a, .ins C (trk l m (ts ++ [v])))) :=
  EvM.imp (em_meth (fs := trk l m ts) i j F hr c rfl (ea_cons ha ea_nil hst) ⟨l, m, ts, v, rfl, ok, rfl, hv⟩ hi hj hN hvs h1 h2 hst hpl ht) (by
    rintro d μ' ⟨fs', ⟨l', m', ts', v', e1, e2, rfl, rfl⟩, rfl⟩
    obtain ⟨rfl, rfl, rfl⟩ := trk_inj e1
    obtain rfl := S_inj (PyData.str.inj (List.cons.inj e2).1)
    exact ⟨rfl, rfl⟩)
/-- t.undo() -/
theorem em_undo (i j : Nat) (F : FdM X.prog X.w X.K X.mg X.base k C "undo" ["self"] (spT X.K C pre_t0 post_undo)) (hr : Room k X.A) (c : Cls X.K C) (ok : OkT l m ts) {pl : Sem Bool} (hi : Γ[i]? = some (.r a) := by rfl) (hj : μ[j]? = some (a, .ins C (trk l m ts)) := by rfl) (hN : X.N[i]? = some n := by rfl) (hvs : Vis X.env.scope n := by first | exact Or.inl rfl | exact Or.inr (Or.inl rfl) | exact Or.inr (Or.inr rfl))
    (h1 : (n == ("__debug__" : Str)) = false := by decide) (h2 : (n == ("__classdict__" : Str)) = false := by decide)
    (ht : eval (.Call (.Attribute (.Name n p) "undo" apos) [] [] pos) X.env = (do
      let ov ← eval (.Name n p) X.env
      PySem.standAt apos.atName
      let (f, first) ← holding [ov] (getMethod ov "undo" pl)
      callWith pos f first (backTo pos (starEach [] X.env)) (backToKw pos (keywordEach [] X.env))) := by rfl) :
    EvM X W Γ μ (.Call (.Attribute (.Name n p) "undo" apos) [] [] pos) (fun d μ' => d = .bool (!ts.isEmpty) ∧ μ' = μ.set j (a, .ins C (trk l m ts.dropLast))) :=
  EvM.imp (em_meth0 (fs := trk l m ts) i j F hr c rfl ⟨l, m, ts, rfl, ok, rfl⟩ hi hj hN hvs h1 h2 ht) (by
    rintro d μ' ⟨fs', ⟨l', m', ts', e1, rfl, rfl⟩, rfl⟩
    obtain ⟨rfl, rfl, rfl⟩ := trk_inj e1
    exact ⟨rfl, rfl⟩)
end
end HW
namespace HW
open PySem PySem.Spec PyProof.Rows L2
/-- f() -/
theorem ed_call0 {X : Cx} {W : Wd} {Γ : List DV} {μ : Mu} {x : Str} {k : Nat} {d : PyData} {p pos : Pos} {R : List PyData → PyData → Prop} (F : Fd X.prog X.w X.K X.mg X.base k x [] (spR X.K R)) (hr : Room k X.A) (hR : R [] d) (hg : Gl X x := by rfl) (hdb : (x == ("__debug__" : Str)) = false := by decide) : Ed X W Γ μ (.Call (.Name x p) [] [] pos) d := fun σ H Rp Q q => by
  obtain ⟨f, fd, h1, h2, h3, h4⟩ := F.ex
  refine (pe_call0 h1 hr hg h2 h3 h4 .nil pass0 hdb).w ?_
  exact ⟨HW.hd W μ, [], d, Rp.nts, .nil, hR, fun v H3 s3 r3 => q v H3 (Rp.same s3) (XT.same s3) r3⟩
theorem shpC {x : PyData} (h1 : x.canLay0 = true) (h2 : x.depth ≤ 9) : Shp 9 x := ⟨h1, h2⟩
end HW
namespace HW
theorem ring_4 : ∀ L, 3 < L → L ≤ 2 ^ (seenL mX).length → ringsL mX 2 L = [] := fun L h1 h2 => by
  have h3 : 2 ^ (seenL mX).length = 4 := by decide
  obtain rfl : L = 4 := by omega
  exact kl_8.2.1
theorem ring_8 : ∀ L, 7 < L → L ≤ 2 ^ (seenL mY).length → ringsL mY 2 L = [] := fun L h1 h2 => by
  have h3 : 2 ^ (seenL mY).length = 8 := by decide
  obtain rfl : L = 8 := by omega
  exact kl_9.2.1
end HW
namespace HW
open PySem
theorem shp_2 {n : Nat} {x y : PyData} (hx : Shp n x) (hy : Shp n y) : Shp (n + 1) (.tuple [x, y]) := Shp.tup fun z hz => by
  rcases List.mem_cons.mp hz with e | e
  · rw [e]; exact hx
  · rw [List.mem_singleton.mp e]; exact hy
end HW
set_option maxHeartbeats 4000000
namespace HW
open PySem PySem.Spec PyProof.Rows L2 Tx
open SX (S)
section
variable {P : Program} {w : World} {K : PySem.W.Frag} {mg : Str → Option Value} {base : Heap} {f : Addr} {fd : FuncData} {k : Nat}
theorem fi_BadView {C : Addr} (F : FunD K "__init__" "BadView.__init__" (defArgs m_BadView) (defBody m_BadView) (defScope m_BadView) [] [] f fd) (B : BaseF K mg "WindowError") : FnOk P w K mg base CX0 (k + 1) f fd ["self"] (spI0 K C) :=
  fn_init0 F ⟨rfl, rfl, rfl, by decide +kernel, rfl, by decide +kernel, by decide +kernel⟩ B (fun _ _ _ _ _ _ => rfl) (fun _ _ _ _ _ _ => Or.inl rfl) (fun _ _ _ _ _ _ => ⟨_, rfl⟩) (fun _ _ _ _ _ _ => rfl)
theorem fd_taken (F : FnP K "_law_taken" s__law_taken f fd) (hint : mg "int" = none) (hlen : mg "len" = none) : FnOk P w K mg base CX0 (k + 1) f fd ["_law_row", "_law_many"] (spW K R_taken_pre R_taken_post) := by
  have sc : FnScope ["_law_row", "_law_many", "_law_found", "_law_cell"] ["_law_row", "_law_many"] (defScope s__law_taken) := ⟨rfl, rfl, rfl, by decide +kernel, rfl, by decide +kernel, by decide +kernel⟩
  refine F.ok sc (fun vs H Q E ⟨M, r, scr, ns, ws, ds, e, _, _, _, _, _, _, hv, ⟨m, e2, _⟩, _⟩ => by rw [e, List.length_cons, hv.length, e2]; rfl) fun cdv A outer s H vs Q E hr ⟨M, r, scr, ns, ws, ds, e, hM, hrM, hR, hS, hne, hns, hv, ⟨m, e2, h0, h1⟩, q⟩ => ?_
  subst e
  subst e2
  cases hv with
  | cons hv1 hv2 =>
  cases hv2
  cases hv1
  obtain ⟨i, sd, rest, hrow, hi0⟩ := hR
  -- the end: r holds whatever it holds
  have fin : ∀ (k : Nat) (i' sd' q' : Int) (H' : Hp), (k : Int) < m → 0 ≤ i' → (∀ a o, a ≠ r → H a = some o → H' a = some o) → H' r = some (.lst [.ref scr, .int i', .int sd', .int q']) → Q (.int (k : Int)) H' := fun k i' sd' q' H' hk hi' keep hr' =>
    q _ H' (.int (k : Int)) ⟨m, k, rfl, rfl, hk⟩ keep ⟨i', sd', q', hr', hi'⟩ (.int _)
  have modk : ∀ z : Int, ∃ k : Nat, z % m = (k : Int) ∧ (k : Int) < m := fun z => ⟨(z % m).toNat, by rw [Int.toNat_of_nonneg (Int.emod_nonneg _ (by omega))], by rw [Int.toNat_of_nonneg (Int.emod_nonneg _ (by omega))]; exact Int.emod_lt_of_pos _ h0⟩
  have sq : ∀ {H' : Hp}, (∀ a o, a ≠ r → H a = some o → H' a = some o) → SqL K H' scr (ns.map V.int) := fun {H'} keep => SqL.up (fun o e => keep scr o hne e) hS
  refine ⟨_, PSs.nox wSs.ps, ?_⟩
  show wSs (cxOf CX0 P w K mg base ["_law_row", "_law_many", "_law_found", "_law_cell"] "_law_taken" (defScope s__law_taken) f cdv A outer s H E).nox _ _ (start _ _) H
  have nd := sc.nd
  have k1 : ∀ {o : HO} (a : Addr) (u : HO), a ≠ r → H a = some u → upd H r o a = some u := fun {o} a u n e => by rw [upd_ne n]; exact e
  refine wSs_cons ((ps_if wT.pt wSs.ps wSs.ps).w (at_cmp (k := decide (0 < rest)) op_gt (at_ix (at_var 0 rfl) at_int (SqL.of hrow) rfl) at_int (fun Q q => ⟨rest, 0, rfl, rfl, q⟩) ?_))
  by_cases hp : 0 < rest
  · rw [decide_eq_true hp]
    obtain ⟨k, ek, hk⟩ := modk rest
    refine iteT (wSs_cons ((ps_set (i := 2) nd rfl (.inl rfl) wE.pe).w (at_op (z := .int (rest % m)) op_mod (at_int1 (at_ix (at_var 0 rfl) at_int (SqL.of hrow) rfl) hint) (at_var 1 rfl) (fun Q q => ⟨rest, m, rfl, rfl, h0, q⟩) _ ?_)))
    refine wSs_cons ((ps_asg wE.pe (pg_sub wE.pe wE.pe set_list)).w (at_op (z := .int (rest / m)) op_fdiv (at_ix (at_var 0 rfl) at_int (SqL.of hrow) rfl) (at_var 1 rfl) (fun Q q => ⟨rest, m, rfl, rfl, ⟨h0, h1⟩, q⟩) _ ?_))
    refine at_k (at_var 0 rfl) (at_k at_int ⟨r, _, 3, 3, rfl, rfl, hrow, rfl, ?_⟩)
    refine wSs_cons ((ps_ret wE.pe).w (at_k (at_var 2 rfl) ?_))
    rw [ek]
    exact fin k i sd (rest / m) _ hk hi0 k1 upd_same
  · rw [decide_eq_false hp]
    refine iteF (pss_nil.w ?_)
    refine wSs_cons ((ps_asg wE.pe (pg_sub wE.pe wE.pe set_list)).w (at_op (z := .int (i + 1)) op_add (at_ix (at_var 0 rfl) at_int (SqL.of hrow) rfl) at_int (fun Q q => ⟨i, 1, rfl, rfl, q⟩) _ ?_))
    refine at_k (at_var 0 rfl) (at_k at_int ⟨r, _, 1, 1, rfl, rfl, hrow, rfl, ?_⟩)
    have hr1 : upd H r (.lst [.ref scr, .int (i + 1), .int sd, .int rest]) r = some (.lst [.ref scr, .int (i + 1), .int sd, .int rest]) := upd_same
    have keep1 : ∀ (a : Addr) (u : HO), a ≠ r → H a = some u → upd H r (.lst [.ref scr, .int (i + 1), .int sd, .int rest]) a = some u := k1
    revert hr1 keep1
    show _ → _ → wSs _ _ _ _ (upd H r (.lst [.ref scr, .int (i + 1), .int sd, .int rest]))
    generalize upd H r (.lst [.ref scr, .int (i + 1), .int sd, .int rest]) = H1
    intro hr1 keep1
    have k2 : ∀ {o : HO} (a : Addr) (u : HO), a ≠ r → H a = some u → upd H1 r o a = some u := fun {o} a u n e => by rw [upd_ne n]; exact keep1 a u n e
    refine wSs_cons ((ps_if wT.pt wSs.ps wSs.ps).w (at_cmp (k := decide (((ns.map V.int).length : Int) < i + 1)) op_gt (at_ix (at_var 0 rfl) at_int (SqL.of hr1) rfl) (at_len (at_ix (at_var 0 rfl) at_int (SqL.of hr1) rfl) (sq keep1) hlen) (fun Q q => ⟨i + 1, _, rfl, rfl, q⟩) ?_))
    by_cases hb : ((ns.map V.int).length : Int) < i + 1
    · rw [decide_eq_true hb]
      refine iteT (wSs_cons ((ps_asg wE.pe (pg_sub wE.pe wE.pe set_list)).w (at_op (z := .int ((sd * 48271 + 11) % 2147483647)) op_mod (at_int1 (at_op (z := .int (sd * 48271 + 11)) op_add (at_op (z := .int (sd * 48271)) op_mul (at_ix (at_var 0 rfl) at_int (SqL.of hr1) rfl) at_int (fun Q q => ⟨sd, 48271, rfl, rfl, .inr (by decide), q⟩)) at_int (fun Q q => ⟨_, 11, rfl, rfl, q⟩)) hint) at_int (fun Q q => ⟨_, 2147483647, rfl, rfl, (by decide : (0 : Int) < 2147483647), q⟩) _ ?_)))
      refine at_k (at_var 0 rfl) (at_k at_int ⟨r, _, 2, 2, rfl, rfl, hr1, rfl, ?_⟩)
      obtain ⟨k, ek, hk⟩ := modk ((sd * 48271 + 11) % 2147483647 / 7)
      refine wSs_cons ((ps_ret wE.pe).w (at_op (z := .int ((sd * 48271 + 11) % 2147483647 / 7 % m)) op_mod (at_int1 (at_op (z := .int ((sd * 48271 + 11) % 2147483647 / 7)) op_fdiv (at_ix (at_var 0 rfl) at_int (SqL.of upd_same) rfl) at_int (fun Q q => ⟨_, 7, rfl, rfl, ⟨by decide, by decide⟩, q⟩)) hint) (at_var 1 rfl) (fun Q q => ⟨_, m, rfl, rfl, h0, q⟩) _ ?_))
      rw [ek]
      exact fin k (i + 1) _ rest _ hk (by omega) k2 upd_same
    · rw [decide_eq_false hb]
      refine iteF (pss_nil.w ?_)
      obtain ⟨c, hc⟩ : ∃ c : Int, atI (ns.map V.int) (i + 1 - 1) = some (.int c) := by
        have hl : i.toNat < ns.length := by
          rw [List.length_map] at hb
          omega
        refine ⟨ns[i.toNat], at_nat (n := i.toNat) (by omega) ?_⟩
        rw [List.getElem?_map, List.getElem?_eq_getElem hl]
        rfl
      refine wSs_cons ((ps_set (i := 3) nd rfl (.inl rfl) wE.pe).w (at_ix (at_ix (at_var 0 rfl) at_int (SqL.of hr1) rfl) (at_op (z := .int (i + 1 - 1)) op_sub (at_ix (at_var 0 rfl) at_int (SqL.of hr1) rfl) at_int (fun Q q => ⟨i + 1, 1, rfl, rfl, q⟩)) (sq keep1) hc (by exact fun _ _ => rfl) _ ?_))
      refine wSs_cons ((ps_asg wE.pe (pg_sub wE.pe wE.pe set_list)).w (at_op (z := .int ((sd * 48271 + c + 11) % 2147483647)) op_mod (at_int1 (at_op (z := .int (sd * 48271 + c + 11)) op_add (at_op (z := .int (sd * 48271 + c)) op_add (at_op (z := .int (sd * 48271)) op_mul (at_ix (at_var 0 rfl) at_int (SqL.of hr1) rfl) at_int (fun Q q => ⟨sd, 48271, rfl, rfl, .inr (by decide), q⟩)) (at_var 3 rfl) (fun Q q => ⟨_, c, rfl, rfl, q⟩)) at_int (fun Q q => ⟨_, 11, rfl, rfl, q⟩)) hint) at_int (fun Q q => ⟨_, 2147483647, rfl, rfl, (by decide : (0 : Int) < 2147483647), q⟩) _ ?_))
      refine at_k (at_var 0 rfl) (at_k at_int ⟨r, _, 2, 2, rfl, rfl, hr1, rfl, ?_⟩)
      have hr2 : upd H1 r (.lst [.ref scr, .int (i + 1), .int ((sd * 48271 + c + 11) % 2147483647), .int rest]) r = some (.lst [.ref scr, .int (i + 1), .int ((sd * 48271 + c + 11) % 2147483647), .int rest]) := upd_same
      have keep2 : ∀ (a : Addr) (u : HO), a ≠ r → H a = some u → upd H1 r (.lst [.ref scr, .int (i + 1), .int ((sd * 48271 + c + 11) % 2147483647), .int rest]) a = some u := k2
      revert hr2 keep2
      show _ → _ → wSs _ _ _ _ (upd H1 r (.lst [.ref scr, .int (i + 1), .int ((sd * 48271 + c + 11) % 2147483647), .int rest]))
      generalize upd H1 r (.lst [.ref scr, .int (i + 1), .int ((sd * 48271 + c + 11) % 2147483647), .int rest]) = H2
      intro hr2 keep2
      have k3 : ∀ {o : HO} (a : Addr) (u : HO), a ≠ r → H a = some u → upd H2 r o a = some u := fun {o} a u n e => by rw [upd_ne n]; exact keep2 a u n e
      obtain ⟨k, ek, hk⟩ := modk c
      refine wSs_cons ((ps_if wT.pt wSs.ps wSs.ps).w (at_cmp (k := decide ((10 : Int) ^ (18 : Int).toNat ≤ c)) op_ge (at_var 3 rfl) (at_op (z := .int ((10 : Int) ^ (18 : Int).toNat)) op_pow at_int at_int (fun Q q => ⟨10, 18, rfl, rfl, ⟨by decide, by decide, by decide⟩, q⟩)) (fun Q q => ⟨c, _, rfl, rfl, q⟩) ?_))
      have out : ∀ (q' : Int) (H' : Hp), (∀ a o, a ≠ r → H a = some o → H' a = some o) → H' r = some (.lst [.ref scr, .int (i + 1), .int ((sd * 48271 + c + 11) % 2147483647), .int q']) →
          wSs (cxOf CX0 P w K mg base ["_law_row", "_law_many", "_law_found", "_law_cell"] "_law_taken" (defScope s__law_taken) f cdv A outer s H E).nox ((defBody s__law_taken).drop 6) { nx := fun x H' => Q .non H', rt := Q } [some (.ref r), some (.int m), none, some (.int c)] H' := fun q' H' keep hr' => by
        refine wSs_cons ((ps_ret wE.pe).w (at_op (z := .int (c % m)) op_mod (at_int1 (at_var 3 rfl) hint) (at_var 1 rfl) (fun Q q => ⟨c, m, rfl, rfl, h0, q⟩) _ ?_))
        rw [ek]
        exact fin k (i + 1) _ q' _ hk (by omega) keep hr'
      by_cases hg : (10 : Int) ^ (18 : Int).toNat ≤ c
      · rw [decide_eq_true hg]
        refine iteT (wSs_cons ((ps_asg wE.pe (pg_sub wE.pe wE.pe set_list)).w (at_op (z := .int (c / m)) op_fdiv (at_var 3 rfl) (at_var 1 rfl) (fun Q q => ⟨c, m, rfl, rfl, ⟨h0, h1⟩, q⟩) _ ?_)))
        refine at_k (at_var 0 rfl) (at_k at_int ⟨r, _, 3, 3, rfl, rfl, hr2, rfl, ?_⟩)
        exact pss_nil.w (out (c / m) _ k3 upd_same)
      · rw [decide_eq_false hg]
        exact iteF (pss_nil.w (out rest _ keep2 hr2))
theorem fd_law_turned24 (F : FnP K "_law_turned" s__law_turned f fd) (G : Gs mg) : FnOk P w K mg base CX0 (k + 1) f fd ["_law_line", "_law_by"] (spR K R_turned) := by
  have sc : FnScope ["_law_line", "_law_by", "_law_sign"] ["_law_line", "_law_by"] (defScope s__law_turned) := ⟨rfl, rfl, rfl, by decide +kernel, rfl, by decide +kernel, by decide +kernel⟩
  refine fd_pure F sc _ (fun ds d ⟨l, b, e, _⟩ => by rw [e]; rfl) fun cdv A outer s H E hr W ds d hrow hR => ?_
  obtain ⟨l, b, rfl, hb, hl, rfl⟩ := hR
  refine run_ret (ed_joinC (turnW b l) (ed_S []) (lcN0 2 (it_str (cs := l) (vr 0)) (by omega) (fun c => sg (turnC b c)) (fun c hc W2 lw2 s2 H2 C2 cl2 fp2 => ?hc) sc.nd |>.ed sc.nd) (by unfold turnW; rw [List.map_map]; rfl) (by unfold turnW; rw [List.length_map]; omega)) rfl
  case hc =>
    refine Ed.to (ed_if (k := decide (c ∈ [97, 98, 99, 100])) (x := sg (turnL b c)) (y := sg c) (tc (vr 2) (ed_S [97, 98, 99, 100]) c_inS) (fun q => ?_) (fun _ => vr 2)) ?_
    · have hcr : 97 ≤ c ∧ c < 101 := by simp at q; omega
      refine ed_ix (ed_S [97, 98, 99, 100]) (ed_op (ed_op (ed_indexL (ed_S [97, 98, 99, 100]) (vr 2) hcr.1 hcr.2) (vr 1) o_add) ed_int (o_mod (by decide))) (i_str (n := (c - 97 + b) % 4) (by decide) ?hx (by push_cast; rfl))
      case hx =>
        have := Nat.mod_lt (c - 97 + b) (show 4 > 0 by decide)
        unfold turnL
        generalize (c - 97 + b) % 4 = z at this
        match z, this with
        | 0, _ => rfl
        | 1, _ => rfl
        | 2, _ => rfl
        | 3, _ => rfl
    · unfold turnC
      by_cases h : c ∈ [97, 98, 99, 100]
      · rw [if_pos h, decide_eq_true h]
        rfl
      · rw [if_neg h, decide_eq_false h]
        rfl
theorem fd_is_mask (F : FnP K "is_mask" s_is_mask f fd) (G : Gs mg) (gS : gSEEN mg) (gH : gHOLE mg) (gM : gMOST_MASK mg) : FnOk P w K mg base CX0 (k + 1) f fd ["value"] (spR K R_is_mask) := by
  have sc : FnScope ["value", "sign"] ["value"] (defScope s_is_mask) := ⟨rfl, rfl, rfl, by decide +kernel, rfl, by decide +kernel, by decide +kernel⟩
  refine fd_pure F sc _ (fun ds d ⟨m, e, _⟩ => by rw [e]; rfl) fun cdv A outer s H E hr W ds d hrow hR => ?_
  obtain ⟨m, rfl, hm, rfl⟩ := hR
  unfold maskB at hm
  simp only [Bool.and_eq_true, decide_eq_true_eq] at hm
  obtain ⟨⟨⟨⟨h1, h2⟩, h3⟩, h4⟩, h5⟩ := hm
  refine run_if (k := false) ((t_or (t_not (et_val (ed_isi (T := "str") (vr 0) G.isinstance G.str (by decide +kernel)))) fun _ => t_not (tc_chain ed_int (ed_callB G.len boot_len (ea_cons (vr 0) ea_nil) (c_lenS (by omega))) (fun _ => ed_gint gM) c_le c_le)).to ?_) (fun q => nomatch q) (fun _ => run_skip ?_)
  · have e1 : decide ((1 : Int) ≤ ((m.length : Nat) : Int)) = true := decide_eq_true (by omega)
    have e2 : decide (((m.length : Nat) : Int) ≤ (12 : Int)) = true := decide_eq_true (by omega)
    rw [e1, e2]
    rfl
  · refine run_ret ((ed_and (k := true) (l := true) ((ed_callB G.all boot_all (ea_cons (lcN0 1 (it_str (vr 0)) (by omega) (fun c => .bool (decide (c ∈ [120, 46]))) (fun c hc W1 l s H C cl fp => ed_cmp (vr 1) (ed_op (ed_gS [120] gS) (ed_gS [46] gH) (o_adds (by decide))) c_inS) sc.nd |>.ed sc.nd) ea_nil) (c_all (bs := m.map fun c => decide (c ∈ [120, 46])) rfl |> fun z => by rw [List.map_map] at z; exact z)).to ?_)
      (fun _ => ed_and (k := true) (l := true) ((ed_cmp (ed_ix (vr 0) ed_int (i_str (n := 0) (by omega) h4)) (ed_gS [120] gS) (c_eqS (l := [120]))).to ?_) fun _ => ed_one ((ed_cmp (ed_ix (vr 0) (ed_neg ed_int) (i_strL (by omega) h5)) (ed_gS [120] gS) (c_eqS (l := [120]))).to ?_)))) rfl
    · rw [List.all_map]
      exact congrArg PyData.bool h3
    · rfl
    · rfl
theorem fd_need_mask (F : FnP K "need_mask" s_need_mask f fd) (F1 : Fd P w K mg base k "is_mask" ["value"] (spR K R_is_mask)) : FnOk P w K mg base CX0 (k + 1) f fd ["mask"] (spR K R_need_mask) := by
  have sc : FnScope ["mask"] ["mask"] (defScope s_need_mask) := ⟨rfl, rfl, rfl, by decide +kernel, rfl, by decide +kernel, by decide +kernel⟩
  refine fd_pure F sc _ (fun ds d ⟨m, e, _⟩ => by rw [e]; rfl) fun cdv A outer s H E hr W ds d hrow hR => ?_
  obtain ⟨m, rfl, hm, rfl⟩ := hR
  exact run_if (k := false) (t_not (k := true) (et_val (ed_call F1 hr (ea_cons (vr 0) ea_nil) ⟨m, rfl, hm, rfl⟩))) (fun q => nomatch q) (fun _ => run_skip (run_end rfl))
theorem fd_seen_by (F : FnP K "seen_by" s_seen_by f fd) (G : Gs mg) (gS : gSEEN mg) : FnOk P w K mg base CX0 (k + 1) f fd ["mask"] (spR K R_seen_by) := by
  have sc : FnScope ["mask", "at", "sign"] ["mask"] (defScope s_seen_by) := ⟨rfl, rfl, rfl, by decide +kernel, rfl, by decide +kernel, by decide +kernel⟩
  refine fd_pure F sc _ (fun ds d ⟨m, e, _⟩ => by rw [e]; rfl) fun cdv A outer s H E hr W ds d hrow hR => ?_
  obtain ⟨m, rfl, hl, rfl⟩ := hR
  refine run_ret (lcP1 1 2 (it_enum (vr 0) G.enumerate rfl) (by simpa using hl) (fun q => decide (q.2 = 120)) (fun q => nn q.1) (fun q hq W1 l s H C cl fp => tc (vr 2) (ed_gS [120] gS) (c_eqS (m := [120])) |>.to ?_) (fun q hq hc W1 l s H C cl fp => vr 1) sc.nd |>.ed sc.nd) ?_
  · simp
  · show PyData.list _ = PyData.list _
    unfold seenL
    rw [List.map_map]
    rfl
theorem fd_seen (F : FnP K "seen" s_seen f fd) (F1 : Fd P w K mg base k "need_mask" ["mask"] (spR K R_need_mask)) (F2 : Fd P w K mg base k "seen_by" ["mask"] (spR K R_seen_by)) : FnOk P w K mg base CX0 (k + 1) f fd ["mask"] (spR K R_seen) := by
  have sc : FnScope ["mask"] ["mask"] (defScope s_seen) := ⟨rfl, rfl, rfl, by decide +kernel, rfl, by decide +kernel, by decide +kernel⟩
  refine fd_pure F sc _ (fun ds d ⟨m, e, _⟩ => by rw [e]; rfl) fun cdv A outer s H E hr W ds d hrow hR => ?_
  obtain ⟨m, rfl, hm, rfl⟩ := hR
  have := maskB_len hm
  exact run_expr (ed_call F1 hr (ea_cons (vr 0) ea_nil) ⟨m, rfl, hm, rfl⟩) (run_ret (ed_call F2 hr (ea_cons (vr 0) ea_nil) ⟨m, rfl, by omega, rfl⟩) rfl)
theorem fd_is_from (F : FnP K "is_from" s_is_from f fd) (G : Gs mg) : FnOk P w K mg base CX0 (k + 1) f fd ["value", "low", "high"] (spR K R_is_from) := by
  have sc : FnScope ["value", "low", "high"] ["value", "low", "high"] (defScope s_is_from) := ⟨rfl, rfl, rfl, by decide +kernel, rfl, by decide +kernel, by decide +kernel⟩
  refine fd_pure F sc _ (fun ds d ⟨v, a, b, e, _⟩ => by rw [e]; rfl) fun cdv A outer s H E hr W ds d hrow hR => ?_
  obtain ⟨v, a, b, rfl, rfl⟩ := hR
  exact run_ret (ed_and (k := true) (l := decide (a ≤ v) && decide (v ≤ b)) (ed_isi (T := "int") (vr 0) G.isinstance G.int (by decide +kernel)) fun _ => ed_and (k := true) (l := decide (a ≤ v) && decide (v ≤ b)) (ed_not (k := false) (ed_isi (T := "bool") (vr 0) G.isinstance G.bool (by decide +kernel))) fun _ => ed_one (ed_chain (vr 1) (vr 0) (fun _ => vr 2) c_le c_le)) rfl
theorem fd_together (F : FnP K "together" s_together f fd) (G : Gs mg) (gS : gSEEN mg) (gH : gHOLE mg) (gM : gMOST_MASK mg) (F1 : Fd P w K mg base k "need_mask" ["mask"] (spR K R_need_mask)) (F2 : Fd P w K mg base k "is_from" ["value", "low", "high"] (spR K R_is_from)) (F3 : Fd P w K mg base k "seen_by" ["mask"] (spR K R_seen_by)) : FnOk P w K mg base CX0 (k + 1) f fd ["one", "other", "far"] (spR K R_together) := by
  have sc : FnScope ["one", "other", "far", "places", "at"] ["one", "other", "far"] (defScope s_together) := ⟨rfl, rfl, rfl, by decide +kernel, rfl, by decide +kernel, by decide +kernel⟩
  refine fd_pure F sc _ (fun ds d ⟨_, _, _, e, _⟩ => by rw [e]; rfl) fun cdv A outer s H E hr W ds d hrow hR => ?_
  obtain ⟨a, b, q, rfl, ha, hb, hq, rfl⟩ := hR
  have hal := maskB_len ha
  have hbl := maskB_len hb
  have hsb := seenL_len b
  have hpl := togP_len (q := q) ha hb
  obtain ⟨P, hP⟩ : ∃ P, P = togP a b q := ⟨_, rfl⟩
  have hmax := maxP_spec P
  have hM : maxP P < 12 := togP_mem ha hb hq (by rw [← hP]; exact hmax.2 (by rw [hP]; exact togP_ne ha))
  have hPm : maxP P ∈ P := hmax.2 (by rw [hP]; exact togP_ne ha)
  refine run_expr (ed_call F1 hr (ea_cons (vr 0) ea_nil) ⟨a, rfl, ha, rfl⟩) (run_expr (ed_call F1 hr (ea_cons (vr 1) ea_nil) ⟨b, rfl, hb, rfl⟩) ?_)
  refine run_if (k := false) (t_not (k := true) (et_val ((ed_call F2 hr (ea_cons (vr 2) (ea_cons ed_int (ea_cons (ed_op (ed_gint gM) (lenS G (vr 1)) o_sub) ea_nil))) ⟨q, 0, 12 - (b.length : Int), rfl, rfl⟩).to (congrArg PyData.bool (by rw [Bool.and_eq_true, decide_eq_true_eq, decide_eq_true_eq]; omega))))) (fun q => nomatch q) (fun _ => run_skip ?_)
  refine run_set (d := nD P) 3 ((ed_op (ed_call F3 hr (ea_cons (vr 0) ea_nil) ⟨a, rfl, by omega, rfl⟩) (lcN0 4 (it_list (xs := seenL b) (enc := nn) (ed_call F3 hr (ea_cons (vr 1) ea_nil) ⟨b, rfl, by omega, rfl⟩)) (by omega) (fun x => nn (q + x)) (fun x hx W2 lw2 s2 H2 C2 cl2 fp2 => (ed_op (vr 2) (vr 4) o_add).to (congrArg PyData.int (by push_cast; rfl))) sc.nd |>.ed sc.nd) (o_cat (by rw [List.length_map, List.length_map]; have := seenL_len a; omega))).to ?hp) ?_ sc.nd
  case hp =>
    rw [hP]
    show PyData.list _ = PyData.list _
    unfold togP
    rw [List.map_append, List.map_map]
    rfl
  have e1 : nD P = .list ((P.map fun x : Nat => (x : Int)).map PyData.int) := by
    show PyData.list _ = PyData.list _
    rw [List.map_map]
    rfl
  refine run_ret (ed_joinC (maskOf P (maxP P)) (ed_S []) (lcN0 4 (it_range (n := maxP P + 1) (ed_op (ed_callB G.max boot_max (ea_cons ((vr 3).to e1) ea_nil) (c_max (z := (maxP P : Int)) rfl (List.mem_map.mpr ⟨_, hPm, rfl⟩) (fun y hy => by
    obtain ⟨x, hx, rfl⟩ := List.mem_map.mp hy
    have := hmax.1 x hx
    omega))) ed_int o_add) G.range) (by simp; omega) (fun i => sg (if i ∈ P then 120 else 46)) (fun i hi W1 lw s H C cl fp => (ed_if (tc (vr 4) (vr 3) c_inLI) (fun _ => ed_gS [120] gS) (fun _ => ed_gS [46] gH)).to (by
        by_cases z : i ∈ P
        · rw [if_pos (decide_eq_true z), if_pos z]
        · rw [if_neg (by simpa using z), if_neg z])) sc.nd |>.ed sc.nd) (by unfold maskOf; rw [List.map_map]; rfl) (by rw [maskOf_len]; omega)) ?_
  rw [hP]
  rfl
theorem fd_is_row (F : FnP K "is_row" s_is_row f fd) (G : Gs mg) (gL : gLETTERS mg) (gR : gMOST_ROW mg) : FnOk P w K mg base CX0 (k + 1) f fd ["value"] (spR K R_is_row) := by
  have sc : FnScope ["value", "sign"] ["value"] (defScope s_is_row) := ⟨rfl, rfl, rfl, by decide +kernel, rfl, by decide +kernel, by decide +kernel⟩
  refine fd_pure F sc _ (fun ds d ⟨m, e, _⟩ => by rw [e]; rfl) fun cdv A outer s H E hr W ds d hrow hR => ?_
  obtain ⟨l, rfl, hm, rfl⟩ := hR
  unfold rowB at hm
  simp only [Bool.and_eq_true, decide_eq_true_eq] at hm
  obtain ⟨h1, h2⟩ := hm
  refine run_ret (ed_and (k := true) (l := true) (ed_isi (T := "str") (vr 0) G.isinstance G.str (by decide +kernel)) fun _ => ed_and (k := true) (l := true) ((ed_cmp (ed_callB G.len boot_len (ea_cons (vr 0) ea_nil) (c_lenS (by omega))) (ed_gint gR) c_le).to ?_) fun _ => ed_one ((ed_callB G.all boot_all (ea_cons (lcN0 1 (it_str (vr 0)) (by omega) (fun c => .bool (decide (c ∈ [97, 98, 99, 100]))) (fun c hc W1 l s H C cl fp => ed_cmp (vr 1) (ed_gS [97, 98, 99, 100] gL) c_inS) sc.nd |>.ed sc.nd) ea_nil) (c_all (bs := l.map fun c => decide (c ∈ [97, 98, 99, 100])) rfl |> fun z => by rw [List.map_map] at z; exact z)).to ?_)) rfl
  · exact congrArg PyData.bool (decide_eq_true (by omega))
  · rw [List.all_map]
    exact congrArg PyData.bool h2
theorem fd_need_row (F : FnP K "need_row" s_need_row f fd) (F1 : Fd P w K mg base k "is_row" ["value"] (spR K R_is_row)) : FnOk P w K mg base CX0 (k + 1) f fd ["row"] (spR K R_need_row) := by
  have sc : FnScope ["row"] ["row"] (defScope s_need_row) := ⟨rfl, rfl, rfl, by decide +kernel, rfl, by decide +kernel, by decide +kernel⟩
  refine fd_pure F sc _ (fun ds d ⟨m, e, _⟩ => by rw [e]; rfl) fun cdv A outer s H E hr W ds d hrow hR => ?_
  obtain ⟨m, rfl, hm, rfl⟩ := hR
  exact run_if (k := false) (t_not (k := true) (et_val (ed_call F1 hr (ea_cons (vr 0) ea_nil) ⟨m, rfl, hm, rfl⟩))) (fun q => nomatch q) (fun _ => run_skip (run_end rfl))
theorem fd_view_by (F : FnP K "view_by" s_view_by f fd) (G : Gs mg) (F1 : Fd P w K mg base k "seen_by" ["mask"] (spR K R_seen_by)) : FnOk P w K mg base CX0 (k + 1) f fd ["row", "mask", "place"] (spR K R_view_by) := by
  have sc : FnScope ["row", "mask", "place", "at"] ["row", "mask", "place"] (defScope s_view_by) := ⟨rfl, rfl, rfl, by decide +kernel, rfl, by decide +kernel, by decide +kernel⟩
  refine fd_pure F sc _ (fun ds d ⟨l, m, p, e, _⟩ => by rw [e]; rfl) fun cdv A outer s H E hr W ds d hrow hR => ?_
  obtain ⟨l, m, p, rfl, h1, h2, h3, rfl⟩ := hR
  have h4 := seenL_len m
  refine run_ret (ed_joinC (viewL l m p) (ed_S []) (lcN0 3 (it_list (enc := nn) (xs := seenL m) (ed_call F1 hr (ea_cons (vr 1) ea_nil) ⟨m, rfl, by omega, rfl⟩)) (by omega) (fun a => sg (l.getD (p + a) 0)) (fun a ha W2 lw2 s2 H2 C2 cl2 fp2 => ed_ix (vr 0) (ed_op (vr 2) (vr 3) o_add) (i_str (n := p + a) (by omega) (by
        have h5 := mem_seen ha
        have : p + a < l.length := by omega
        rw [List.getD_eq_getElem?_getD, List.getElem?_eq_getElem this]
        rfl) (by push_cast; rfl))) sc.nd |>.ed sc.nd) (by unfold viewL; rw [List.map_map]; rfl) (by unfold viewL; simp; omega)) rfl
theorem fd_views_of (F : FnP K "views_of" s_views_of f fd) (G : Gs mg) (F1 : Fd P w K mg base k "view_by" ["row", "mask", "place"] (spR K R_view_by)) : FnOk P w K mg base CX0 (k + 1) f fd ["row", "mask"] (spR K R_views_of) := by
  have sc : FnScope ["row", "mask", "place"] ["row", "mask"] (defScope s_views_of) := ⟨rfl, rfl, rfl, by decide +kernel, rfl, by decide +kernel, by decide +kernel⟩
  refine fd_pure F sc _ (fun ds d ⟨l, m, e, _⟩ => by rw [e]; rfl) fun cdv A outer s H E hr W ds d hrow hR => ?_
  obtain ⟨l, m, rfl, h1, h2, h3, rfl⟩ := hR
  refine run_ret (lcN0 2 (it_range (n := l.length + 1 - m.length) (ed_op (ed_op (ed_callB G.len boot_len (ea_cons (vr 0) ea_nil) (c_lenS (by omega))) (ed_callB G.len boot_len (ea_cons (vr 1) ea_nil) (c_lenS (by omega))) o_sub) ed_int o_add) G.range) (by simp; omega) (fun p => sD (viewL l m p)) (fun p hp W2 lw2 s2 H2 C2 cl2 fp2 => ed_call F1 hr (ea_cons (vr 0) (ea_cons (vr 1) (ea_cons (vr 2) ea_nil))) ⟨l, m, p, rfl, by omega, by omega, by
    have := List.mem_range.mp hp
    omega, rfl⟩) sc.nd |>.ed sc.nd) ?_
  show PyData.list _ = PyData.list _
  unfold viewsL
  rw [List.map_map]
  rfl
theorem fd_views (F : FnP K "views" s_views f fd) (F1 : Fd P w K mg base k "need_row" ["row"] (spR K R_need_row)) (F2 : Fd P w K mg base k "need_mask" ["mask"] (spR K R_need_mask)) (F3 : Fd P w K mg base k "views_of" ["row", "mask"] (spR K R_views_of)) : FnOk P w K mg base CX0 (k + 1) f fd ["row", "mask"] (spR K R_views) := by
  have sc : FnScope ["row", "mask"] ["row", "mask"] (defScope s_views) := ⟨rfl, rfl, rfl, by decide +kernel, rfl, by decide +kernel, by decide +kernel⟩
  refine fd_pure F sc _ (fun ds d ⟨l, m, e, _⟩ => by rw [e]; rfl) fun cdv A outer s H E hr W ds d hrow hR => ?_
  obtain ⟨l, m, rfl, h1, h3, rfl⟩ := hR
  have := rowB_len h1
  have := maskB_len h3
  have := maskB_pos h3
  exact run_expr (ed_call F1 hr (ea_cons (vr 0) ea_nil) ⟨l, rfl, h1, rfl⟩) (run_expr (ed_call F2 hr (ea_cons (vr 1) ea_nil) ⟨m, rfl, h3, rfl⟩) (run_ret (ed_call F3 hr (ea_cons (vr 0) (ea_cons (vr 1) ea_nil)) ⟨l, m, rfl, by omega, by omega, by omega, rfl⟩) rfl))
theorem fd_tells_by (F : FnP K "tells_by" s_tells_by f fd) (G : Gs mg) (F3 : Fd P w K mg base k "views_of" ["row", "mask"] (spR K R_views_of)) : FnOk P w K mg base CX0 (k + 1) f fd ["row", "mask"] (spR K R_tells_by) := by
  have sc : FnScope ["row", "mask", "told"] ["row", "mask"] (defScope s_tells_by) := ⟨rfl, rfl, rfl, by decide +kernel, rfl, by decide +kernel, by decide +kernel⟩
  refine fd_pure F sc _ (fun ds d ⟨l, m, e, _⟩ => by rw [e]; rfl) fun cdv A outer s H E hr W ds d hrow hR => ?_
  obtain ⟨l, m, rfl, h1, h2, h3, rfl⟩ := hR
  have hl := viewsL_len l m
  refine run_set 2 (ed_call F3 hr (ea_cons (vr 0) (ea_cons (vr 1) ea_nil)) ⟨l, m, rfl, by omega, by omega, by omega, rfl⟩) (run_ret (ed_cmp (ed_lenSet (ws := viewsL l m) (vr 2) G.len G.set rfl rfl (by omega)) (ed_callB G.len boot_len (ea_cons (vr 2) ea_nil) c_lenL) c_eqI) ?_) sc.nd
  refine congrArg PyData.bool (decide_eq_decide.mpr ?_)
  rw [List.length_map, ← uq_len_iff]
  omega
theorem fd_tells (F : FnP K "tells" s_tells f fd) (F1 : Fd P w K mg base k "need_row" ["row"] (spR K R_need_row)) (F2 : Fd P w K mg base k "need_mask" ["mask"] (spR K R_need_mask)) (F3 : Fd P w K mg base k "tells_by" ["row", "mask"] (spR K R_tells_by)) : FnOk P w K mg base CX0 (k + 1) f fd ["row", "mask"] (spR K R_tells) := by
  have sc : FnScope ["row", "mask"] ["row", "mask"] (defScope s_tells) := ⟨rfl, rfl, rfl, by decide +kernel, rfl, by decide +kernel, by decide +kernel⟩
  refine fd_pure F sc _ (fun ds d ⟨l, m, e, _⟩ => by rw [e]; rfl) fun cdv A outer s H E hr W ds d hrow hR => ?_
  obtain ⟨l, m, rfl, h1, h3, rfl⟩ := hR
  have := rowB_len h1
  have := maskB_len h3
  have := maskB_pos h3
  exact run_expr (ed_call F1 hr (ea_cons (vr 0) ea_nil) ⟨l, rfl, h1, rfl⟩) (run_expr (ed_call F2 hr (ea_cons (vr 1) ea_nil) ⟨m, rfl, h3, rfl⟩) (run_ret (ed_call F3 hr (ea_cons (vr 0) (ea_cons (vr 1) ea_nil)) ⟨l, m, rfl, by omega, by omega, by omega, rfl⟩) rfl))
theorem fd_alike (F : FnP K "alike" s_alike f fd) (G : Gs mg) (F1 : Fd P w K mg base k "need_row" ["row"] (spR K R_need_row)) (F2 : Fd P w K mg base k "need_mask" ["mask"] (spR K R_need_mask)) (F3 : Fd P w K mg base k "views_of" ["row", "mask"] (spR K R_views_of)) : FnOk P w K mg base CX0 (k + 1) f fd ["row", "mask"] (spR K R_alike) := by
  have sc : FnScope ["row", "mask", "told", "one", "view"] ["row", "mask"] (defScope s_alike) := ⟨rfl, rfl, rfl, by decide +kernel, rfl, by decide +kernel, by decide +kernel⟩
  refine fd_pure F sc _ (fun ds d ⟨l, m, e, _⟩ => by rw [e]; rfl) fun cdv A outer s H E hr W ds d hrow hR => ?_
  obtain ⟨l, m, rfl, h1, h3, rfl⟩ := hR
  have := rowB_len h1
  have := maskB_len h3
  have := maskB_pos h3
  refine run_expr (ed_call F1 hr (ea_cons (vr 0) ea_nil) ⟨l, rfl, h1, rfl⟩) (run_expr (ed_call F2 hr (ea_cons (vr 1) ea_nil) ⟨m, rfl, h3, rfl⟩) ?_)
  obtain ⟨ws, hws⟩ : ∃ ws, ws = viewsL l m := ⟨_, rfl⟩
  refine run_set (d := wD ws) 2 ((ed_call F3 hr (ea_cons (vr 0) (ea_cons (vr 1) ea_nil)) ⟨l, m, rfl, by omega, by omega, by omega, rfl⟩).to (by rw [hws])) ?_ sc.nd
  rw [← hws]
  refine run_for2P (e1 := fun q : Nat × List Nat => nn q.1) (e2 := fun q => sD q.2) 3 4 (it_enum (xs := ws) (enc := sD) (vr 2) G.enumerate rfl) (fun _ => [.no, .no, .d (wD ws), .no, .no]) (fun _ => []) (fun i => ∀ j, j < i → likeJ ws j = []) (fun j hj => by omega) (fun W1 lw i q hq h0 => ?_) (fun h0 => ?_) sc.nd
  · rw [List.getElem?_mapIdx] at hq
    obtain ⟨z, hz, rfl⟩ := Option.map_eq_some_iff.mp hq
    have hi := (List.getElem?_eq_some_iff.mp hz).1
    refine run_if (k := decide (z ∈ ws.drop (i + 1))) (tc (vr 4) ((ed_sl (vr 2) (so_some (ed_op (vr 3) ed_int o_add)) so_none (s_listD (i + 1))).to (by show PyData.list _ = PyData.list _; rw [List.map_drop])) c_inLS) (fun q => ?_) (fun q => run_skip ?_)
    · obtain ⟨j, g1, g2, g3, g4⟩ := like_hit hz (of_decide_eq_true q)
      have ha := like_head ws hi h0 g4
      refine run_ret (ed_tup (ea_cons (vr 3) (ea_cons (ed_indexFrom (st := i + 1) (vr 2) (vr 4) (ed_op (vr 3) ed_int o_add) g1 g2 g3) ea_nil)) (by simp)) ?_ lw
      rw [ha]
      rfl
    · refine run_eP fun j hj => ?_
      by_cases e : j = i
      · subst e
        exact like_miss hz (of_decide_eq_false q)
      · exact h0 j (by omega)
  · rw [List.length_mapIdx] at h0
    refine run_ret ed_non ?_
    rw [like_none ws h0]
    rfl
theorem fd_groups (F : FnP K "groups" s_groups f fd) (G : Gs mg) (F1 : Fd P w K mg base k "need_row" ["row"] (spR K R_need_row)) (F2 : Fd P w K mg base k "need_mask" ["mask"] (spR K R_need_mask)) (F3 : Fd P w K mg base k "views_of" ["row", "mask"] (spR K R_views_of)) : FnOk P w K mg base CX0 (k + 1) f fd ["row", "mask"] (spR K R_groups) := by
  have sc : FnScope ["row", "mask", "told", "found", "place", "view", "places"] ["row", "mask"] (defScope s_groups) := ⟨rfl, rfl, rfl, by decide +kernel, rfl, by decide +kernel, by decide +kernel⟩
  refine fd_pure F sc _ (fun ds d ⟨l, m, e, _⟩ => by rw [e]; rfl) fun cdv A outer s H E hr W ds d hrow hR => ?_
  obtain ⟨l, m, rfl, h1, h3, rfl⟩ := hR
  have := rowB_len h1
  have := maskB_len h3
  have := maskB_pos h3
  have hvl := viewsL_len l m
  have hu := hr.units
  refine run_expr (ed_call F1 hr (ea_cons (vr 0) ea_nil) ⟨l, rfl, h1, rfl⟩) (run_expr (ed_call F2 hr (ea_cons (vr 1) ea_nil) ⟨m, rfl, h3, rfl⟩) ?_)
  obtain ⟨ws, hws⟩ : ∃ ws, ws = viewsL l m := ⟨_, rfl⟩
  refine run_set (d := wD ws) 2 ((ed_call F3 hr (ea_cons (vr 0) (ea_cons (vr 1) ea_nil)) ⟨l, m, rfl, by omega, by omega, by omega, rfl⟩).to (by rw [hws])) ?_ sc.nd
  rw [← hws]
  rw [← hws] at hvl
  refine run_newD 3 (fun a => ?_) sc.nd
  refine run_for2S (e1 := fun q : Nat × List Nat => nn q.1) (e2 := fun q => sD q.2) 4 5 (it_enum (xs := ws) (enc := sD) (vr 2) G.enumerate rfl) (fun _ => [.no, .no, .d (wD ws), .r a, .no, .no, .no]) (fun i => [(a, .dK (grpK ws i))]) (fun W1 lw i q hq => ?_) ?_ sc.nd
  · rw [List.getElem?_mapIdx] at hq
    obtain ⟨z, hz, rfl⟩ := Option.map_eq_some_iff.mp hq
    have hi := (List.getElem?_eq_some_iff.mp hz).1
    have hw := wAt_of hz
    have hgl := grp_len ws i
    have hpl := plc_len ws i z
    have hp := grp_put ws i
    rw [hw] at hp
    refine run_dput (l := a) (kvs := grpK ws i) (k := kS z) (d := tupN (plcN ws i z ++ [i])) 3 0 hu ?hv (vr 5) (by omega) ?_
    case hv =>
      have e : PyData.tuple ((plcN ws i z).map nn ++ [nn i]) = tupN (plcN ws i z ++ [i]) := by rw [tupN, List.map_append]; rfl
      rw [← e]
      refine ed_op (ed_dget2 (l := a) (kvs := grpK ws i) (k := kS z) (d := .tuple []) 3 0 hu (vr 5) (ed_tup ea_nil (by simp))) (ed_tup (ea_cons (vr 4) ea_nil) (by simp)) ?_
      rw [grp_get]
      exact o_catT (by simp; omega)
    show Run _ _ _ [(a, .dK (pK (grpK ws i) (kS z) (tupN (plcN ws i z ++ [i]))))] _ _
    rw [hp]
    exact run_e
  · rw [List.length_mapIdx]
    refine run_frzK 3 ?_
    have hgl := grp_len ws ws.length
    refine run_ret (d := .list (sortD (grpsL ws ws.length))) (ed_callB G.sorted boot_sorted (ea_cons (lcN1 (xs := (grpK ws ws.length).map (·.2)) (enc := fun y => y) 6 (it_fvals (vr 3)) (by rw [List.length_map]; omega) isLot (fun y => y) (fun x hx W1 lw s H C cl fp => ?_) (fun x hx hc W1 lw s H C cl fp => vr 6) sc.nd |>.ed sc.nd) ea_nil) ?hs) ?_
    · obtain ⟨t, rfl, ht⟩ := mem_grp hx
      exact tc (lenT G (vr 6)) ed_int c_gt |>.to (decide_eq_decide.mpr (by rw [List.length_map]; omega))
    · rw [List.map_id', grp_vals]
      refine c_sortedD hu (grps_alike ws _) (grps_sortable ws _ (Nat.le_refl _)) ?_ ?_ ?_
      · unfold grpsL
        rw [List.length_map]
        exact Nat.le_trans (List.length_filter_le ..) (by simp; omega)
      · intro d hd
        obtain ⟨i, _, rfl⟩ := List.mem_map.mp hd
        rw [dep_tupN]
        omega
      · exact nodAll_map (f := fun i => tupN (plcN ws ws.length (wAt ws i))) (fun i => nod_tupN _) _
    · rw [grps_sorted]
theorem fd_unlike (F : FnP K "unlike" s_unlike f fd) (G : Gs mg) : FnOk P w K mg base CX0 (k + 1) f fd ["one", "other"] (spR K R_unlike) := by
  have sc : FnScope ["one", "other", "left", "right"] ["one", "other"] (defScope s_unlike) := ⟨rfl, rfl, rfl, by decide +kernel, rfl, by decide +kernel, by decide +kernel⟩
  refine fd_pure F sc _ (fun ds d ⟨a, b, e, _⟩ => by rw [e]; rfl) fun cdv A outer s H E hr W ds d hrow hR => ?_
  obtain ⟨a, b, rfl, h1, h2, rfl⟩ := hR
  refine run_ret ((ed_callB G.len boot_len (ea_cons (lcP1 2 3 (it_zip (xs := a) (ys := b) (enc := sg) (enc2 := sg) (vr 0) (vr 1) G.zip rfl rfl) (by simp; omega) (fun q => decide (q.1 ≠ q.2)) (fun _ => .int 1) (fun q hq W1 lw s H C cl fp => tc (vr 2) (vr 3) (c_neS (l := [q.1]) (m := [q.2])) |>.to (by simp)) (fun q hq hc W1 lw s H C cl fp => ed_int) sc.nd |>.ed sc.nd) ea_nil) c_lenL).to (by rw [List.length_map]; rfl)) rfl
theorem fd_distance_of (F : FnP K "distance_of" s_distance_of f fd) (G : Gs mg) (F1 : Fd P w K mg base k "unlike" ["one", "other"] (spR K R_unlike)) : FnOk P w K mg base CX0 (k + 1) f fd ["told"] (spR K R_distance_of) := by
  have sc : FnScope ["told", "found", "other", "one"] ["told"] (defScope s_distance_of) := ⟨rfl, rfl, rfl, by decide +kernel, rfl, by decide +kernel, by decide +kernel⟩
  refine fd_pure F sc _ (fun ds d ⟨ws, e, _⟩ => by rw [e]; rfl) fun cdv A outer s H E hr W ds d hrow hR => ?_
  obtain ⟨ws, rfl, h1, h2, rfl⟩ := hR
  have hu := hr.units
  have hdl := distL_len ws
  have hsz : ws.length * ws.length ≤ 16000000 := Nat.mul_le_mul h1 h1
  have hg : ∀ i, i < ws.length → (ws.map sD)[i]? = some (sD (ws.getD i [])) := fun i hi => by
    rw [List.getElem?_map, List.getD_eq_getElem?_getD, List.getElem?_eq_getElem hi]
    rfl
  have hl : ∀ i, i < ws.length → (ws.getD i []).length ≤ 4000 := fun i hi => by
    rw [List.getD_eq_getElem?_getD, List.getElem?_eq_getElem hi]
    exact h2 _ (List.getElem_mem hi)
  have e : ((List.range ws.length).flatMap fun o => (List.range o).map fun i => nn (unlikeN (ws.getD i []) (ws.getD o []))) = (distL ws).map nn := by
    unfold distL
    rw [List.map_flatMap]
    congr 1
    funext o
    rw [List.map_map]
    rfl
  refine run_setLc2 1 2 3 (it_range (n := ws.length) (lenLw G (vr 0)) G.range) (fun o => List.range o) (fun o i => nn (unlikeN (ws.getD i []) (ws.getD o []))) (by rw [e, List.length_map]; omega) (fun o ho W2 lw2 s2 H2 C2 cl2 fp2 => it_range (n := o) (vr 2) G.range (by omega) (by have := List.mem_range.mp ho; omega)) (fun o ho i hi W2 lw2 s2 H2 C2 cl2 fp2 => ?_) ?_ sc.nd
  · have ho' := List.mem_range.mp ho
    have hi' := List.mem_range.mp hi
    exact ed_call F1 hr (ea_cons (ed_ix (vr 0) (vr 3) (i_list (hg i (by omega)))) (ea_cons (ed_ix (vr 0) (vr 2) (i_list (hg o ho'))) ea_nil)) ⟨_, _, rfl, hl _ (by omega), hl _ ho', rfl⟩
  · rw [e]
    refine run_ret (ed_if (x := optN (distL ws).min?) (y := .none) (k := !((distL ws).map nn).isEmpty) (tc (vr 1) (ed_lst ea_nil (by simp)) (c_neNil hu (Shp.list (n := 0) fun x hx => by
      obtain ⟨y, _, rfl⟩ := List.mem_map.mp hx
      exact Shp.int))) (fun q => ?_) (fun q => ed_non)) ?_
    · cases em : (distL ws).min? with
      | none =>
        have : distL ws = [] := List.min?_eq_none_iff.mp em
        rw [this] at q
        cases q
      | some z =>
        obtain ⟨g1, g2⟩ := List.min?_eq_some_iff.mp em
        have em2 : (distL ws).map nn = ((distL ws).map fun x : Nat => (x : Int)).map PyData.int := by rw [List.map_map]; rfl
        rw [em2]
        refine ed_callB G.min boot_min (ea_cons (vr 1) ea_nil) (c_min (ns := (distL ws).map fun x : Nat => (x : Int)) rfl (List.mem_map.mpr ⟨z, g1, rfl⟩) fun y hy => ?_)
        obtain ⟨x, hx, rfl⟩ := List.mem_map.mp hy
        have := g2 x hx
        omega
    · show (if _ then _ else _) = _
      cases em : (distL ws).min? with
      | none => split <;> rfl
      | some z =>
        rw [if_pos]
        obtain ⟨g1, g2⟩ := List.min?_eq_some_iff.mp em
        cases ed : distL ws with
        | nil => rw [ed] at g1; cases g1
        | cons a l => rfl
theorem fd_distance (F : FnP K "distance" s_distance f fd) (F1 : Fd P w K mg base k "need_row" ["row"] (spR K R_need_row)) (F2 : Fd P w K mg base k "need_mask" ["mask"] (spR K R_need_mask)) (F3 : Fd P w K mg base k "views_of" ["row", "mask"] (spR K R_views_of)) (F4 : Fd P w K mg base k "distance_of" ["told"] (spR K R_distance_of)) : FnOk P w K mg base CX0 (k + 1) f fd ["row", "mask"] (spR K R_distance) := by
  have sc : FnScope ["row", "mask"] ["row", "mask"] (defScope s_distance) := ⟨rfl, rfl, rfl, by decide +kernel, rfl, by decide +kernel, by decide +kernel⟩
  refine fd_pure F sc _ (fun ds d ⟨l, m, e, _⟩ => by rw [e]; rfl) fun cdv A outer s H E hr W ds d hrow hR => ?_
  obtain ⟨l, m, rfl, h1, h3, rfl⟩ := hR
  have := rowB_len h1
  have := maskB_len h3
  have := maskB_pos h3
  have hvl := viewsL_len l m
  have hv := views_small l m
  exact run_expr (ed_call F1 hr (ea_cons (vr 0) ea_nil) ⟨l, rfl, h1, rfl⟩) (run_expr (ed_call F2 hr (ea_cons (vr 1) ea_nil) ⟨m, rfl, h3, rfl⟩) (run_ret (ed_call F4 hr (ea_cons (ed_call F3 hr (ea_cons (vr 0) (ea_cons (vr 1) ea_nil)) ⟨l, m, rfl, by omega, by omega, by omega, rfl⟩) ea_nil) ⟨viewsL l m, rfl, by omega, fun w hw => by have := hv w hw; omega, rfl⟩) rfl))
theorem fd_stands (F : FnP K "stands" s_stands f fd) (gM : gMOST_WRONG mg) (F1 : Fd P w K mg base k "need_row" ["row"] (spR K R_need_row)) (F2 : Fd P w K mg base k "need_mask" ["mask"] (spR K R_need_mask)) (F5 : Fd P w K mg base k "is_from" ["value", "low", "high"] (spR K R_is_from)) (F3 : Fd P w K mg base k "views_of" ["row", "mask"] (spR K R_views_of)) (F4 : Fd P w K mg base k "distance_of" ["told"] (spR K R_distance_of)) : FnOk P w K mg base CX0 (k + 1) f fd ["row", "mask", "wrong", "covered"] (spR K R_stands) := by
  have sc : FnScope ["row", "mask", "wrong", "covered", "least"] ["row", "mask", "wrong", "covered"] (defScope s_stands) := ⟨rfl, rfl, rfl, by decide +kernel, rfl, by decide +kernel, by decide +kernel⟩
  refine fd_pure F sc _ (fun ds d ⟨l, m, a, b, e, _⟩ => by rw [e]; rfl) fun cdv A outer s H E hr W ds d hrow hR => ?_
  obtain ⟨l, m, a, b, rfl, h1, h3, ha, hb, rfl⟩ := hR
  have := rowB_len h1
  have := maskB_len h3
  have := maskB_pos h3
  have hvl := viewsL_len l m
  have hv := views_small l m
  have ok : ∀ c : Nat, c ≤ 12 → (!(decide ((0 : Int) ≤ (c : Int)) && decide ((c : Int) ≤ (12 : Int)))) = false := fun c hc => by
    rw [decide_eq_true (by omega), decide_eq_true (by omega)]
    rfl
  refine run_expr (ed_call F1 hr (ea_cons (vr 0) ea_nil) ⟨l, rfl, h1, rfl⟩) (run_expr (ed_call F2 hr (ea_cons (vr 1) ea_nil) ⟨m, rfl, h3, rfl⟩) ?_)
  refine run_if (k := false) (t_not (et_val (ed_call F5 hr (ea_cons (vr 2) (ea_cons ed_int (ea_cons (ed_gint gM) ea_nil))) ⟨a, 0, 12, rfl, rfl⟩)) |>.to (ok a ha)) (fun q => nomatch q) (fun _ => run_skip ?_)
  refine run_if (k := false) (t_not (et_val (ed_call F5 hr (ea_cons (vr 3) (ea_cons ed_int (ea_cons (ed_gint gM) ea_nil))) ⟨b, 0, 12, rfl, rfl⟩)) |>.to (ok b hb)) (fun q => nomatch q) (fun _ => run_skip ?_)
  refine run_set 4 (ed_call F4 hr (ea_cons (ed_call F3 hr (ea_cons (vr 0) (ea_cons (vr 1) ea_nil)) ⟨l, m, rfl, by omega, by omega, by omega, rfl⟩) ea_nil) ⟨viewsL l m, rfl, by omega, fun w hw => by have := hv w hw; omega, rfl⟩) ?_ sc.nd
  unfold standsB
  cases em : (distL (viewsL l m)).min? with
  | none => exact run_ret (ed_or (k := true) (l := true) (ed_cmp (vr 4) ed_non c_isN) (fun q => nomatch q)) rfl
  | some z => exact run_ret (ed_or (k := false) (l := decide (2 * a + b < z)) (ed_cmp (vr 4) ed_non c_isN) (fun q => ed_one ((ed_cmp (vr 4) (ed_op (ed_op ed_int (vr 2) (o_mul (.inl (by omega)))) (vr 3) o_add) c_gt).to (congrArg PyData.bool (decide_eq_decide.mpr (by omega)))))) rfl
theorem fd_is_view (F : FnP K "is_view" s_is_view f fd) (G : Gs mg) (gL : gLETTERS mg) (gO : gOPEN mg) (F1 : Fd P w K mg base k "seen_by" ["mask"] (spR K R_seen_by)) : FnOk P w K mg base CX0 (k + 1) f fd ["mask", "value"] (spR K R_is_view) := by
  have sc : FnScope ["mask", "value", "sign"] ["mask", "value"] (defScope s_is_view) := ⟨rfl, rfl, rfl, by decide +kernel, rfl, by decide +kernel, by decide +kernel⟩
  refine fd_pure F sc _ (fun ds d ⟨m, t, e, _⟩ => by rw [e]; rfl) fun cdv A outer s H E hr W ds d hrow hR => ?_
  obtain ⟨m, t, rfl, hm, ht, rfl⟩ := hR
  unfold lookB at ht
  rw [Bool.and_eq_true, decide_eq_true_iff] at ht
  obtain ⟨h1, h2⟩ := ht
  have h3 := seenL_len m
  refine run_if (k := false) ((t_or (t_not (et_val (ed_isi (T := "str") (vr 1) G.isinstance G.str (by decide +kernel)))) fun _ => tc (lenS G (vr 1)) (lenL G (ed_call F1 hr (ea_cons (vr 0) ea_nil) ⟨m, rfl, by omega, rfl⟩)) c_neI).to ?_) (fun q => nomatch q) (fun _ => run_skip ?_)
  · rw [List.length_map, h1]
    simp
  · refine run_ret (ed_callB G.all boot_all (ea_cons (lcN0 2 (it_str (vr 1)) (by omega) (fun c => .bool (decide (c ∈ [97, 98, 99, 100, 63]))) (fun c hc W1 l s H C cl fp => ed_cmp (vr 2) (ed_op (ed_gS [97, 98, 99, 100] gL) (ed_gS [63] gO) (o_adds (by decide))) c_inS) sc.nd |>.ed sc.nd) ea_nil) (c_all (bs := t.map fun c => decide (c ∈ [97, 98, 99, 100, 63])) rfl |> fun z => by rw [List.map_map] at z; exact z)) ?_
    rw [List.all_map]
    exact congrArg PyData.bool h2
theorem fd_misses (F : FnP K "misses" s_misses f fd) (G : Gs mg) (gO : gOPEN mg) : FnOk P w K mg base CX0 (k + 1) f fd ["view", "told"] (spR K R_misses) := by
  have sc : FnScope ["view", "told", "left", "right"] ["view", "told"] (defScope s_misses) := ⟨rfl, rfl, rfl, by decide +kernel, rfl, by decide +kernel, by decide +kernel⟩
  refine fd_pure F sc _ (fun ds d ⟨a, b, e, _⟩ => by rw [e]; rfl) fun cdv A outer s H E hr W ds d hrow hR => ?_
  obtain ⟨a, b, rfl, h1, h2, rfl⟩ := hR
  refine run_ret ((lenL G (lcP1 2 3 (it_zip (xs := a) (ys := b) (enc := sg) (enc2 := sg) (vr 0) (vr 1) G.zip rfl rfl) (by simp; omega) (fun q => decide (q.2 ≠ 63) && decide (q.1 ≠ q.2)) (fun _ => .int 1) (fun q hq W1 lw s H C cl fp => t_and (tc (vr 3) (ed_gS [63] gO) (c_neS (l := [q.2]) (m := [63])) |>.to (by simp)) fun _ => tc (vr 2) (vr 3) (c_neS (l := [q.1]) (m := [q.2])) |>.to (by simp)) (fun q hq hc W1 lw s H C cl fp => ed_int) sc.nd |>.ed sc.nd)).to (by rw [List.length_map]; rfl)) rfl
theorem fd_find (F : FnP K "find" s_find f fd) (G : Gs mg) (F1 : Fd P w K mg base k "need_row" ["row"] (spR K R_need_row)) (F2 : Fd P w K mg base k "need_mask" ["mask"] (spR K R_need_mask)) (F3 : Fd P w K mg base k "is_view" ["mask", "value"] (spR K R_is_view)) (F4 : Fd P w K mg base k "views_of" ["row", "mask"] (spR K R_views_of)) (F5 : Fd P w K mg base k "misses" ["view", "told"] (spR K R_misses)) : FnOk P w K mg base CX0 (k + 1) f fd ["row", "mask", "told"] (spR K R_find) := by
  have sc : FnScope ["row", "mask", "told", "place", "view"] ["row", "mask", "told"] (defScope s_find) := ⟨rfl, rfl, rfl, by decide +kernel, rfl, by decide +kernel, by decide +kernel⟩
  refine fd_pure F sc _ (fun ds d ⟨l, m, t, e, _⟩ => by rw [e]; rfl) fun cdv A outer s H E hr W ds d hrow hR => ?_
  obtain ⟨l, m, t, rfl, h1, h2, h3, rfl⟩ := hR
  have hl := rowB_len h1
  have hm := maskB_len h2
  have hm1 := maskB_pos h2
  have htl := (lookB_iff.mp h3).1
  have hsl := seenL_len m
  have hvl := viewsL_len l m
  have hv : ∀ q ∈ (viewsL l m).mapIdx Prod.mk, q.2.length ≤ 4000 := fun q hq => by
    obtain ⟨i, hi, e⟩ := List.mem_iff_getElem.mp hq
    have : q.2 ∈ viewsL l m := by
      rw [← e, List.getElem_mapIdx]
      exact List.getElem_mem _
    have := views_small l m _ this
    omega
  refine run_expr (ed_call F1 hr (ea_cons (vr 0) ea_nil) ⟨l, rfl, h1, rfl⟩) (run_expr (ed_call F2 hr (ea_cons (vr 1) ea_nil) ⟨m, rfl, h2, rfl⟩) ?_)
  refine run_if (k := false) (t_not (k := true) (et_val (ed_call F3 hr (ea_cons (vr 1) (ea_cons (vr 2) ea_nil)) ⟨m, t, rfl, by omega, h3, rfl⟩))) (fun q => nomatch q) (fun _ => run_skip ?_)
  refine run_ret (lcP1 (e1 := fun q : Nat × List Nat => nn q.1) (e2 := fun q => sD q.2) 3 4 (it_enum (xs := viewsL l m) (enc := sD) (ed_call F4 hr (ea_cons (vr 0) (ea_cons (vr 1) ea_nil)) ⟨l, m, rfl, by omega, hm1, by omega, rfl⟩) G.enumerate rfl) (by rw [List.length_mapIdx]; omega) (fun q => decide (missN q.2 t = 0)) (fun q => nn q.1) (fun q hq W1 lw s H C cl fp => tc (ed_call F5 hr (ea_cons (vr 4) (ea_cons (vr 2) ea_nil)) ⟨q.2, t, rfl, hv q hq, by omega, rfl⟩) ed_int c_eqI |>.to (decide_eq_decide.mpr (by omega))) (fun q hq hc W1 lw s H C cl fp => vr 3) sc.nd |>.ed sc.nd) ?_
  show PyData.list _ = PyData.list _
  rw [← enum_idx]
theorem fd_near (F : FnP K "near" s_near f fd) (G : Gs mg) (gW : gMOST_WRONG mg) (F1 : Fd P w K mg base k "need_row" ["row"] (spR K R_need_row)) (F2 : Fd P w K mg base k "need_mask" ["mask"] (spR K R_need_mask)) (F3 : Fd P w K mg base k "is_view" ["mask", "value"] (spR K R_is_view)) (F6 : Fd P w K mg base k "is_from" ["value", "low", "high"] (spR K R_is_from)) (F4 : Fd P w K mg base k "views_of" ["row", "mask"] (spR K R_views_of)) (F5 : Fd P w K mg base k "misses" ["view", "told"] (spR K R_misses)) : FnOk P w K mg base CX0 (k + 1) f fd ["row", "mask", "told", "wrong"] (spR K R_near) := by
  have sc : FnScope ["row", "mask", "told", "wrong", "place", "view"] ["row", "mask", "told", "wrong"] (defScope s_near) := ⟨rfl, rfl, rfl, by decide +kernel, rfl, by decide +kernel, by decide +kernel⟩
  refine fd_pure F sc _ (fun ds d ⟨l, m, t, _, e, _⟩ => by rw [e]; rfl) fun cdv A outer s H E hr W ds d hrow hR => ?_
  obtain ⟨l, m, t, u, rfl, h1, h2, h3, hu, rfl⟩ := hR
  have hl := rowB_len h1
  have hm := maskB_len h2
  have hm1 := maskB_pos h2
  have htl := (lookB_iff.mp h3).1
  have hsl := seenL_len m
  have hvl := viewsL_len l m
  have hv : ∀ q ∈ (viewsL l m).mapIdx Prod.mk, q.2.length ≤ 4000 := fun q hq => by
    obtain ⟨i, hi, e⟩ := List.mem_iff_getElem.mp hq
    have : q.2 ∈ viewsL l m := by
      rw [← e, List.getElem_mapIdx]
      exact List.getElem_mem _
    have := views_small l m _ this
    omega
  refine run_expr (ed_call F1 hr (ea_cons (vr 0) ea_nil) ⟨l, rfl, h1, rfl⟩) (run_expr (ed_call F2 hr (ea_cons (vr 1) ea_nil) ⟨m, rfl, h2, rfl⟩) ?_)
  refine run_if (k := false) (t_not (k := true) (et_val (ed_call F3 hr (ea_cons (vr 1) (ea_cons (vr 2) ea_nil)) ⟨m, t, rfl, by omega, h3, rfl⟩))) (fun q => nomatch q) (fun _ => run_skip ?_)
  refine run_if (k := false) (t_not (k := true) (et_val ((ed_call F6 hr (ea_cons (vr 3) (ea_cons ed_int (ea_cons (ed_gint gW) ea_nil))) ⟨u, 0, 12, rfl, rfl⟩).to (congrArg PyData.bool (by rw [Bool.and_eq_true, decide_eq_true_eq, decide_eq_true_eq]; omega))))) (fun q => nomatch q) (fun _ => run_skip ?_)
  refine run_ret (lcP1 (e1 := fun q : Nat × List Nat => nn q.1) (e2 := fun q => sD q.2) 4 5 (it_enum (xs := viewsL l m) (enc := sD) (ed_call F4 hr (ea_cons (vr 0) (ea_cons (vr 1) ea_nil)) ⟨l, m, rfl, by omega, hm1, by omega, rfl⟩) G.enumerate rfl) (by rw [List.length_mapIdx]; omega) (fun q => decide (missN q.2 t ≤ u)) (fun q => nn q.1) (fun q hq W1 lw s H C cl fp => tc (ed_call F5 hr (ea_cons (vr 5) (ea_cons (vr 2) ea_nil)) ⟨q.2, t, rfl, hv q hq, by omega, rfl⟩) (vr 3) c_le |>.to (decide_eq_decide.mpr (by omega))) (fun q hq hc W1 lw s H C cl fp => vr 4) sc.nd |>.ed sc.nd) ?_
  show PyData.list _ = PyData.list _
  rw [← enum_idx]
theorem fd_steps_needed (F : FnP K "steps_needed" s_steps_needed f fd) (G : Gs mg) (F1 : Fd P w K mg base k "need_row" ["row"] (spR K R_need_row)) (F2 : Fd P w K mg base k "need_mask" ["mask"] (spR K R_need_mask)) (F3 : Fd P w K mg base k "views_of" ["row", "mask"] (spR K R_views_of)) : FnOk P w K mg base CX0 (k + 1) f fd ["row", "mask"] (spR K R_steps_needed) := by
  have sc : FnScope ["row", "mask", "told", "many", "lots", "place"] ["row", "mask"] (defScope s_steps_needed) := ⟨rfl, rfl, rfl, by decide +kernel, rfl, by decide +kernel, by decide +kernel⟩
  refine fd_pure F sc _ (fun ds d ⟨_, _, e, _⟩ => by rw [e]; rfl) fun cdv A outer s H E hr W ds d hrow hR => ?_
  obtain ⟨l, m, rfl, hl, hm, rfl⟩ := hR
  have hu := hr.units
  have h1 := rowB_len hl
  have h2 := maskB_len hm
  have h3 := maskB_pos hm
  have hvl := viewsL_len l m
  refine run_expr (ed_call F1 hr (ea_cons (vr 0) ea_nil) ⟨l, rfl, hl, rfl⟩) (run_expr (ed_call F2 hr (ea_cons (vr 1) ea_nil) ⟨m, rfl, hm, rfl⟩) ?_)
  refine run_set (d := wD (viewsL l m)) 2 (ed_call F3 hr (ea_cons (vr 0) (ea_cons (vr 1) ea_nil)) ⟨l, m, rfl, by omega, h3, by omega, rfl⟩) ?_ sc.nd
  have hn : (viewsL l m).length ≤ 60 := by omega
  generalize viewsL l m = ws at hn ⊢
  refine run_forP 3 (it_range2 (n := ws.length) (lo := 1) ed_int ((ed_op (lenLw G (vr 2)) ed_int o_add).to (y := .int ((ws.length : Int) + 1)) rfl) G.range) (fun _ => [.no, .no, .d (wD ws), .no, .no, .no]) (fun _ => []) (fun i => ∀ j, j < i → lotsB ws (1 + j) = false) (fun j hj => absurd hj (by omega)) (fun W1 lw i x hx hp => ?_) (fun hp => ?_) sc.nd
  · have hi := (List.getElem?_eq_some_iff.mp hx).1
    rw [List.length_range] at hi
    obtain rfl : x = i := by
      rw [List.getElem?_range hi] at hx
      exact (Option.some.inj hx).symm
    have hcast : (1 : Int) + (x : Int) = ((1 + x : Nat) : Int) := by push_cast; rfl
    have hsl : ∀ p, p < ws.length + 1 - (1 + x) → p + (1 + x) ≤ ws.length := fun p hp => by omega
    refine run_setLcP 4 (lcN0 5 (it_range (n := ws.length + 1 - (1 + x)) (ed_op (ed_op (lenLw G (vr 2)) (vr 3) o_sub) ed_int o_add) G.range) (by rw [List.length_range]; omega) (fun p => tW (lotL ws (1 + x) p)) (fun p hp2 W2 lw2 s2 H2 C2 cl2 fp2 => ?_) sc.nd) (fun ys ey => ?_) sc.nd
    · have hp3 := hsl p (List.mem_range.mp hp2)
      refine ed_callT G.tuple boot_tuple (ea_cons (Ed.to (ed_sl (vr 2) (so_some (vr 5)) (so_some (ed_op (vr 5) (vr 3) o_add)) (s_listB p (p + (1 + x)) rfl (by push_cast; rfl) (by omega) (by rw [List.length_map]; omega))) ?_) ea_nil) c_tupL
      show PyData.list _ = PyData.list _
      rw [Nat.add_sub_cancel_left, lotL, List.map_take, List.map_drop]
    obtain rfl : ys = (lotsL ws (1 + x)).map tW := by
      rw [ey, lotsL, List.map_map]
      rfl
    have hll := lots_len ws (1 + x)
    refine run_if (k := lotsB ws (1 + x)) ((tc (ed_lenSetT (vr 4) G.len G.set hu (by omega)) (lenL G (vr 4)) c_eqI).to ?hk) (fun q => ?_) (fun q => run_skip (run_eP ?_))
    case hk =>
      unfold lotsB
      refine decide_eq_decide.mpr ?_
      rw [List.length_map, Int.ofNat_inj, uq_len_iff]
    · refine run_ret (d := .int ((1 : Int) + (x : Int))) (vr 3) ?_
      show _ = optN (stepsN ws)
      rw [stepsN, leastN_hit hi hp q, hcast]
      rfl
    · intro j hj
      by_cases e : j = x
      · rw [e]; exact q
      · exact hp j (by omega)
  · rw [List.length_range] at hp
    refine run_ret ed_non ?_
    show _ = optN (stepsN ws)
    rw [stepsN, leastN_none hp]
    rfl
theorem fd_law_viewed24 (F : FnP K "_law_viewed" s__law_viewed f fd) (G : Gs mg) (F_law_turned : Fd P w K mg base k "_law_turned" ["_law_line", "_law_by"] (spR K R_turned)) (Fseen : Fd P w K mg base k "seen" ["mask"] (spR K R_seen)) (Ftogether : Fd P w K mg base k "together" ["one", "other", "far"] (spR K R_together)) (Fviews : Fd P w K mg base k "views" ["row", "mask"] (spR K R_views)) (Ftells : Fd P w K mg base k "tells" ["row", "mask"] (spR K R_tells)) (Falike : Fd P w K mg base k "alike" ["row", "mask"] (spR K R_alike)) (Fgroups : Fd P w K mg base k "groups" ["row", "mask"] (spR K R_groups)) (Fdistance : Fd P w K mg base k "distance" ["row", "mask"] (spR K R_distance)) (Fstands : Fd P w K mg base k "stands" ["row", "mask", "wrong", "covered"] (spR K R_stands)) (Ffind : Fd P w K mg base k "find" ["row", "mask", "told"] (spR K R_find)) (Fnear : Fd P w K mg base k "near" ["row", "mask", "told", "wrong"] (spR K R_near)) (Fsteps_needed : Fd P w K mg base k "steps_needed" ["row", "mask"] (spR K R_steps_needed)) : FnOk P w K mg base CX0 (k + 1) f fd ["_law_by"] (spR K R_by) := by
  have sc : FnScope ["_law_by", "_law_good", "_law_bad", "_law_view"] ["_law_by"] (defScope s__law_viewed) := ⟨rfl, rfl, rfl, by decide +kernel, rfl, by decide +kernel, by decide +kernel⟩
  refine fd_pure F sc _ (fun ds d ⟨b, e, _⟩ => by rw [e]; rfl) fun cdv A outer s H E hr W ds d hrow hR => ?_
  obtain ⟨b, rfl, hb, rfl⟩ := hR
  have hu := hr.units
  obtain ⟨r1, r2, r3, r4, r5, r6, r7⟩ := kv_row b hb
  obtain ⟨v1, v2⟩ := kv_2 b hb
  obtain ⟨a1, a2⟩ := kv_3 b hb
  have a3 := kv_3g b hb
  obtain ⟨s1, s2, s3⟩ := kv_4 b hb
  obtain ⟨f1, f2, f3⟩ := kv_6 b hb
  have n1 := kv_7 b hb
  refine run_if (k := false) ?c1 (fun q => nomatch q) (fun _ => run_skip ?_)
  case c1 =>
    refine EdW.t (tw_or (k := false) (l := false) ?_ (fun _ => tw_or (k := false) (l := false) ?_ (fun _ => tw_or1 ?_)))
    · refine tc (x := nD [0, 2, 3]) (y := nD [0, 2, 3]) (k := false) ?_ ?_ (c_neSame hu (shpC rfl (by decide)))
      · exact Ed.to (ed_call Fseen hr (ea_cons (ed_S [120, 46, 120, 120]) ea_nil) ⟨[120, 46, 120, 120], rfl, by decide, rfl⟩) (by rw [kv_1.1])
      · exact Ed.to (ed_lst (ea_cons ed_int (ea_cons ed_int (ea_cons ed_int ea_nil))) (by simp)) rfl
    · refine tc (x := sD [120, 120, 120]) (y := sD [120, 120, 120]) (k := false) ?_ ?_ (c_neSame hu (Shp.str (by decide)))
      · exact Ed.to (ed_call Ftogether hr (ea_cons (ed_S [120, 46, 120]) (ea_cons (ed_S [120, 120]) (ea_cons ed_int ea_nil))) ⟨[120, 46, 120], [120, 120], 1, rfl, by decide, by decide, by decide, rfl⟩) (by rw [kv_1.2.1])
      · exact Ed.to (ed_S [120, 120, 120]) rfl
    · refine tc (x := sD [120, 120, 46, 120, 120]) (y := sD [120, 120, 46, 120, 120]) (k := false) ?_ ?_ (c_neSame hu (Shp.str (by decide)))
      · exact Ed.to (ed_call Ftogether hr (ea_cons (ed_S [120, 120]) (ea_cons (ed_S [120, 120]) (ea_cons ed_int ea_nil))) ⟨[120, 120], [120, 120], 3, rfl, by decide, by decide, by decide, rfl⟩) (by rw [kv_1.2.2])
      · exact Ed.to (ed_S [120, 120, 46, 120, 120]) rfl
  refine run_par (x := sD (gW b)) (y := sD (bW b)) 1 2 ?hgb ?_ sc.nd
  case hgb =>
    refine ea_cons ?_ (ea_cons ?_ ea_nil)
    · exact (ed_call F_law_turned hr (ea_cons (ed_S [97, 98, 98, 97, 98]) (ea_cons (vr 0) ea_nil)) ⟨[97, 98, 98, 97, 98], b, rfl, hb, by decide, rfl⟩)
    · exact (ed_call F_law_turned hr (ea_cons (ed_S [97, 98, 97, 98, 97]) (ea_cons (vr 0) ea_nil)) ⟨[97, 98, 97, 98, 97], b, rfl, hb, by decide, rfl⟩)
  refine run_if (k := false) ?c2 (fun q => nomatch q) (fun _ => run_skip ?_)
  case c2 =>
    refine EdW.t (tw_or (k := false) (l := false) ?_ (fun _ => tw_or1 ?_))
    · refine tc (x := wD [turnW b [97, 98], turnW b [98, 97], turnW b [98, 98]]) (y := wD [turnW b [97, 98], turnW b [98, 97], turnW b [98, 98]]) (k := false) ?_ ?_ (c_neSame hu (shp_w fun v hv => by simp only [List.mem_cons, List.not_mem_nil, or_false] at hv; rcases hv with rfl | rfl | rfl <;> exact turnW_low (by decide)))
      · exact Ed.to (ed_call Fviews hr (ea_cons (vr 1) (ea_cons (ed_S [120, 46, 120]) ea_nil)) ⟨gW b, [120, 46, 120], rfl, r1, by decide, rfl⟩) (by rw [v1])
      · exact Ed.to (LcEv.ed (lcN0 3 (it_list (xs := [[97, 98], [98, 97], [98, 98]]) (enc := sD) (ed_lst (ea_cons (ed_S [97, 98]) (ea_cons (ed_S [98, 97]) (ea_cons (ed_S [98, 98]) ea_nil))) (by simp))) (by simp) (fun t => sD (turnW b t)) (fun t ht W2 lw2 s2 H2 C2 cl2 fp2 => ed_call F_law_turned hr (ea_cons (vr 3) (ea_cons (vr 0) ea_nil)) ⟨t, b, rfl, hb, by simp only [List.mem_cons, List.not_mem_nil, or_false] at ht; rcases ht with rfl | rfl | rfl <;> decide, rfl⟩) sc.nd) sc.nd) rfl
    · exact t_not (k := true) (et_val (Ed.to (ed_call Ftells hr (ea_cons (vr 1) (ea_cons (ed_S [120, 46, 120]) ea_nil)) ⟨gW b, [120, 46, 120], rfl, r1, by decide, rfl⟩) (by rw [v2])))
  refine run_if (k := false) ?c3 (fun q => nomatch q) (fun _ => run_skip ?_)
  case c3 =>
    refine EdW.t (tw_or (k := false) (l := false) ?_ (fun _ => tw_or (k := false) (l := false) ?_ (fun _ => tw_or1 ?_)))
    · refine tc (x := pr2 (nn 0) (nn 2)) (y := pr2 (nn 0) (nn 2)) (k := false) ?_ ?_ (c_neSame hu (shpC rfl (by decide)))
      · exact Ed.to (ed_call Falike hr (ea_cons (vr 2) (ea_cons (ed_S [120, 46, 120]) ea_nil)) ⟨bW b, [120, 46, 120], rfl, r2, by decide, rfl⟩) (by rw [a1]; rfl)
      · exact Ed.to (ed_tup (ea_cons ed_int (ea_cons ed_int ea_nil)) (by simp)) rfl
    · refine tc (x := .list [pr2 (nn 0) (nn 2)]) (y := .list [pr2 (nn 0) (nn 2)]) (k := false) ?_ ?_ (c_neSame hu (shpC rfl (by decide)))
      · exact Ed.to (ed_call Fgroups hr (ea_cons (vr 2) (ea_cons (ed_S [120, 46, 120]) ea_nil)) ⟨bW b, [120, 46, 120], rfl, r2, by decide, rfl⟩) (by rw [a3])
      · exact Ed.to (ed_lst (ea_cons (ed_tup (ea_cons ed_int (ea_cons ed_int ea_nil)) (by simp)) ea_nil) (by simp)) rfl
    · refine tc (x := nn 1) (y := nn 1) (k := false) ?_ ?_ (c_neSame hu (shpC rfl (by decide)))
      · exact Ed.to (ed_call Fdistance hr (ea_cons (vr 1) (ea_cons (ed_S [120, 46, 120]) ea_nil)) ⟨gW b, [120, 46, 120], rfl, r1, by decide, rfl⟩) (by rw [a2]; rfl)
      · exact Ed.to ed_int rfl
  refine run_if (k := false) ?c4 (fun q => nomatch q) (fun _ => run_skip ?_)
  case c4 =>
    refine EdW.t (tw_or (k := false) (l := false) ?_ (fun _ => tw_or (k := false) (l := false) ?_ (fun _ => tw_or1 ?_)))
    · exact et_val (Ed.to (ed_call Fstands hr (ea_cons (vr 1) (ea_cons (ed_S [120, 46, 120]) (ea_cons ed_int (ea_cons ed_int ea_nil)))) ⟨gW b, [120, 46, 120], 0, 1, rfl, r1, by decide, by decide, by decide, rfl⟩) (by rw [s1]))
    · refine tc (x := wD []) (y := wD []) (k := false) ?_ ?_ (c_neSame hu (shp_w (by decide)))
      · exact Ed.to (ed_call Fviews hr (ea_cons (ed_S [97, 98]) (ea_cons (ed_S [120, 46, 120]) ea_nil)) ⟨[97, 98], [120, 46, 120], rfl, by decide, by decide, rfl⟩) (by rw [kv_5.1])
      · exact Ed.to (ed_lst ea_nil (by simp)) rfl
    · exact EdT.to (tc (x := .none) (Ed.to (ed_call Fdistance hr (ea_cons (ed_S [97, 98, 99]) (ea_cons (ed_S [120, 46, 120]) ea_nil)) ⟨[97, 98, 99], [120, 46, 120], rfl, by decide, by decide, rfl⟩) (by rw [kv_5.2.1]; rfl)) ed_non c_notN) rfl
  refine run_if (k := false) ?c5 (fun q => nomatch q) (fun _ => run_skip ?_)
  case c5 =>
    refine EdW.t (tw_or (k := false) (l := false) ?_ (fun _ => tw_or (k := false) (l := false) ?_ (fun _ => tw_or1 ?_)))
    · exact t_not (k := true) (et_val (Ed.to (ed_call Fstands hr (ea_cons (ed_S [97, 98, 99]) (ea_cons (ed_S [120, 46, 120]) (ea_cons ed_int (ea_cons ed_int ea_nil)))) ⟨[97, 98, 99], [120, 46, 120], 3, 3, rfl, by decide, by decide, by decide, by decide, rfl⟩) (by rw [kv_5.2.2])))
    · exact EdT.to (tc (x := .none) (Ed.to (ed_call Falike hr (ea_cons (vr 1) (ea_cons (ed_S [120, 46, 120]) ea_nil)) ⟨gW b, [120, 46, 120], rfl, r1, by decide, rfl⟩) (by rw [s3]; rfl)) ed_non c_notN) rfl
    · exact t_not (k := true) (et_val (Ed.to (ed_call Fstands hr (ea_cons (vr 1) (ea_cons (ed_S [120, 46, 120]) (ea_cons ed_int (ea_cons ed_int ea_nil)))) ⟨gW b, [120, 46, 120], 0, 0, rfl, r1, by decide, by decide, by decide, rfl⟩) (by rw [s2])))
  refine run_if (k := false) ?c6 (fun q => nomatch q) (fun _ => run_skip ?_)
  case c6 =>
    refine EdW.t (tw_or (k := false) (l := false) ?_ (fun _ => tw_or1 ?_))
    · refine tc (x := nD [1, 2]) (y := nD [1, 2]) (k := false) ?_ ?_ (c_neSame hu (shpC rfl (by decide)))
      · exact Ed.to (ed_call Ffind hr (ea_cons (vr 1) (ea_cons (ed_S [120, 46, 120]) (ea_cons (ed_call F_law_turned hr (ea_cons (ed_S [98, 63]) (ea_cons (vr 0) ea_nil)) ⟨[98, 63], b, rfl, hb, by decide, rfl⟩) ea_nil))) ⟨gW b, [120, 46, 120], (turnW b [98, 63]), rfl, r1, by decide, r3, rfl⟩) (by rw [f1])
      · exact Ed.to (ed_lst (ea_cons ed_int (ea_cons ed_int ea_nil)) (by simp)) rfl
    · refine tc (x := nD []) (y := nD []) (k := false) ?_ ?_ (c_neSame hu (shpC rfl (by decide)))
      · exact Ed.to (ed_call Ffind hr (ea_cons (vr 1) (ea_cons (ed_S [120, 46, 120]) (ea_cons (ed_call F_law_turned hr (ea_cons (ed_S [97, 97]) (ea_cons (vr 0) ea_nil)) ⟨[97, 97], b, rfl, hb, by decide, rfl⟩) ea_nil))) ⟨gW b, [120, 46, 120], (turnW b [97, 97]), rfl, r1, by decide, r4, rfl⟩) (by rw [f2])
      · exact Ed.to (ed_lst ea_nil (by simp)) rfl
  refine run_if (k := false) ?c7 (fun q => nomatch q) (fun _ => run_skip ?_)
  case c7 =>
    refine EdW.t (tw_or (k := false) (l := false) ?_ (fun _ => tw_or1 ?_))
    · refine tc (x := nD [0, 1]) (y := nD [0, 1]) (k := false) ?_ ?_ (c_neSame hu (shpC rfl (by decide)))
      · exact Ed.to (ed_call Fnear hr (ea_cons (vr 1) (ea_cons (ed_S [120, 46, 120]) (ea_cons (ed_call F_law_turned hr (ea_cons (ed_S [97, 97]) (ea_cons (vr 0) ea_nil)) ⟨[97, 97], b, rfl, hb, by decide, rfl⟩) (ea_cons ed_int ea_nil)))) ⟨gW b, [120, 46, 120], (turnW b [97, 97]), 1, rfl, r1, by decide, r4, by decide, rfl⟩) (by rw [f3])
      · exact Ed.to (ed_lst (ea_cons ed_int (ea_cons ed_int ea_nil)) (by simp)) rfl
    · refine tc (x := nn 2) (y := nn 2) (k := false) ?_ ?_ (c_neSame hu (shpC rfl (by decide)))
      · exact Ed.to (ed_call Fsteps_needed hr (ea_cons (vr 2) (ea_cons (ed_S [120, 46, 120]) ea_nil)) ⟨bW b, [120, 46, 120], rfl, r2, by decide, rfl⟩) (by rw [n1]; rfl)
      · exact Ed.to ed_int rfl
  refine run_ret (d := .bool true) (Ed.to (ed_and (k := true) (l := true) ?r1 (fun _ => ed_one ?r2)) rfl) rfl
  case r1 => exact ed_cmp (x := nn 4) (Ed.to (ed_call Fsteps_needed hr (ea_cons (ed_S [97, 97, 97, 97]) (ea_cons (ed_S [120]) ea_nil)) ⟨[97, 97, 97, 97], [120], rfl, by decide, by decide, rfl⟩) (by rw [kv_8.1]; rfl)) (Ed.to ed_int rfl) (c_eqSame hu Shp.int)
  case r2 => exact Ed.to (ed_cmp (x := .none) (Ed.to (ed_call Fsteps_needed hr (ea_cons (ed_S []) (ea_cons (ed_S [120]) ea_nil)) ⟨[], [120], rfl, by decide, by decide, rfl⟩) (by rw [kv_8.2]; rfl)) ed_non c_isN) rfl
theorem fd_need_letters (F : FnP K "need_letters" s_need_letters f fd) (G : Gs mg) (gL : gLETTERS mg) (F1 : Fd P w K mg base k "is_from" ["value", "low", "high"] (spR K R_is_from)) : FnOk P w K mg base CX0 (k + 1) f fd ["letters"] (spR K R_need_letters) := by
  have sc : FnScope ["letters"] ["letters"] (defScope s_need_letters) := ⟨rfl, rfl, rfl, by decide +kernel, rfl, by decide +kernel, by decide +kernel⟩
  refine fd_pure F sc _ (fun ds d ⟨n, e, _⟩ => by rw [e]; rfl) fun cdv A outer s H E hr W ds d hrow hR => ?_
  obtain ⟨n, rfl, h1, h2, rfl⟩ := hR
  refine run_if (k := false) (t_not (k := true) (et_val ((ed_call F1 hr (ea_cons (vr 0) (ea_cons ed_int (ea_cons (ed_callB G.len boot_len (ea_cons (ed_gS [97, 98, 99, 100] gL) ea_nil) (c_lenS (by decide))) ea_nil))) ⟨(n : Int), 1, 4, rfl, rfl⟩).to ?_))) (fun q => nomatch q) (fun _ => run_skip (run_end rfl))
  have e1 : decide ((1 : Int) ≤ (n : Int)) = true := decide_eq_true (by omega)
  have e2 : decide ((n : Int) ≤ (4 : Int)) = true := decide_eq_true (by omega)
  rw [e1, e2]
  rfl
theorem fd_need_small (F : FnP K "need_small" s_need_small f fd) (G : Gs mg) (gW : gWID K mg) (gS : gSEE K mg) (F1 : Fd P w K mg base k "need_mask" ["mask"] (spR K R_need_mask)) (F2 : Fd P w K mg base k "need_letters" ["letters"] (spR K R_need_letters)) (F3 : Fd P w K mg base k "seen_by" ["mask"] (spR K R_seen_by)) : FnOk P w K mg base CX0 (k + 1) f fd ["mask", "letters"] (spR K R_need_small) := by
  have sc : FnScope ["mask", "letters"] ["mask", "letters"] (defScope s_need_small) := ⟨rfl, rfl, rfl, by decide +kernel, rfl, by decide +kernel, by decide +kernel⟩
  refine fd_pure F sc _ (fun ds d ⟨m, n, e, _⟩ => by rw [e]; rfl) fun cdv A outer s H E hr W ds d hrow hR => ?_
  obtain ⟨m, n, rfl, hs, rfl⟩ := hR
  have hm := maskB_len hs.mask
  have lo := hs.lo
  have hi := hs.hi
  have h1 := hs.wide
  have h2 := hs.seen
  have ix : ∀ a b c d : Nat, ([(a : Int), b, c, d].map PyData.int)[n - 1]? = some (nn ([a, b, c, d].getD (n - 1) 0)) := fun a b c d => by
    match n, lo, hi with
    | 1, _, _ => rfl
    | 2, _, _ => rfl
    | 3, _, _ => rfl
    | 4, _, _ => rfl
  refine run_expr (ed_call F1 hr (ea_cons (vr 0) ea_nil) ⟨m, rfl, hs.mask, rfl⟩) (run_expr (ed_call F2 hr (ea_cons (vr 1) ea_nil) ⟨n, rfl, lo, hi, rfl⟩) ?_)
  refine run_if (k := false) (t_or (k := false) (l := false) (tc (ed_callB G.len boot_len (ea_cons (vr 0) ea_nil) (c_lenS (by omega))) (ed_ix (ed_gtup gW) (ed_op (vr 1) ed_int o_sub) (i_tup (n := n - 1) (ix 12 8 5 4) (by omega))) c_gt |>.to ?_) fun _ => tc (ed_callB G.len boot_len (ea_cons (ed_call F3 hr (ea_cons (vr 0) ea_nil) ⟨m, rfl, by omega, rfl⟩) ea_nil) c_lenL) (ed_ix (ed_gtup gS) (ed_op (vr 1) ed_int o_sub) (i_tup (n := n - 1) (ix 12 4 2 1) (by omega))) c_gt |>.to ?_) (fun q => nomatch q) (fun _ => run_skip (run_end rfl))
  · exact decide_eq_false (by omega)
  · rw [List.length_map]
    exact decide_eq_false (by omega)
theorem fd_longer (F : FnP K "longer" s_longer f fd) (G : Gs mg) (gL : gLETTERS mg) (F1 : Fd P w K mg base k "view_by" ["row", "mask", "place"] (spR K R_view_by)) : FnOk P w K mg base CX0 (k + 1) f fd ["rows", "mask", "letters"] (spR K R_longer) := by
  have sc : FnScope ["rows", "mask", "letters", "found", "row", "told", "letter", "wide", "view"] ["rows", "mask", "letters"] (defScope s_longer) := ⟨rfl, rfl, rfl, by decide +kernel, rfl, by decide +kernel, by decide +kernel⟩
  refine fd_pure F sc _ (fun ds d ⟨rs, m, n, e, _⟩ => by rw [e]; rfl) fun cdv A outer s H E hr W ds d hrow hR => ?_
  obtain ⟨rs, m, n, rfl, h1, h2, hm, hrl, hsz, hnx, rfl⟩ := hR
  have hml := maskB_len hm
  have hm1 := maskB_pos hm
  refine run_newL 3 (fun a => ?_) sc.nd
  refine run_for2 4 5 (it_list (xs := rs) (enc := rowT m) (vr 0)) (fun i Γ μ => Γ = [.d (rowsT m rs), .d (sD m), .d (nn n), .r a, .no, .no, .no, .no, .no] ∧ μ = [(a, .lst ((nextL m n (rs.take i)).map (rowT m)))]) ⟨rfl, rfl⟩ (fun W1 lw i r Γ' μ' hx ⟨e1, e2⟩ => ?_) (fun Γ' μ' ⟨e1, e2⟩ => ?_) sc.nd
  · subst e1
    subst e2
    have hr3 := hrl r (List.mem_of_getElem? hx)
    have hnl : nextL m n (rs.take (i + 1)) = nextL m n (rs.take i) ++ stepR m n r := by
      unfold nextL
      rw [List.take_add_one, hx, List.flatMap_append]
      simp
    have hle : (nextL m n (rs.take (i + 1))).length ≤ (nextL m n rs).length := by
      have : nextL m n rs = nextL m n (rs.take (i + 1)) ++ nextL m n (rs.drop (i + 1)) := by
        unfold nextL
        rw [← List.flatMap_append, List.take_append_drop]
      rw [this, List.length_append]
      omega
    rw [hnl, List.length_append] at hle
    refine run_for 6 (it_str (cs := letL n) (ed_sl (ed_gS [97, 98, 99, 100] gL) so_none (so_some (vr 2)) (s_strT n (by decide)))) (fun j Γ μ => Γ = [.d (rowsT m rs), .d (sD m), .d (nn n), .r a, .d (sD r), .d (.tuple ((viewsL r m).map sD)), .no, .no, .no] ∧ μ = [(a, .lst ((nextL m n (rs.take i) ++ (((letL n).take j).filter (okC m r)).map fun c => r ++ [c]).map (rowT m)))]) ⟨rfl, by simp⟩ (fun W3 lw3 j c Γ' μ' hc ⟨e1, e2⟩ => ?_) (fun Γ' μ' ⟨e1, e2⟩ => ?_) sc.nd
    · subst e1
      subst e2
      have hpl : ((((letL n).take j).filter (okC m r)).map fun c => r ++ [c]).length + (if okC m r c = true then 1 else 0) ≤ (stepR m n r).length := by
        unfold stepR
        rw [List.length_map, List.length_map]
        have h3 : (letL n).take (j + 1) = (letL n).take j ++ [c] := by rw [List.take_add_one, hc]; rfl
        have h4 : letL n = (letL n).take (j + 1) ++ (letL n).drop (j + 1) := (List.take_append_drop ..).symm
        have h5 : ((letL n).filter (okC m r)).length = (((letL n).take j).filter (okC m r)).length + (([c].filter (okC m r)).length + (((letL n).drop (j + 1)).filter (okC m r)).length) := by
          conv => lhs; rw [h4, h3]
          rw [List.filter_append, List.filter_append, List.length_append, List.length_append]
          omega
        rw [h5]
        by_cases q : okC m r c = true
        · rw [if_pos q, List.filter_cons_of_pos q]
          simp
        · rw [if_neg q]
          omega
      have ht : ((letL n).take (j + 1)).filter (okC m r) = ((letL n).take j).filter (okC m r) ++ (if okC m r c = true then [c] else []) := take_succ_filter hc
      have hwl : (r ++ [c]).length = r.length + 1 := by simp
      have hvs := viewsL_snoc r m c hm1
      have fin : ∀ b : Bool, okC m r c = b → (nextL m n (rs.take i) ++ (((letL n).take (j + 1)).filter (okC m r)).map fun c => r ++ [c]).map (rowT m) = (nextL m n (rs.take i) ++ (((letL n).take j).filter (okC m r)).map fun c => r ++ [c]).map (rowT m) ++ (if b = true then [rowT m (r ++ [c])] else []) := fun b hb => by
        rw [ht, hb]
        cases b with
        | true => simp
        | false => simp
      refine run_set 7 (ed_op (vr 4) (vr 6) (o_adds (m := [c]) (by simp; omega))) ?_ sc.nd
      refine run_if (k := decide (r.length + 1 < m.length)) (tc (ed_callB G.len boot_len (ea_cons (vr 7) ea_nil) (c_lenS (by omega))) (ed_callB G.len boot_len (ea_cons (vr 1) ea_nil) (c_lenS (by omega))) c_lt |>.to (decide_eq_decide.mpr (by rw [hwl]; omega))) (fun q => ?_) (fun q => ?_)
      · have q' := of_decide_eq_true q
        have hok : okC m r c = true := by unfold okC; rw [q]; rfl
        rw [if_pos q'] at hvs
        rw [if_pos hok] at hpl
        refine run_app (ys := (nextL m n (rs.take i) ++ (((letL n).take j).filter (okC m r)).map fun c => r ++ [c]).map (rowT m)) (d := rowT m (r ++ [c])) 3 0 ((ed_tup (ea_cons (vr 7) (ea_cons (vr 5) ea_nil)) (by simp)).to (by show _ = rowT m (r ++ [c]); unfold rowT; rw [hvs])) (by rw [List.length_map, List.length_append]; omega) (run_skip ?_)
        refine run_go [.d (rowsT m rs), .d (sD m), .d (nn n), .r a, .d (sD r), .d (.tuple ((viewsL r m).map sD)), .no, .no, .no] ⟨.inr rfl, .inr rfl, .inr rfl, .inr rfl, .inr rfl, .inr rfl, .inl rfl, .inl rfl, .inr rfl, trivial⟩ ?_
        refine ⟨rfl, ?_⟩
        rw [fin true hok]
        rfl
      · have q' := of_decide_eq_false q
        rw [if_neg q'] at hvs
        have hvl := viewsL_len r m
        refine run_set 8 (ed_call F1 hr (ea_cons (vr 7) (ea_cons (vr 1) (ea_cons (ed_op (ed_callB G.len boot_len (ea_cons (vr 7) ea_nil) (c_lenS (by omega))) (ed_callB G.len boot_len (ea_cons (vr 1) ea_nil) (c_lenS (by omega))) o_sub) ea_nil))) ⟨r ++ [c], m, r.length + 1 - m.length, ?_, by omega, by omega, by omega, rfl⟩) ?_ sc.nd
        · have e3 : (((r ++ [c]).length : Nat) : Int) - (m.length : Int) = ((r.length + 1 - m.length : Nat) : Int) := by omega
          rw [e3]
        · refine run_if (k := okC m r c) (tc (vr 8) (vr 5) c_ninTS |>.to (by unfold okC; rw [q, Bool.false_or])) (fun hok => ?_) (fun hok => run_skip (run_skip ?_))
          · rw [if_pos hok] at hpl
            refine run_app (ys := (nextL m n (rs.take i) ++ (((letL n).take j).filter (okC m r)).map fun c => r ++ [c]).map (rowT m)) (d := rowT m (r ++ [c])) 3 0 ((ed_tup (ea_cons (vr 7) (ea_cons (ed_op (vr 5) (ed_tup (ea_cons (vr 8) ea_nil) (by simp)) (o_catT (by simp; omega))) ea_nil)) (by simp)).to (by show _ = rowT m (r ++ [c]); unfold rowT; rw [hvs, List.map_append]; rfl)) (by rw [List.length_map, List.length_append]; omega) (run_skip (run_skip ?_))
            refine run_go [.d (rowsT m rs), .d (sD m), .d (nn n), .r a, .d (sD r), .d (.tuple ((viewsL r m).map sD)), .no, .no, .no] ⟨.inr rfl, .inr rfl, .inr rfl, .inr rfl, .inr rfl, .inr rfl, .inl rfl, .inl rfl, .inl rfl, trivial⟩ ?_
            refine ⟨rfl, ?_⟩
            rw [fin true hok]
            rfl
          · refine run_go [.d (rowsT m rs), .d (sD m), .d (nn n), .r a, .d (sD r), .d (.tuple ((viewsL r m).map sD)), .no, .no, .no] ⟨.inr rfl, .inr rfl, .inr rfl, .inr rfl, .inr rfl, .inr rfl, .inl rfl, .inl rfl, .inl rfl, trivial⟩ ?_
            refine ⟨rfl, ?_⟩
            rw [fin false hok]
            simp
    · subst e1
      subst e2
      refine run_go [.d (rowsT m rs), .d (sD m), .d (nn n), .r a, .no, .no, .no, .no, .no] ⟨.inr rfl, .inr rfl, .inr rfl, .inr rfl, .inl rfl, .inl rfl, .inr rfl, .inr rfl, .inr rfl, trivial⟩ ?_
      refine ⟨rfl, ?_⟩
      rw [List.take_length, hnl]
      rfl
  · subst e1
    subst e2
    refine run_retL 3 (hl := by simp) ?_
    rw [List.take_length]
theorem fd_levels_of (F : FnP K "levels_of" s_levels_of f fd) (F1 : Fd P w K mg base k "longer" ["rows", "mask", "letters"] (spR K R_longer)) : FnOk P w K mg base CX0 (k + 1) f fd ["mask", "letters"] (spR K R_levels_of) := by
  have sc : FnScope ["mask", "letters", "found", "rows", "row", "told"] ["mask", "letters"] (defScope s_levels_of) := ⟨rfl, rfl, rfl, by decide +kernel, rfl, by decide +kernel, by decide +kernel⟩
  refine fd_pure F sc _ (fun ds d ⟨m, n, e, _⟩ => by rw [e]; rfl) fun cdv A outer s H E hr W ds d hrow hR => ?_
  obtain ⟨m, n, rfl, hs, rfl⟩ := hR
  have hu := hr.units
  have hml := maskB_len hs.mask
  have hm1 := hs.pos
  obtain ⟨g1, g2⟩ := hs.topK
  have hK : topK m n ≤ 16 + m.length := by
    rcases Nat.lt_or_ge (16 + m.length) (topK m n) with h | h
    · exact absurd hs.ends (g2 _ h)
    · exact h
  refine run_parL0 2 3 (fun a => ed_lst (ea_cons (ed_tup (ea_cons (ed_S []) (ea_cons (ed_tup ea_nil (by simp)) ea_nil)) (by simp)) ea_nil) (by simp)) (fun a => ?_) sc.nd
  have e0 : (PyData.list [PyData.tuple [PyData.str (S []), PyData.tuple []]]) = rowsT m (lev m n 0) := by
    have : viewsL [] m = [] := by
      unfold viewsL
      have : ([] : List Nat).length + 1 - m.length = 0 := by simp; omega
      rw [this]
      rfl
    simp [lev, rowT, this]
  rw [e0]
  refine run_while (fun q Γ μ => q ≤ topK m n ∧ Γ = [.d (sD m), .d (nn n), .r a, .d (rowsT m (lev m n (topK m n - q))), .no, .no] ∧ μ = [(a, .lst ((List.range (topK m n - q)).map fun j => wD (lev m n j)))]) (fun q => !(lev m n (topK m n - q)).isEmpty) (topK m n) ⟨Nat.le_refl _, by rw [Nat.sub_self]; rfl, by rw [Nat.sub_self]; rfl⟩ (fun W1 lw q Γ' μ' ⟨hq, e1, e2⟩ => ?_) (fun W1 lw q Γ' μ' hb ⟨hq, e1, e2⟩ => ?_) (fun q Γ' μ' hb ⟨hq, e1, e2⟩ => ?_)
  · subst e1
    subst e2
    exact tc (vr 3) (ed_lst ea_nil (by simp)) (c_neNil hu (shp_lev hm1 hs.hi _)) |>.to (by rw [List.isEmpty_map])
  · subst e1
    subst e2
    have hq0 : 0 < q := by
      rcases Nat.eq_zero_or_pos q with e | e
      · subst e
        rw [Nat.sub_zero, g1] at hb
        cases hb
      · exact e
    have hlen := hs.len (topK m n - q)
    have hlen2 : (nextL m n (lev m n (topK m n - q))).length ≤ 8388608 := hs.len (topK m n - q + 1)
    refine run_app (ys := (List.range (topK m n - q)).map fun j => wD (lev m n j)) (d := wD (lev m n (topK m n - q))) 2 0 (lcP0 4 5 (it_list (xs := lev m n (topK m n - q)) (enc := rowT m) (vr 3)) (by omega) sD (fun r hr W2 lw2 s2 H2 C2 cl2 fp2 => vr 4) sc.nd |>.ed sc.nd) (by simp; omega) ?_
    refine run_set 3 (ed_call F1 hr (ea_cons (vr 3) (ea_cons (vr 0) (ea_cons (vr 1) ea_nil))) ⟨lev m n (topK m n - q), m, n, rfl, hs.lo, hs.hi, hs.mask, fun r hr => ?_, by omega, by omega, rfl⟩) ?_ sc.nd
    · have := ((mem_lev hm1 hs.hi).mp hr).1
      omega
    · refine run_go [.d (sD m), .d (nn n), .r a, .d (rowsT m (lev m n (topK m n - (q - 1)))), .no, .no] ⟨.inr rfl, .inr rfl, .inr rfl, .inr ?_, .inr rfl, .inr rfl, trivial⟩ ?_
      · have e : topK m n - (q - 1) = (topK m n - q) + 1 := by omega
        rw [e]
        rfl
      · refine ⟨q - 1, by omega, by omega, rfl, ?_⟩
        have e : topK m n - (q - 1) = (topK m n - q) + 1 := by omega
        rw [e, List.range_succ, List.map_append]
        rfl
  · subst e1
    subst e2
    have e : topK m n - q = topK m n := by
      rcases Nat.lt_or_ge (topK m n - q) (topK m n) with h | h
      · have := g2 _ h
        simp only [Bool.not_eq_false', List.isEmpty_iff] at hb
        exact absurd hb this
      · omega
    rw [e]
    exact run_retL 2 (hl := by simp) rfl
theorem fd_longest (F : FnP K "longest" s_longest f fd) (G : Gs mg) (F1 : Fd P w K mg base k "need_small" ["mask", "letters"] (spR K R_need_small)) (F2 : Fd P w K mg base k "levels_of" ["mask", "letters"] (spR K R_levels_of)) : FnOk P w K mg base CX0 (k + 1) f fd ["mask", "letters"] (spR K R_longest) := by
  have sc : FnScope ["mask", "letters"] ["mask", "letters"] (defScope s_longest) := ⟨rfl, rfl, rfl, by decide +kernel, rfl, by decide +kernel, by decide +kernel⟩
  refine fd_pure F sc _ (fun ds d ⟨m, n, e, _⟩ => by rw [e]; rfl) fun cdv A outer s H E hr W ds d hrow hR => ?_
  obtain ⟨m, n, rfl, hs, rfl⟩ := hR
  refine run_expr (ed_call F1 hr (ea_cons (vr 0) (ea_cons (vr 1) ea_nil)) ⟨m, n, rfl, hs, rfl⟩) (run_ret (ed_op (ed_callB G.len boot_len (ea_cons (ed_call F2 hr (ea_cons (vr 0) (ea_cons (vr 1) ea_nil)) ⟨m, n, rfl, hs, rfl⟩) ea_nil) c_lenL) ed_int o_sub) ?_)
  rw [List.length_map, List.length_range]
theorem fd_longest_rows (F : FnP K "longest_rows" s_longest_rows f fd) (F1 : Fd P w K mg base k "need_small" ["mask", "letters"] (spR K R_need_small)) (F2 : Fd P w K mg base k "levels_of" ["mask", "letters"] (spR K R_levels_of)) : FnOk P w K mg base CX0 (k + 1) f fd ["mask", "letters"] (spR K R_longest_rows) := by
  have sc : FnScope ["mask", "letters"] ["mask", "letters"] (defScope s_longest_rows) := ⟨rfl, rfl, rfl, by decide +kernel, rfl, by decide +kernel, by decide +kernel⟩
  refine fd_pure F sc _ (fun ds d ⟨m, n, e, _⟩ => by rw [e]; rfl) fun cdv A outer s H E hr W ds d hrow hR => ?_
  obtain ⟨m, n, rfl, hs, rfl⟩ := hR
  have hp := hs.topK_pos
  refine run_expr (ed_call F1 hr (ea_cons (vr 0) (ea_cons (vr 1) ea_nil)) ⟨m, n, rfl, hs, rfl⟩) (run_ret (ed_ix (ed_call F2 hr (ea_cons (vr 0) (ea_cons (vr 1) ea_nil)) ⟨m, n, rfl, hs, rfl⟩) (ed_neg ed_int) (i_listL (d := wD (lev m n (topK m n - 1))) ?_)) rfl)
  rw [List.getLast?_eq_getElem?, List.length_map, List.length_range, List.getElem?_map, List.getElem?_range (by omega)]
  rfl
theorem fd_count_rows (F : FnP K "count_rows" s_count_rows f fd) (G : Gs mg) (gR : gMOST_ROW mg) (F1 : Fd P w K mg base k "need_small" ["mask", "letters"] (spR K R_need_small)) (F2 : Fd P w K mg base k "is_from" ["value", "low", "high"] (spR K R_is_from)) (F3 : Fd P w K mg base k "levels_of" ["mask", "letters"] (spR K R_levels_of)) : FnOk P w K mg base CX0 (k + 1) f fd ["mask", "letters", "length"] (spR K R_count_rows) := by
  have sc : FnScope ["mask", "letters", "length", "told"] ["mask", "letters", "length"] (defScope s_count_rows) := ⟨rfl, rfl, rfl, by decide +kernel, rfl, by decide +kernel, by decide +kernel⟩
  refine fd_pure F sc _ (fun ds d ⟨m, n, q, e, _⟩ => by rw [e]; rfl) fun cdv A outer s H E hr W ds d hrow hR => ?_
  obtain ⟨m, n, q, rfl, hs, hq, rfl⟩ := hR
  refine run_expr (ed_call F1 hr (ea_cons (vr 0) (ea_cons (vr 1) ea_nil)) ⟨m, n, rfl, hs, rfl⟩) ?_
  refine run_if (k := false) (t_not (k := true) (et_val ((ed_call F2 hr (ea_cons (vr 2) (ea_cons ed_int (ea_cons (ed_gint gR) ea_nil))) ⟨(q : Int), 0, 60, rfl, rfl⟩).to (congrArg PyData.bool (by rw [decide_eq_true (by omega), decide_eq_true (by omega)]; rfl))))) (fun q => nomatch q) (fun _ => run_skip ?_)
  refine run_set (d := .list ((List.range (topK m n)).map fun j => wD (lev m n j))) 3 (ed_call F3 hr (ea_cons (vr 0) (ea_cons (vr 1) ea_nil)) ⟨m, n, rfl, hs, rfl⟩) ?_ sc.nd
  refine run_ret (ed_if (k := decide (q < topK m n)) (x := nn (lev m n q).length) (y := nn 0) (tc (vr 2) (lenL G (vr 3)) c_lt |>.to (decide_eq_decide.mpr (by rw [List.length_map, List.length_range]; omega))) (fun h => lenLw G (ed_ix (vr 3) (vr 2) (i_list (n := q) (by rw [List.getElem?_map, List.getElem?_range (of_decide_eq_true h)]; rfl)))) (fun _ => ed_int)) ?_
  unfold cntR
  by_cases h : q < topK m n
  · rw [if_pos h, if_pos (decide_eq_true h)]
  · rw [if_neg h, if_neg (by simpa using h)]
theorem fd_need_row_in (F : FnP K "need_row_in" s_need_row_in f fd) (G : Gs mg) (gL : gLETTERS mg) (F1 : Fd P w K mg base k "need_letters" ["letters"] (spR K R_need_letters)) (F2 : Fd P w K mg base k "is_row" ["value"] (spR K R_is_row)) : FnOk P w K mg base CX0 (k + 1) f fd ["row", "letters"] (spR K R_need_row_in) := by
  have sc : FnScope ["row", "letters", "sign"] ["row", "letters"] (defScope s_need_row_in) := ⟨rfl, rfl, rfl, by decide +kernel, rfl, by decide +kernel, by decide +kernel⟩
  refine fd_pure F sc _ (fun ds d ⟨l, n, e, _⟩ => by rw [e]; rfl) fun cdv A outer s H E hr W ds d hrow hR => ?_
  obtain ⟨l, n, rfl, h1, h2, h3, h4, rfl⟩ := hR
  have := rowB_len h3
  refine run_expr (ed_call F1 hr (ea_cons (vr 1) ea_nil) ⟨n, rfl, h1, h2, rfl⟩) ?_
  refine run_if (k := false) (t_or (k := false) (l := false) (t_not (k := true) (et_val (ed_call F2 hr (ea_cons (vr 0) ea_nil) ⟨l, rfl, h3, rfl⟩))) fun _ => t_not (k := true) (et_val ((ed_callB G.all boot_all (ea_cons (lcN0 2 (it_str (vr 0)) (by omega) (fun c => .bool (decide (c ∈ letL n))) (fun c hc W1 lw s H C cl fp => ed_cmp (vr 2) (ed_sl (ed_gS [97, 98, 99, 100] gL) so_none (so_some (vr 1)) (s_strT n (by decide))) c_inS) sc.nd |>.ed sc.nd) ea_nil) (c_all (bs := l.map fun c => decide (c ∈ letL n)) rfl |> fun z => by rw [List.map_map] at z; exact z)).to ?_))) (fun q => nomatch q) (fun _ => run_skip (run_end rfl))
  rw [List.all_map]
  refine congrArg PyData.bool (List.all_eq_true.mpr fun c hc => ?_)
  exact decide_eq_true ((mem_letL h2).mpr (h4 c hc))
theorem fd_next_letters (F : FnP K "next_letters" s_next_letters f fd) (gL : gLETTERS mg) (F1 : Fd P w K mg base k "need_mask" ["mask"] (spR K R_need_mask)) (F2 : Fd P w K mg base k "need_row_in" ["row", "letters"] (spR K R_need_row_in)) (F3 : Fd P w K mg base k "tells_by" ["row", "mask"] (spR K R_tells_by)) : FnOk P w K mg base CX0 (k + 1) f fd ["row", "mask", "letters"] (spR K R_next_letters) := by
  have sc : FnScope ["row", "mask", "letters", "letter"] ["row", "mask", "letters"] (defScope s_next_letters) := ⟨rfl, rfl, rfl, by decide +kernel, rfl, by decide +kernel, by decide +kernel⟩
  refine fd_pure F sc _ (fun ds d ⟨l, m, n, e, _⟩ => by rw [e]; rfl) fun cdv A outer s H E hr W ds d hrow hR => ?_
  obtain ⟨l, m, n, rfl, h1, h2, h3, h4, h5, rfl⟩ := hR
  have hl := rowB_len h3
  have hm := maskB_len h5
  have hm1 := maskB_pos h5
  have hf : ((letL n).filter fun c => tellsB (l ++ [c]) m).length ≤ 4 := Nat.le_trans (List.length_filter_le ..) (by rw [letL_len h2]; omega)
  refine run_expr (ed_call F1 hr (ea_cons (vr 1) ea_nil) ⟨m, rfl, h5, rfl⟩) (run_expr (ed_call F2 hr (ea_cons (vr 0) (ea_cons (vr 2) ea_nil)) ⟨l, n, rfl, h1, h2, h3, h4, rfl⟩) ?_)
  exact run_ret (ed_joinC ((letL n).filter fun c => tellsB (l ++ [c]) m) (ed_S []) (lcN1 3 (it_str (cs := letL n) (ed_sl (ed_gS [97, 98, 99, 100] gL) so_none (so_some (vr 2)) (s_strT n (by decide)))) (by rw [letL_len h2]; omega) (fun c => tellsB (l ++ [c]) m) sg (fun c hc W2 lw2 s2 H2 C2 cl2 fp2 => et_val (ed_call F3 hr (ea_cons (ed_op (vr 0) (vr 3) (o_adds (m := [c]) (by simp; omega))) (ea_cons (vr 1) ea_nil)) ⟨l ++ [c], m, rfl, by simp; omega, hm1, by omega, rfl⟩)) (fun c hc hcc W2 lw2 s2 H2 C2 cl2 fp2 => vr 3) sc.nd |>.ed sc.nd) rfl (by omega)) rfl
theorem fd_farthest (F : FnP K "farthest" s_farthest f fd) (G : Gs mg) (F1 : Fd P w K mg base k "need_small" ["mask", "letters"] (spR K R_need_small)) (F2 : Fd P w K mg base k "need_row_in" ["row", "letters"] (spR K R_need_row_in)) (F3 : Fd P w K mg base k "tells_by" ["row", "mask"] (spR K R_tells_by)) (F4 : Fd P w K mg base k "view_by" ["row", "mask", "place"] (spR K R_view_by)) (F5 : Fd P w K mg base k "longer" ["rows", "mask", "letters"] (spR K R_longer)) : FnOk P w K mg base CX0 (k + 1) f fd ["row", "mask", "letters"] (spR K R_farthest) := by
  have sc : FnScope ["row", "mask", "letters", "told", "place", "rows", "length"] ["row", "mask", "letters"] (defScope s_farthest) := ⟨rfl, rfl, rfl, by decide +kernel, rfl, by decide +kernel, by decide +kernel⟩
  refine fd_pure F sc _ (fun ds d ⟨l, m, n, e, _⟩ => by rw [e]; rfl) fun cdv A outer s H E hr W ds d hrow hR => ?_
  obtain ⟨l, m, n, rfl, hs, hlr, hlow, rfl⟩ := hR
  have hu := hr.units
  have hl := rowB_len hlr
  have hml := maskB_len hs.mask
  have hm1 := hs.pos
  have hn4 := hs.hi
  refine run_expr (ed_call F1 hr (ea_cons (vr 1) (ea_cons (vr 2) ea_nil)) ⟨m, n, rfl, hs, rfl⟩) (run_expr (ed_call F2 hr (ea_cons (vr 0) (ea_cons (vr 2) ea_nil)) ⟨l, n, rfl, hs.lo, hn4, hlr, hlow, rfl⟩) ?_)
  refine run_if (k := !tellsB l m) (t_not (et_val (ed_call F3 hr (ea_cons (vr 0) (ea_cons (vr 1) ea_nil)) ⟨l, m, rfl, by omega, hm1, by omega, rfl⟩))) (fun q => ?_) (fun q => run_skip ?_)
  · rw [Bool.not_eq_true'] at q
    refine run_ret (d := .none) ed_non ?_
    unfold farD
    rw [q]
    rfl
  rw [Bool.not_eq_false'] at q
  obtain ⟨⟨t1, t2⟩, t3, t4⟩ := farT_spec hs hlow q
  obtain ⟨T, hT⟩ : ∃ T, T = farT m n l := ⟨_, rfl⟩
  have ed : farD m n l = .int ((l.length + T : Nat) - 1 : Int) := by
    unfold farD
    rw [if_pos q, hT]
  rw [ed]
  rw [← hT] at t1 t2 t3 t4
  have hmem : ∀ j, ∀ x ∈ farL m n l j, x.length = l.length + j ∧ lowL n x ∧ tellsB x m = true := fun j x hx => far_mem hm1 hn4 hlow q hx
  have hlen := far_len hs hlow q
  refine run_set (d := .tuple ((viewsL l m).map sD)) 3 ((ed_callT G.tuple boot_tuple (ea_cons (lcN0 4 (it_range (n := l.length + 1 - m.length) (ed_op (ed_op (lenS G (vr 0)) (lenS G (vr 1)) o_sub) ed_int o_add) G.range) (by simp; omega) (fun p => sD (viewL l m p)) (fun p hp W2 lw2 s2 H2 C2 cl2 fp2 => ed_call F4 hr (ea_cons (vr 0) (ea_cons (vr 1) (ea_cons (vr 4) ea_nil))) ⟨l, m, p, rfl, by omega, by omega, by
    have := List.mem_range.mp hp
    omega, rfl⟩) sc.nd |>.ed sc.nd) ea_nil) c_tupL).to (by unfold viewsL; rw [List.map_map]; rfl)) ?_ sc.nd
  refine run_par (x := rowsT m [l]) (y := nn l.length) 5 6 (ea_cons (ed_lst (ea_cons (ed_tup (ea_cons (vr 0) (ea_cons (vr 3) ea_nil)) (by show 2 ≤ 1000; decide)) ea_nil) (by show 1 ≤ 1000; decide)) (ea_cons (lenS G (vr 0)) ea_nil)) ?_ sc.nd
  refine run_whileS (fun q => [.d (sD l), .d (sD m), .d (nn n), .no, .no, .d (rowsT m (farL m n l (T - q))), .d (nn (l.length + (T - q)))]) (fun _ => []) (fun q => !(farL m n l (T - q)).isEmpty) T (fun W1 lw q hq => ?_) (fun W1 lw q hq hb => ?_) ?_ (fun q hq hb => ?_) rfl ?_
  · have hsh : Shp 3 (rowsT m (farL m n l (T - q))) := Shp.list fun x hx => by
      obtain ⟨r, hr, rfl⟩ := List.mem_map.mp hx
      exact shp_rowT hn4 (hmem _ r hr).2.1
    exact tc (vr 5) (ed_lst ea_nil (by simp)) (c_neNil hu hsh) |>.to (by rw [List.isEmpty_map])
  · have e : T - q = T - (q + 1) + 1 := by omega
    have e2 : farL m n l (T - q) = nextL m n (farL m n l (T - (q + 1))) := by rw [e]; rfl
    have h1 := hlen (T - (q + 1))
    have h2 := hlen (T - q)
    rw [e2] at h2
    refine run_par (x := rowsT m (nextL m n (farL m n l (T - (q + 1))))) (y := nn (l.length + (T - q))) 5 6 (ea_cons (ed_call F5 hr (ea_cons (vr 5) (ea_cons (vr 1) (ea_cons (vr 2) ea_nil))) ⟨farL m n l (T - (q + 1)), m, n, rfl, hs.lo, hn4, hs.mask, fun r hr => ?_, by omega, by omega, rfl⟩) (ea_cons ((ed_op (vr 6) ed_int o_add).to ?_) ea_nil)) ?_ sc.nd
    · have := (hmem _ r hr).1
      omega
    · exact congrArg PyData.int (by omega)
    · rw [← e2]
      exact run_e
  · rw [Nat.sub_zero, t3]
    rfl
  · have e : T - q = T := by
      rcases Nat.lt_or_ge (T - q) T with h | h
      · have := t4 _ h
        simp only [Bool.not_eq_false', List.isEmpty_iff] at hb
        exact absurd hb this
      · omega
    rw [e]
    exact run_ret (ed_op (vr 6) ed_int o_sub) rfl
  · rw [Nat.sub_self]
    exact wk_s (wk_s (wk_s (wk_0 (wk_0 (wk_s (wk_s wk_n))))))
theorem fd_need_ring (F : FnP K "need_ring" s_need_ring f fd) (F1 : Fd P w K mg base k "need_row" ["row"] (spR K R_need_row)) : FnOk P w K mg base CX0 (k + 1) f fd ["row"] (spR K R_need_ring) := by
  have sc : FnScope ["row"] ["row"] (defScope s_need_ring) := ⟨rfl, rfl, rfl, by decide +kernel, rfl, by decide +kernel, by decide +kernel⟩
  refine fd_pure F sc _ (fun ds d ⟨m, e, _⟩ => by rw [e]; rfl) fun cdv A outer s H E hr W ds d hrow hR => ?_
  obtain ⟨l, rfl, hm, hl, rfl⟩ := hR
  exact run_expr (ed_call F1 hr (ea_cons (vr 0) ea_nil) ⟨l, rfl, hm, rfl⟩) (run_if (k := false) (tc (vr 0) (ed_S []) (c_eqS (m := [])) |>.to (decide_eq_false hl)) (fun q => nomatch q) (fun _ => run_skip (run_end rfl)))
theorem fd_ring_views_of (F : FnP K "ring_views_of" s_ring_views_of f fd) (G : Gs mg) (F1 : Fd P w K mg base k "seen_by" ["mask"] (spR K R_seen_by)) : FnOk P w K mg base CX0 (k + 1) f fd ["row", "mask"] (spR K R_rvo) := by
  have sc : FnScope ["row", "mask", "places", "place", "at"] ["row", "mask"] (defScope s_ring_views_of) := ⟨rfl, rfl, rfl, by decide +kernel, rfl, by decide +kernel, by decide +kernel⟩
  refine fd_pure F sc _ (fun ds d ⟨l, m, e, _⟩ => by rw [e]; rfl) fun cdv A outer s H E hr W ds d hrow hR => ?_
  obtain ⟨l, m, rfl, h1, h2, rfl⟩ := hR
  have h3 := seenL_len m
  refine run_set 2 (ed_call F1 hr (ea_cons (vr 1) ea_nil) ⟨m, rfl, by omega, rfl⟩) ?_ sc.nd
  refine run_ret (lcN0 3 (it_range (n := l.length) (ed_callB G.len boot_len (ea_cons (vr 0) ea_nil) (c_lenS (by omega))) G.range) (by simp; omega) (fun p => sD ((seenL m).map fun a => l.getD ((p + a) % l.length) 0)) (fun p hp W1 lw s H C cl fp => ?_) sc.nd |>.ed sc.nd) ?_
  · have hp' : p < l.length := by simpa using hp
    refine ed_joinC ((seenL m).map fun a => l.getD ((p + a) % l.length) 0) (ed_S []) (lcN0 4 (it_list (enc := nn) (xs := seenL m) (vr 2)) (by omega) (fun a => sg (l.getD ((p + a) % l.length) 0)) (fun a ha W2 lw2 s2 H2 C2 cl2 fp2 => ed_ix (vr 0) (ed_op (ed_op (vr 3) (vr 4) o_add) (ed_callB G.len boot_len (ea_cons (vr 0) ea_nil) (c_lenS (by omega))) (o_mod (by omega))) (i_str (n := (p + a) % l.length) (by omega) (by
        have : (p + a) % l.length < l.length := Nat.mod_lt _ (by omega)
        rw [List.getD_eq_getElem?_getD, List.getElem?_eq_getElem this]
        rfl) (by push_cast; rfl))) sc.nd |>.ed sc.nd) (by rw [List.map_map]; rfl) (by simp; omega)
  · show PyData.list _ = PyData.list _
    unfold ringV
    rw [List.map_map]
    rfl
theorem fd_ring_views (F : FnP K "ring_views" s_ring_views f fd) (F1 : Fd P w K mg base k "need_ring" ["row"] (spR K R_need_ring)) (F2 : Fd P w K mg base k "need_mask" ["mask"] (spR K R_need_mask)) (F3 : Fd P w K mg base k "ring_views_of" ["row", "mask"] (spR K R_rvo)) : FnOk P w K mg base CX0 (k + 1) f fd ["row", "mask"] (spR K R_ring_views) := by
  have sc : FnScope ["row", "mask"] ["row", "mask"] (defScope s_ring_views) := ⟨rfl, rfl, rfl, by decide +kernel, rfl, by decide +kernel, by decide +kernel⟩
  refine fd_pure F sc _ (fun ds d ⟨l, m, e, _⟩ => by rw [e]; rfl) fun cdv A outer s H E hr W ds d hrow hR => ?_
  obtain ⟨l, m, rfl, h1, h2, h3, rfl⟩ := hR
  have := rowB_len h1
  have := maskB_len h3
  exact run_expr (ed_call F1 hr (ea_cons (vr 0) ea_nil) ⟨l, rfl, h1, h2, rfl⟩) (run_expr (ed_call F2 hr (ea_cons (vr 1) ea_nil) ⟨m, rfl, h3, rfl⟩) (run_ret (ed_call F3 hr (ea_cons (vr 0) (ea_cons (vr 1) ea_nil)) ⟨l, m, rfl, by omega, by omega, rfl⟩) rfl))
theorem fd_ring_tells (F : FnP K "ring_tells" s_ring_tells f fd) (G : Gs mg) (F1 : Fd P w K mg base k "need_ring" ["row"] (spR K R_need_ring)) (F2 : Fd P w K mg base k "need_mask" ["mask"] (spR K R_need_mask)) (F3 : Fd P w K mg base k "ring_views_of" ["row", "mask"] (spR K R_rvo)) : FnOk P w K mg base CX0 (k + 1) f fd ["row", "mask"] (spR K R_ring_tells) := by
  have sc : FnScope ["row", "mask", "told"] ["row", "mask"] (defScope s_ring_tells) := ⟨rfl, rfl, rfl, by decide +kernel, rfl, by decide +kernel, by decide +kernel⟩
  refine fd_pure F sc _ (fun ds d ⟨l, m, e, _⟩ => by rw [e]; rfl) fun cdv A outer s H E hr W ds d hrow hR => ?_
  obtain ⟨l, m, rfl, h1, h2, h3, rfl⟩ := hR
  have := rowB_len h1
  have := maskB_len h3
  have hl : (ringV l (seenL m)).length = l.length := by simp [ringV]
  refine run_expr (ed_call F1 hr (ea_cons (vr 0) ea_nil) ⟨l, rfl, h1, h2, rfl⟩) (run_expr (ed_call F2 hr (ea_cons (vr 1) ea_nil) ⟨m, rfl, h3, rfl⟩) (run_set 2 (ed_call F3 hr (ea_cons (vr 0) (ea_cons (vr 1) ea_nil)) ⟨l, m, rfl, by omega, by omega, rfl⟩) (run_ret (ed_cmp (ed_lenSet (ws := ringV l (seenL m)) (vr 2) G.len G.set rfl rfl (by omega)) (ed_callB G.len boot_len (ea_cons (vr 2) ea_nil) c_lenL) c_eqI) ?_) sc.nd))
  refine congrArg PyData.bool (decide_eq_decide.mpr ?_)
  rw [List.length_map, ← uq_len_iff]
  omega
theorem fd_power (F : FnP K "power" s_power f fd) (G : Gs mg) : FnOk P w K mg base CX0 (k + 1) f fd ["base", "many"] (spR K R_power) := by
  have sc : FnScope ["base", "many", "found", "turn"] ["base", "many"] (defScope s_power) := ⟨rfl, rfl, rfl, by decide +kernel, rfl, by decide +kernel, by decide +kernel⟩
  refine fd_pure F sc _ (fun ds d ⟨b, n, e, _⟩ => by rw [e]; rfl) fun cdv A outer s H E hr W ds d hrow hR => ?_
  obtain ⟨b, n, rfl, h1, h2, rfl⟩ := hR
  refine run_set 2 ed_int ?_ sc.nd
  refine run_forS 3 (it_range (n := n) (vr 1) G.range) (fun i => [.d (nn b), .d (nn n), .d (nn (b ^ i)), .no]) (fun _ => []) (fun W1 lw i x hx => ?_) ?_ sc.nd
  · refine run_set (d := nn (b ^ (i + 1))) 2 ((ed_op (vr 2) (vr 0) (o_mul (.inr (by omega)))).to ?_) run_e sc.nd
    show PyData.int _ = PyData.int _
    rw [Nat.pow_succ]
    push_cast
    rfl
  · rw [List.length_range]
    exact run_ret (vr 2) rfl
theorem fd_all_rings (F : FnP K "all_rings" s_all_rings f fd) (G : Gs mg) (F1 : Fd P w K mg base k "longer" ["rows", "mask", "letters"] (spR K R_longer)) (F2 : Fd P w K mg base k "ring_views_of" ["row", "mask"] (spR K R_rvo)) : FnOk P w K mg base CX0 (k + 1) f fd ["mask", "letters", "length"] (spR K R_all_rings) := by
  have sc : FnScope ["mask", "letters", "length", "rows", "turn", "found", "row", "ahead", "told", "at"] ["mask", "letters", "length"] (defScope s_all_rings) := ⟨rfl, rfl, rfl, by decide +kernel, rfl, by decide +kernel, by decide +kernel⟩
  refine fd_pure F sc _ (fun ds d ⟨m, n, L, e, _⟩ => by rw [e]; rfl) fun cdv A outer s H E hr W ds d hrow hR => ?_
  obtain ⟨m, n, L, rfl, hs, h1, h2, rfl⟩ := hR
  have hu := hr.units
  have hml := maskB_len hs.mask
  have hm1 := hs.pos
  have e0 : (PyData.list [PyData.tuple [PyData.str (S []), PyData.tuple []]]) = rowsT m (lev m n 0) := by
    have : viewsL [] m = [] := by
      unfold viewsL
      have : ([] : List Nat).length + 1 - m.length = 0 := by simp; omega
      rw [this]
      rfl
    simp [lev, rowT, this]
  refine run_set 3 ((ed_lst (ea_cons (ed_tup (ea_cons (ed_S []) (ea_cons (ed_tup ea_nil (by simp)) ea_nil)) (by simp)) ea_nil) (by simp)).to e0) ?_ sc.nd
  refine run_forS 4 (it_range (n := L) (vr 2) G.range) (fun i => [.d (sD m), .d (nn n), .d (nn L), .d (rowsT m (lev m n i)), .no, .no, .no, .no, .no, .no]) (fun _ => []) (fun W1 lw i x hx => ?_) ?_ sc.nd
  · have hi : i < L := by
      have := (List.getElem?_eq_some_iff.mp hx).1
      simpa using this
    have hlen := hs.len i
    have hlen2 : (nextL m n (lev m n i)).length ≤ 8388608 := hs.len (i + 1)
    refine run_set 3 (ed_call F1 hr (ea_cons (vr 3) (ea_cons (vr 0) (ea_cons (vr 1) ea_nil))) ⟨lev m n i, m, n, rfl, hs.lo, hs.hi, hs.mask, fun r hr => ?_, by omega, by omega, rfl⟩) run_e sc.nd
    have := ((mem_lev hm1 hs.hi).mp hr).1
    omega
  rw [List.length_range]
  have hlen := hs.len L
  refine run_newL 5 (fun a => ?_) sc.nd
  refine run_for2S 6 7 (it_list (xs := lev m n L) (enc := rowT m) (vr 3)) (fun i => [.d (sD m), .d (nn n), .d (nn L), .no, .no, .r a, .no, .no, .no, .no]) (fun i => [(a, .lst ((((lev m n L).take i).filter (ringOk m)).map sD))]) (fun W1 lw i r hx => ?_) ?_ sc.nd
  · have hrl := ((mem_lev hm1 hs.hi).mp (List.mem_of_getElem? hx)).1
    have hvl : (ringV r (seenL m)).length = r.length := by simp [ringV]
    have ht := take_succ_filter (c := ringOk m) hx
    have hfl : (((lev m n L).take i).filter (ringOk m)).length ≤ 8388608 := Nat.le_trans (List.length_filter_le ..) (by rw [List.length_take]; omega)
    refine run_set 8 (ed_call F2 hr (ea_cons (vr 6) (ea_cons (vr 0) ea_nil)) ⟨r, m, rfl, by omega, by omega, rfl⟩) ?_ sc.nd
    refine run_if (k := ringOk m r) ((t_and (k := decide (ringV r (seenL m)).Nodup) (l := decide (r = minR r)) (tc (ed_lenSet (ws := ringV r (seenL m)) (vr 8) G.len G.set rfl rfl (by omega)) (vr 2) c_eqI |>.to (decide_eq_decide.mpr (by rw [← uq_len_iff]; omega))) fun _ =>
      tc (vr 6) (ed_callB G.min boot_min (ea_cons ((lcN0 9 (it_range (n := L) (vr 2) G.range) (by simp; omega) (fun at_ => sD (r.drop at_ ++ r.take at_)) (fun at_ ha W2 lw2 s2 H2 C2 cl2 fp2 => ed_op (ed_sl (vr 6) (so_some (vr 9)) so_none (s_strD at_ (by omega))) (ed_sl (vr 6) so_none (so_some (vr 9)) (s_strT at_ (by omega))) (o_adds (by simp; omega))) sc.nd |>.ed sc.nd).to ?hx) ea_nil) (c_minSL rfl hu (rots_ne (by omega)))) (c_eqS (l := r))).to (by unfold ringOk; rfl)) (fun q => ?_) (fun q => run_skip ?_)
    case hx =>
      show PyData.list _ = PyData.list _
      unfold rots
      rw [List.map_map, hrl]
      rfl
    · refine run_app (ys := (((lev m n L).take i).filter (ringOk m)).map sD) (d := sD r) 5 0 (vr 6) (by rw [List.length_map]; omega) (run_skip (run_e ?_))
      rw [ht, if_pos q, List.map_append]
      rfl
    · refine run_e ?_
      rw [ht, q, if_neg Bool.false_ne_true, List.append_nil]
  · rw [List.take_length]
    exact run_retL 5 rfl (hl := by simp)
theorem fd_longest_ring (F : FnP K "longest_ring" s_longest_ring f fd) (G : Gs mg) (F1 : Fd P w K mg base k "need_small" ["mask", "letters"] (spR K R_need_small)) (F2 : Fd P w K mg base k "seen_by" ["mask"] (spR K R_seen_by)) (F3 : Fd P w K mg base k "power" ["base", "many"] (spR K R_power)) (F4 : Fd P w K mg base k "all_rings" ["mask", "letters", "length"] (spR K R_all_rings)) : FnOk P w K mg base CX0 (k + 1) f fd ["mask", "letters"] (spR K R_longest_ring) := by
  have sc : FnScope ["mask", "letters", "length", "found"] ["mask", "letters"] (defScope s_longest_ring) := ⟨rfl, rfl, rfl, by decide +kernel, rfl, by decide +kernel, by decide +kernel⟩
  refine fd_pure F sc _ (fun ds d ⟨m, n, T, e, _⟩ => by rw [e]; rfl) fun cdv A outer s H E hr W ds d hrow hR => ?_
  obtain ⟨m, n, T, rfl, hs, t1, t2, t3, t4, rfl⟩ := hR
  have hu := hr.units
  have hml := maskB_len hs.mask
  have hsn := seenL_len m
  have hp := hs.power
  refine run_expr (ed_call F1 hr (ea_cons (vr 0) (ea_cons (vr 1) ea_nil)) ⟨m, n, rfl, hs, rfl⟩) ?_
  refine run_set 2 (ed_call F3 hr (ea_cons (vr 1) (ea_cons ?hx ea_nil)) ⟨n, (seenL m).length, rfl, hs.hi, by omega, rfl⟩) ?_ sc.nd
  case hx => exact (lenL G (ed_call F2 hr (ea_cons (vr 0) ea_nil) ⟨m, rfl, by omega, rfl⟩)).to (by rw [List.length_map])
  have shp : ∀ L, Shp 1 (wD (ringsL m n L)) := fun L => shp_w fun r hr => low_128 hs.hi (mem_rings hs.pos hs.hi hr).2.1
  refine run_while (fun q Γ μ => T + q ≤ n ^ (seenL m).length ∧ wk Γ [.d (sD m), .d (nn n), .d (nn (T + q)), .no] ∧ μ = []) (fun _ => true) (n ^ (seenL m).length - T) ⟨by omega, ?_, rfl⟩ (fun W1 lw q Γ' μ' ⟨hq, w', e2⟩ => ?_) (fun W1 lw q Γ' μ' hb ⟨hq, w', e2⟩ => ?_) (fun q Γ' μ' hb _ => nomatch hb)
  · have e : T + (n ^ (seenL m).length - T) = n ^ (seenL m).length := by omega
    rw [e]
    exact wk_s (wk_s (wk_s (wk_0 wk_n)))
  · exact et_val ed_bl
  · subst e2
    refine run_weak ?_ w'
    refine run_set 3 (ed_call F4 hr (ea_cons (vr 0) (ea_cons (vr 1) (ea_cons (vr 2) ea_nil))) ⟨m, n, T + q, rfl, hs, by omega, by omega, rfl⟩) ?_ sc.nd
    refine run_if (k := !((ringsL m n (T + q)).map sD).isEmpty) (tc (vr 3) (ed_lst ea_nil (by simp)) (c_neNil hu (shp _))) (fun hb2 => ?_) (fun hb2 => run_skip ?_)
    · have hq0 : q = 0 := by
        rcases Nat.eq_zero_or_pos q with e | e
        · exact e
        · rw [t4 (T + q) (by omega) hq] at hb2
          cases hb2
      subst hq0
      refine run_ret (ed_ix (vr 3) ed_int (i_list (n := 0) (d := sD ((ringsL m n T).headD [])) ?_)) rfl
      rw [Nat.add_zero, List.getElem?_map]
      cases e : ringsL m n T with
      | nil => exact absurd e t3
      | cons a l => rfl
    · have hq0 : 0 < q := by
        rcases Nat.eq_zero_or_pos q with e | e
        · subst e
          rw [Nat.add_zero] at hb2
          cases e : ringsL m n T with
          | nil => exact absurd e t3
          | cons a l => rw [e] at hb2; cases hb2
        · exact e
      refine run_set (d := nn (T + (q - 1))) 2 ((ed_op (vr 2) ed_int o_sub).to ?_) ?_ sc.nd
      · show PyData.int _ = PyData.int _
        congr 1
        omega
      · exact run_turn rfl ⟨q - 1, by omega, by omega, wk_s (wk_s (wk_s (wk_0 wk_n))), rfl⟩
theorem fd_full_rings (F : FnP K "full_rings" s_full_rings f fd) (G : Gs mg) (F1 : Fd P w K mg base k "need_small" ["mask", "letters"] (spR K R_need_small)) (F2 : Fd P w K mg base k "seen_by" ["mask"] (spR K R_seen_by)) (F3 : Fd P w K mg base k "power" ["base", "many"] (spR K R_power)) (F4 : Fd P w K mg base k "all_rings" ["mask", "letters", "length"] (spR K R_all_rings)) : FnOk P w K mg base CX0 (k + 1) f fd ["mask", "letters"] (spR K R_full_rings) := by
  have sc : FnScope ["mask", "letters"] ["mask", "letters"] (defScope s_full_rings) := ⟨rfl, rfl, rfl, by decide +kernel, rfl, by decide +kernel, by decide +kernel⟩
  refine fd_pure F sc _ (fun ds d ⟨m, n, e, _⟩ => by rw [e]; rfl) fun cdv A outer s H E hr W ds d hrow hR => ?_
  obtain ⟨m, n, rfl, hs, rfl⟩ := hR
  have hml := maskB_len hs.mask
  have hsn := seenL_len m
  have hp := hs.power
  refine run_expr (ed_call F1 hr (ea_cons (vr 0) (ea_cons (vr 1) ea_nil)) ⟨m, n, rfl, hs, rfl⟩) ?_
  refine run_ret (ed_call F4 hr (ea_cons (vr 0) (ea_cons (vr 1) (ea_cons (ed_call F3 hr (ea_cons (vr 1) (ea_cons ?hx ea_nil)) ⟨n, (seenL m).length, rfl, hs.hi, by omega, rfl⟩) ea_nil))) ⟨m, n, n ^ (seenL m).length, rfl, hs, hp.1, hp.2, rfl⟩) rfl
  case hx => exact (lenL G (ed_call F2 hr (ea_cons (vr 0) ea_nil) ⟨m, rfl, by omega, rfl⟩)).to (by rw [List.length_map])
theorem fd_all_masks (F : FnP K "all_masks" s_all_masks f fd) (G : Gs mg) (gS : gSEEN mg) (gH : gHOLE mg) : FnOk P w K mg base CX0 (k + 1) f fd ["width"] (spR K R_all_masks) := by
  have sc : FnScope ["width", "found", "turn", "some", "sign"] ["width"] (defScope s_all_masks) := ⟨rfl, rfl, rfl, by decide +kernel, rfl, by decide +kernel, by decide +kernel⟩
  refine fd_pure F sc _ (fun ds d ⟨m, e, _⟩ => by rw [e]; rfl) fun cdv A outer s H E hr W ds d hrow hR => ?_
  obtain ⟨wd, rfl, h1, h2, rfl⟩ := hR
  refine run_if (k := decide (wd = 1)) (tc (vr 0) ed_int c_eqI |>.to (decide_eq_decide.mpr (by omega))) (fun q => run_ret (ed_lst (ea_cons (ed_gS [120] gS) ea_nil) (by simp)) (by unfold masksL; rw [if_pos (of_decide_eq_true q)]; rfl)) (fun q => run_skip ?_)
  have q' : wd ≠ 1 := of_decide_eq_false q
  have hg : ∀ i, i ≤ 10 → (maskG i).length ≤ 1024 := fun i hi => by
    rw [maskG_len]
    exact Nat.le_trans (Nat.pow_le_pow_right (by decide) hi) (by decide)
  refine run_set 1 (ed_lst (ea_cons (ed_gS [120] gS) ea_nil) (by simp)) ?_ sc.nd
  refine run_for 2 (it_range (n := wd - 2) (ed_op (vr 0) ed_int o_sub) G.range) (fun i Γ μ => Γ = [.d (nn wd), .d (wD (maskG i)), .no, .no, .no] ∧ μ = []) ⟨rfl, rfl⟩ (fun W1 lw i x Γ' μ' hx ⟨e1, e2⟩ => ?_) (fun Γ' μ' ⟨e1, e2⟩ => ?_) sc.nd
  · subst e1
    subst e2
    have hi : i < wd - 2 := by
      have := (List.getElem?_eq_some_iff.mp hx).1
      simpa using this
    have hgi := hg i (by omega)
    have hfl : ((maskG i).flatMap fun v => [46, 120].map fun c => sD (v ++ [c])) = (maskG (i + 1)).map sD := by
      rw [maskG, List.map_flatMap]
      rfl
    refine run_setLc2 1 3 4 (it_list (xs := maskG i) (enc := sD) (vr 1)) (fun _ => [46, 120]) (fun v c => sD (v ++ [c])) (by rw [hfl, List.length_map]; have := hg (i + 1) (by omega); omega) (fun v hv W2 lw2 s2 H2 C2 cl2 fp2 => it_str (cs := [46, 120]) (ed_op (ed_gS [46] gH) (ed_gS [120] gS) (o_adds (by decide)))) (fun v hv c hc W2 lw2 s2 H2 C2 cl2 fp2 => ed_op (vr 3) (vr 4) (o_adds (m := [c]) (by have := (mem_maskG hv).1; simp; omega))) ?_ sc.nd
    rw [hfl]
    refine run_go [.d (nn wd), .d (wD (maskG (i + 1))), .no, .no, .no] ⟨.inr rfl, .inr rfl, .inl rfl, .inr rfl, .inr rfl, trivial⟩ ?_
    exact ⟨rfl, rfl⟩
  · subst e1
    subst e2
    rw [List.length_range]
    refine run_ret (lcN0 3 (it_list (xs := maskG (wd - 2)) (enc := sD) (vr 1)) (by have := hg (wd - 2) (by omega); omega) (fun v => sD (v ++ [120])) (fun v hv W2 lw2 s2 H2 C2 cl2 fp2 => ed_op (vr 3) (ed_gS [120] gS) (o_adds (by have := (mem_maskG hv).1; simp; omega))) sc.nd |>.ed sc.nd) ?_
    show PyData.list _ = PyData.list _
    unfold masksL
    rw [if_neg q', List.map_map]
    rfl
theorem fd_best_masks (F : FnP K "best_masks" s_best_masks f fd) (G : Gs mg) (gM : gMOST_MASK mg) (gW : gWID K mg) (gS : gSEE K mg) (F1 : Fd P w K mg base k "is_from" ["value", "low", "high"] (spR K R_is_from)) (F2 : Fd P w K mg base k "need_letters" ["letters"] (spR K R_need_letters)) (F3 : Fd P w K mg base k "all_masks" ["width"] (spR K R_all_masks)) (F4 : Fd P w K mg base k "seen_by" ["mask"] (spR K R_seen_by)) (F5 : Fd P w K mg base k "levels_of" ["mask", "letters"] (spR K R_levels_of)) : FnOk P w K mg base CX0 (k + 1) f fd ["many", "width", "letters"] (spR K R_best_masks) := by
  have sc : FnScope ["many", "width", "letters", "best", "found", "size", "mask", "length"] ["many", "width", "letters"] (defScope s_best_masks) := ⟨rfl, rfl, rfl, by decide +kernel, rfl, by decide +kernel, by decide +kernel⟩
  refine fd_pure F sc _ (fun ds d ⟨a, b, c, e, _⟩ => by rw [e]; rfl) fun cdv A outer s H E hr W ds d hrow hR => ?_
  obtain ⟨many, wd, n, rfl, h1, h2, h3, h4, h5, h6, h7, h8, rfl⟩ := hR
  have ix : ∀ a b c d : Nat, ([(a : Int), b, c, d].map PyData.int)[n - 1]? = some (nn ([a, b, c, d].getD (n - 1) 0)) := fun a b c d => by
    match n, h5, h6 with
    | 1, _, _ => rfl
    | 2, _, _ => rfl
    | 3, _, _ => rfl
    | 4, _, _ => rfl
  have tru : ∀ x : Nat, 1 ≤ x → x ≤ 12 → (decide ((1 : Int) ≤ (x : Int)) && decide ((x : Int) ≤ (12 : Int))) = true := fun x g1 g2 => by
    have e1 : decide ((1 : Int) ≤ (x : Int)) = true := decide_eq_true (by omega)
    have e2 : decide ((x : Int) ≤ (12 : Int)) = true := decide_eq_true (by omega)
    rw [e1, e2]
    rfl
  refine run_if (k := false) (t_not (k := true) (et_val ((ed_call F1 hr (ea_cons (vr 0) (ea_cons ed_int (ea_cons (ed_gint gM) ea_nil))) ⟨(many : Int), 1, 12, rfl, rfl⟩).to (congrArg PyData.bool (tru many h1 h2))))) (fun q => nomatch q) (fun _ => run_skip ?_)
  refine run_if (k := false) (t_not (k := true) (et_val ((ed_call F1 hr (ea_cons (vr 1) (ea_cons ed_int (ea_cons (ed_gint gM) ea_nil))) ⟨(wd : Int), 1, 12, rfl, rfl⟩).to (congrArg PyData.bool (tru wd h3 h4))))) (fun q => nomatch q) (fun _ => run_skip ?_)
  refine run_expr (ed_call F2 hr (ea_cons (vr 2) ea_nil) ⟨n, rfl, h5, h6, rfl⟩) ?_
  refine run_if (k := false) (t_or (k := false) (l := false) (tc (vr 1) (ed_ix (ed_gtup gW) (ed_op (vr 2) ed_int o_sub) (i_tup (n := n - 1) (ix 12 8 5 4) (by omega))) c_gt |>.to (decide_eq_false (by omega))) fun _ => tc (vr 0) (ed_ix (ed_gtup gS) (ed_op (vr 2) ed_int o_sub) (i_tup (n := n - 1) (ix 12 4 2 1) (by omega))) c_gt |>.to (decide_eq_false (by omega))) (fun q => nomatch q) (fun _ => run_skip ?_)
  refine run_parL1 3 4 ed_int (fun a0 => ?_) sc.nd
  have small : ∀ i m, i < wd → m ∈ masksL (i + 1) → (seenL m).length = many → Small m n := fun i m hi hm hs => by
    obtain ⟨g1, g2⟩ := mem_masksL (by omega) (by omega) hm
    exact ⟨g1, h5, h6, by omega, by omega⟩
  refine run_for 5 (it_range2 (n := wd) ed_int (ed_op (vr 1) ed_int o_add) G.range) (fun i Γ μ => ∃ a, Γ = [.d (nn many), .d (nn wd), .d (nn n), .d (nn (foldB many n (allM i)).1), .r a, .no, .no, .no] ∧ μ = [(a, .lst ((foldB many n (allM i)).2.map sD))]) ⟨a0, rfl, rfl⟩ (fun W1 lw i x Γ' μ' hx ⟨a, e1, e2⟩ => ?_) (fun Γ' μ' ⟨a, e1, e2⟩ => ?_) sc.nd
  · subst e1
    subst e2
    have hi : i < wd := by
      have := (List.getElem?_eq_some_iff.mp hx).1
      simpa using this
    have hxi : x = i := by
      rw [List.getElem?_range hi] at hx
      exact (Option.some.inj hx).symm
    subst hxi
    have e1x : PyData.int ((1 : Int) + (x : Int)) = nn (x + 1) := by
      show PyData.int _ = PyData.int _
      congr 1
      push_cast
      omega
    rw [e1x]
    have hml : (masksL (x + 1)).length ≤ 1024 := masksL_len (by omega)
    have ham : allM (x + 1) = allM x ++ masksL (x + 1) := by
      unfold allM
      rw [List.range_succ, List.flatMap_append]
      simp
    have haml : (allM x).length ≤ 12288 := allM_len (by omega)
    refine run_for 6 (it_list (xs := masksL (x + 1)) (enc := sD) (ed_call F3 hr (ea_cons (vr 5) ea_nil) ⟨x + 1, rfl, by omega, by omega, rfl⟩)) (fun j Γ μ => ∃ a, Γ = [.d (nn many), .d (nn wd), .d (nn n), .d (nn (foldB many n (allM x ++ (masksL (x + 1)).take j)).1), .r a, .d (nn (x + 1)), .no, .no] ∧ μ = [(a, .lst ((foldB many n (allM x ++ (masksL (x + 1)).take j)).2.map sD))]) ⟨a, by rw [List.take_zero, List.append_nil]; rfl, by rw [List.take_zero, List.append_nil]⟩ (fun W2 lw2 j m Γ' μ' hm ⟨a, e1, e2⟩ => ?_) (fun Γ' μ' ⟨a, e1, e2⟩ => ?_) sc.nd
    · subst e1
      subst e2
      have hmm : m ∈ masksL (x + 1) := List.mem_of_getElem? hm
      obtain ⟨g1, g2⟩ := mem_masksL (by omega) (by omega) hmm
      have hstep : foldB many n (allM x ++ (masksL (x + 1)).take (j + 1)) = stepB many n (foldB many n (allM x ++ (masksL (x + 1)).take j)) m := by
        rw [List.take_add_one, hm, ← List.append_assoc]
        exact foldB_snoc many n _ m
      have hfl := foldB_len many n (allM x ++ (masksL (x + 1)).take j)
      rw [List.length_append, List.length_take] at hfl
      rw [hstep]
      generalize foldB many n (allM x ++ (masksL (x + 1)).take j) = st at hfl
      obtain ⟨bst, fnd⟩ := st
      refine run_if (k := decide ((seenL m).length = many)) (tc (ed_callB G.len boot_len (ea_cons (ed_call F4 hr (ea_cons (vr 6) ea_nil) ⟨m, rfl, by omega, rfl⟩) ea_nil) c_lenL) (vr 0) c_eqI |>.to (decide_eq_decide.mpr (by rw [List.length_map]; omega))) (fun q => ?_) (fun q => run_skip ?_)
      · have q' := of_decide_eq_true q
        have sm := small x m hi hmm q'
        have htp := sm.topK_pos
        refine run_set (d := nn (topK m n - 1)) 7 ((ed_op (ed_callB G.len boot_len (ea_cons (ed_call F5 hr (ea_cons (vr 6) (ea_cons (vr 2) ea_nil)) ⟨m, n, rfl, sm, rfl⟩) ea_nil) c_lenL) ed_int o_sub).to (by
          rw [List.length_map, List.length_range]
          show PyData.int _ = PyData.int _
          congr 1
          omega)) ?_ sc.nd
        refine run_ifJ (k := decide (topK m n - 1 > bst)) (fun Γ μ => ∃ a, Γ = [.d (nn many), .d (nn wd), .d (nn n), .d (nn (if topK m n - 1 > bst then topK m n - 1 else bst)), .r a, .d (nn (x + 1)), .d (sD m), .d (nn (topK m n - 1))] ∧ μ = [(a, .lst ((if topK m n - 1 > bst then [] else fnd).map sD))]) (tc (vr 7) (vr 3) c_gt |>.to (decide_eq_decide.mpr (by omega))) (fun q1 => ?_) (fun q1 => ?_) (fun Γ' μ' ⟨a2, e1, e2⟩ => ?_)
        · have q1' := of_decide_eq_true q1
          refine run_parL1 3 4 (vr 7) (fun a2 => ?_) sc.nd
          rw [if_pos q1', if_pos q1']
          refine run_to [.d (nn many), .d (nn wd), .d (nn n), .d (nn (topK m n - 1)), .r a2, .d (nn (x + 1)), .d (sD m), .d (nn (topK m n - 1))] [(a2, .lst [])] ⟨.inr rfl, .inr rfl, .inr rfl, .inr rfl, .inr rfl, .inr rfl, .inr rfl, .inr rfl, trivial⟩ ?_ ?_
          · exact List.Sublist.cons₂ _ (List.nil_sublist _)
          · exact ⟨a2, rfl, rfl⟩
        · have q1' := of_decide_eq_false q1
          rw [if_neg q1', if_neg q1']
          refine run_to [.d (nn many), .d (nn wd), .d (nn n), .d (nn bst), .r a, .d (nn (x + 1)), .d (sD m), .d (nn (topK m n - 1))] [(a, .lst (fnd.map sD))] ⟨.inr rfl, .inr rfl, .inr rfl, .inr rfl, .inr rfl, .inr rfl, .inr rfl, .inr rfl, trivial⟩ ?_ ?_
          · exact List.Sublist.refl _
          · exact ⟨a, rfl, rfl⟩
        · subst e1
          subst e2
          by_cases q1 : topK m n - 1 > bst
          · rw [if_pos q1, if_pos q1]
            have es : stepB many n (bst, fnd) m = (topK m n - 1, [m]) := by
              unfold stepB
              rw [if_pos q', if_pos q1]
            rw [es]
            refine run_if (k := true) (tc (vr 7) (vr 3) c_eqI |>.to (decide_eq_true rfl)) (fun _ => ?_) (fun q => nomatch q)
            refine run_app (ys := []) 4 0 (vr 6) (by simp) (run_skip (run_skip ?_))
            refine run_go [.d (nn many), .d (nn wd), .d (nn n), .d (nn (topK m n - 1)), .r a2, .d (nn (x + 1)), .no, .no] ⟨.inr rfl, .inr rfl, .inr rfl, .inr rfl, .inr rfl, .inr rfl, .inl rfl, .inl rfl, trivial⟩ ?_
            exact ⟨a2, rfl, rfl⟩
          · rw [if_neg q1, if_neg q1]
            refine run_if (k := decide (topK m n - 1 = bst)) (tc (vr 7) (vr 3) c_eqI |>.to (decide_eq_decide.mpr (by omega))) (fun q2 => ?_) (fun q2 => run_skip (run_skip ?_))
            · have q2' := of_decide_eq_true q2
              have es : stepB many n (bst, fnd) m = (bst, fnd ++ [m]) := by
                unfold stepB
                rw [if_pos q', if_neg q1, if_pos q2']
              rw [es]
              refine run_app (ys := fnd.map sD) 4 0 (vr 6) (by rw [List.length_map]; have hfl' : fnd.length ≤ _ := hfl; omega) (run_skip (run_skip ?_))
              refine run_go [.d (nn many), .d (nn wd), .d (nn n), .d (nn bst), .r a2, .d (nn (x + 1)), .no, .no] ⟨.inr rfl, .inr rfl, .inr rfl, .inr rfl, .inr rfl, .inr rfl, .inl rfl, .inl rfl, trivial⟩ ?_
              refine ⟨a2, rfl, ?_⟩
              rw [List.map_append]
              rfl
            · have q2' := of_decide_eq_false q2
              have es : stepB many n (bst, fnd) m = (bst, fnd) := by
                unfold stepB
                rw [if_pos q', if_neg q1, if_neg q2']
              rw [es]
              refine run_go [.d (nn many), .d (nn wd), .d (nn n), .d (nn bst), .r a2, .d (nn (x + 1)), .no, .no] ⟨.inr rfl, .inr rfl, .inr rfl, .inr rfl, .inr rfl, .inr rfl, .inl rfl, .inl rfl, trivial⟩ ?_
              exact ⟨a2, rfl, rfl⟩
      · have q' := of_decide_eq_false q
        have es : stepB many n (bst, fnd) m = (bst, fnd) := by
          unfold stepB
          rw [if_neg q']
        rw [es]
        refine run_go [.d (nn many), .d (nn wd), .d (nn n), .d (nn bst), .r a, .d (nn (x + 1)), .no, .no] ⟨.inr rfl, .inr rfl, .inr rfl, .inr rfl, .inr rfl, .inr rfl, .inl rfl, .inr rfl, trivial⟩ ?_
        exact ⟨a, rfl, rfl⟩
    · subst e1
      subst e2
      rw [List.take_length, ← ham]
      refine run_go [.d (nn many), .d (nn wd), .d (nn n), .d (nn (foldB many n (allM (x + 1))).1), .r a, .no, .no, .no] ⟨.inr rfl, .inr rfl, .inr rfl, .inr rfl, .inr rfl, .inl rfl, .inr rfl, .inr rfl, trivial⟩ ?_
      exact ⟨a, rfl, rfl⟩
  · subst e1
    subst e2
    rw [List.length_range]
    refine run_fix 4 (ys := (foldB many n (allM wd)).2.map sD) ?_
    exact run_ret (ed_tup (ea_cons (vr 3) (ea_cons (vr 4) ea_nil)) (by simp)) rfl
theorem fd_least_masks (F : FnP K "least_masks" s_least_masks f fd) (G : Gs mg) (gA : gMOST_ASKED mg) (F1 : Fd P w K mg base k "need_row" ["row"] (spR K R_need_row)) (F2 : Fd P w K mg base k "is_from" ["value", "low", "high"] (spR K R_is_from)) (F3 : Fd P w K mg base k "all_masks" ["width"] (spR K R_all_masks)) (F4 : Fd P w K mg base k "seen_by" ["mask"] (spR K R_seen_by)) (F5 : Fd P w K mg base k "tells_by" ["row", "mask"] (spR K R_tells_by)) : FnOk P w K mg base CX0 (k + 1) f fd ["row", "width"] (spR K R_least_masks) := by
  have sc : FnScope ["row", "width", "best", "found", "size", "mask", "many"] ["row", "width"] (defScope s_least_masks) := ⟨rfl, rfl, rfl, by decide +kernel, rfl, by decide +kernel, by decide +kernel⟩
  refine fd_pure F sc _ (fun ds d ⟨l, wd, e, _⟩ => by rw [e]; rfl) fun cdv A outer s H E hr W ds d hrow hR => ?_
  obtain ⟨l, wd, rfl, h1, h2, h3, rfl⟩ := hR
  have hl := rowB_len h1
  refine run_expr (ed_call F1 hr (ea_cons (vr 0) ea_nil) ⟨l, rfl, h1, rfl⟩) ?_
  refine run_if (k := false) (t_not (k := true) (et_val ((ed_call F2 hr (ea_cons (vr 1) (ea_cons ed_int (ea_cons (ed_gint gA) ea_nil))) ⟨(wd : Int), 1, 9, rfl, rfl⟩).to (congrArg PyData.bool (by rw [decide_eq_true (by omega), decide_eq_true (by omega)]; rfl))))) (fun q => nomatch q) (fun _ => run_skip ?_)
  refine run_parL1 2 3 ed_non (fun a0 => ?_) sc.nd
  refine run_for 4 (it_range2 (n := wd) ed_int (ed_op (vr 1) ed_int o_add) G.range) (fun i Γ μ => ∃ a, wk Γ [.d (sD l), .d (nn wd), .d (optN (foldQ l (allM i)).1), .r a, .no, .no, .no] ∧ μ = [(a, .lst ((foldQ l (allM i)).2.map sD))]) ⟨a0, wk_s (wk_s (wk_s (wk_s (wk_s (wk_s (wk_s wk_n)))))), rfl⟩ (fun W1 lw i x Γ' μ' hx ⟨a, w', e2⟩ => ?_) (fun Γ' μ' ⟨a, w', e2⟩ => ?_) sc.nd
  · subst e2
    refine run_weak ?_ (run_forS.wk_set w' 4)
    have hi : i < wd := by
      have := (List.getElem?_eq_some_iff.mp hx).1
      simpa using this
    have hxi : x = i := by
      rw [List.getElem?_range hi] at hx
      exact (Option.some.inj hx).symm
    subst hxi
    have e1x : PyData.int ((1 : Int) + (x : Int)) = nn (x + 1) := by
      show PyData.int _ = PyData.int _
      congr 1
      push_cast
      omega
    rw [e1x]
    have hml : (masksL (x + 1)).length ≤ 1024 := masksL_len (by omega)
    have ham : allM (x + 1) = allM x ++ masksL (x + 1) := by
      unfold allM
      rw [List.range_succ, List.flatMap_append]
      simp
    have haml : (allM x).length ≤ 12288 := allM_len (by omega)
    refine run_for 5 (it_list (xs := masksL (x + 1)) (enc := sD) (ed_call F3 hr (ea_cons (vr 4) ea_nil) ⟨x + 1, rfl, by omega, by omega, rfl⟩)) (fun j Γ μ => ∃ a, wk Γ [.d (sD l), .d (nn wd), .d (optN (foldQ l (allM x ++ (masksL (x + 1)).take j)).1), .r a, .d (nn (x + 1)), .no, .no] ∧ μ = [(a, .lst ((foldQ l (allM x ++ (masksL (x + 1)).take j)).2.map sD))]) ⟨a, by rw [List.take_zero, List.append_nil]; exact wk_s (wk_s (wk_s (wk_s (wk_s (wk_s (wk_s wk_n)))))), by rw [List.take_zero, List.append_nil]⟩ (fun W2 lw2 j m Γ' μ' hm ⟨a, w', e2⟩ => ?_) (fun Γ' μ' ⟨a, w', e2⟩ => ?_) sc.nd
    · subst e2
      refine run_weak ?_ (run_forS.wk_set w' 5)
      have hmm : m ∈ masksL (x + 1) := List.mem_of_getElem? hm
      obtain ⟨g1, g2⟩ := mem_masksL (by omega) (by omega) hmm
      have hm1 := maskB_pos g1
      have hstep : foldQ l (allM x ++ (masksL (x + 1)).take (j + 1)) = stepQ l (foldQ l (allM x ++ (masksL (x + 1)).take j)) m := by
        rw [List.take_add_one, hm, ← List.append_assoc]
        exact foldQ_snoc l _ m
      have hfl := foldQ_len l (allM x ++ (masksL (x + 1)).take j)
      rw [List.length_append, List.length_take] at hfl
      rw [hstep]
      generalize foldQ l (allM x ++ (masksL (x + 1)).take j) = st at hfl ⊢
      obtain ⟨bst, fnd⟩ := st
      have hfl' : fnd.length ≤ 16777000 := by have hfl2 : fnd.length ≤ _ := hfl; omega
      refine run_set (d := nn (seenL m).length) 6 ((lenL G (ed_call F4 hr (ea_cons (vr 5) ea_nil) ⟨m, rfl, by omega, rfl⟩)).to (by rw [List.length_map])) ?_ sc.nd
      cases bst with
      | none =>
        refine run_if (k := okQ l m) ((tw_and (k := decide (m.length ≤ l.length)) (l := tellsB l m) (tc (vr 4) (lenS G (vr 0)) c_le |>.to (decide_eq_decide.mpr (by omega))) fun _ => (tw_and (k := true) (l := tellsB l m) (t_or (k := true) (l := true) (tc (vr 2) ed_non c_isN) fun e => nomatch e) fun _ => tw_and1 (et_val (ed_call F5 hr (ea_cons (vr 0) (ea_cons (vr 5) ea_nil)) ⟨l, m, rfl, by omega, by omega, by omega, rfl⟩)))).t.to (by unfold okQ; rfl)) (fun q => ?_) (fun q => run_skip ?_)
        · have es : stepQ l (none, fnd) m = (some (seenL m).length, [m]) := by unfold stepQ; rw [if_pos q]
          rw [es]
          refine run_if (k := true) ((t_or (k := true) (l := true) (tc (vr 2) ed_non c_isN) fun e => nomatch e)) (fun _ => ?_) (fun e => nomatch e)
          refine run_parL1 2 3 (vr 6) (fun a2 => run_skip ?_) sc.nd
          refine run_app (ys := []) 3 0 (vr 5) (by simp) (run_skip ?_)
          refine run_to [.d (sD l), .d (nn wd), .d (nn (seenL m).length), .r a2, .d (nn (x + 1)), .no, .no] [(a2, .lst [sD m])] ⟨.inr rfl, .inr rfl, .inr rfl, .inr rfl, .inr rfl, .inl rfl, .inl rfl, trivial⟩ ?_ ?_
          · exact List.Sublist.cons₂ _ (List.nil_sublist _)
          · exact ⟨a2, wk_s (wk_s (wk_s (wk_s (wk_s (wk_s (wk_s wk_n)))))), rfl⟩
        · have es : stepQ l (none, fnd) m = (none, fnd) := by unfold stepQ; rw [if_neg (by rw [q]; decide)]
          rw [es]
          exact run_turn rfl ⟨a, wk_s (wk_s (wk_s (wk_s (wk_s (wk_0 (wk_0 wk_n)))))), rfl⟩
      | some b =>
        refine run_if (k := okQ l m && decide ((seenL m).length ≤ b)) ((tw_and (k := decide (m.length ≤ l.length)) (l := decide ((seenL m).length ≤ b) && tellsB l m) (tc (vr 4) (lenS G (vr 0)) c_le |>.to (decide_eq_decide.mpr (by omega))) fun _ => (tw_and (k := decide ((seenL m).length ≤ b)) (l := tellsB l m) ((t_or (k := false) (l := decide ((seenL m).length ≤ b)) (tc (vr 2) ed_non c_isN) fun _ => tc (vr 6) (vr 2) c_le |>.to (decide_eq_decide.mpr (by omega))).to (by simp)) fun _ => tw_and1 (et_val (ed_call F5 hr (ea_cons (vr 0) (ea_cons (vr 5) ea_nil)) ⟨l, m, rfl, by omega, by omega, by omega, rfl⟩)))).t.to (by unfold okQ; cases decide (m.length ≤ l.length) <;> cases decide ((seenL m).length ≤ b) <;> cases tellsB l m <;> rfl)) (fun q => ?_) (fun q => run_skip ?_)
        · rw [Bool.and_eq_true, decide_eq_true_iff] at q
          obtain ⟨q1, q2⟩ := q
          by_cases q3 : (seenL m).length < b
          · have es : stepQ l (some b, fnd) m = (some (seenL m).length, [m]) := by unfold stepQ; rw [if_pos q1]; exact if_pos q3
            rw [es]
            refine run_if (k := true) ((t_or (k := false) (l := true) (tc (vr 2) ed_non c_isN) fun _ => tc (vr 6) (vr 2) c_lt |>.to (decide_eq_true (by omega)))) (fun _ => ?_) (fun e => nomatch e)
            refine run_parL1 2 3 (vr 6) (fun a2 => run_skip ?_) sc.nd
            refine run_app (ys := []) 3 0 (vr 5) (by simp) (run_skip ?_)
            refine run_to [.d (sD l), .d (nn wd), .d (nn (seenL m).length), .r a2, .d (nn (x + 1)), .no, .no] [(a2, .lst [sD m])] ⟨.inr rfl, .inr rfl, .inr rfl, .inr rfl, .inr rfl, .inl rfl, .inl rfl, trivial⟩ ?_ ?_
            · exact List.Sublist.cons₂ _ (List.nil_sublist _)
            · exact ⟨a2, wk_s (wk_s (wk_s (wk_s (wk_s (wk_s (wk_s wk_n)))))), rfl⟩
          · have q4 : (seenL m).length = b := by omega
            have es : stepQ l (some b, fnd) m = (some b, fnd ++ [m]) := by unfold stepQ; rw [if_pos q1]; exact (if_neg q3).trans (if_pos q4)
            rw [es]
            refine run_if (k := false) ((t_or (k := false) (l := false) (tc (vr 2) ed_non c_isN) fun _ => tc (vr 6) (vr 2) c_lt |>.to (decide_eq_false (by omega)))) (fun e => nomatch e) (fun _ => run_skip ?_)
            refine run_app (ys := fnd.map sD) 3 0 (vr 5) (by rw [List.length_map]; omega) (run_skip ?_)
            refine run_turn rfl ⟨a, wk_s (wk_s (wk_s (wk_s (wk_s (wk_0 (wk_0 wk_n)))))), ?_⟩
            rw [List.map_append]
            rfl
        · have es : stepQ l (some b, fnd) m = (some b, fnd) := by
            unfold stepQ
            by_cases q1 : okQ l m = true
            · rw [if_pos q1]
              rw [q1, Bool.true_and] at q
              have q2 := of_decide_eq_false q
              exact (if_neg (by omega)).trans (if_neg (by omega))
            · rw [if_neg q1]
          rw [es]
          exact run_turn rfl ⟨a, wk_s (wk_s (wk_s (wk_s (wk_s (wk_0 (wk_0 wk_n)))))), rfl⟩
    · subst e2
      refine run_weak ?_ w'
      rw [List.take_length, ← ham]
      exact run_turn rfl ⟨a, wk_s (wk_s (wk_s (wk_s (wk_0 (wk_0 (wk_0 wk_n)))))), rfl⟩
  · subst e2
    refine run_weak ?_ w'
    rw [List.length_range]
    exact run_retL (ys := (foldQ l (allM wd)).2.map sD) 3 (hl := by simp) rfl
theorem fd_law_long24 (F : FnP K "_law_long" s__law_long f fd) (G : Gs mg) (Flongest : Fd P w K mg base k "longest" ["mask", "letters"] (spR K R_longest)) (Flongest_rows : Fd P w K mg base k "longest_rows" ["mask", "letters"] (spR K R_longest_rows)) (Fcount_rows : Fd P w K mg base k "count_rows" ["mask", "letters", "length"] (spR K R_count_rows)) (Fnext_letters : Fd P w K mg base k "next_letters" ["row", "mask", "letters"] (spR K R_next_letters)) (Ffarthest : Fd P w K mg base k "farthest" ["row", "mask", "letters"] (spR K R_farthest)) (Fring_views : Fd P w K mg base k "ring_views" ["row", "mask"] (spR K R_ring_views)) (Fring_tells : Fd P w K mg base k "ring_tells" ["row", "mask"] (spR K R_ring_tells)) (Flongest_ring : Fd P w K mg base k "longest_ring" ["mask", "letters"] (spR K R_longest_ring)) (Ffull_rings : Fd P w K mg base k "full_rings" ["mask", "letters"] (spR K R_full_rings)) (Fbest_masks : Fd P w K mg base k "best_masks" ["many", "width", "letters"] (spR K R_best_masks)) (Fleast_masks : Fd P w K mg base k "least_masks" ["row", "width"] (spR K R_least_masks)) : FnOk P w K mg base CX0 (k + 1) f fd [] (spR K R_long) := by
  have sc : FnScope [] [] (defScope s__law_long) := ⟨rfl, rfl, rfl, by decide +kernel, rfl, by decide +kernel, by decide +kernel⟩
  refine fd_pure F sc _ (fun ds d ⟨e, _⟩ => by rw [e]; rfl) fun cdv A outer s H E hr W ds d hrow hR => ?_
  obtain ⟨rfl, rfl⟩ := hR
  have hu := hr.units
  refine run_if (k := false) ?c8 (fun q => nomatch q) (fun _ => run_skip ?_)
  case c8 =>
    refine EdW.t (tw_or (k := false) (l := false) ?_ (fun _ => tw_or1 ?_))
    · refine tc (x := nn 6) (y := nn 6) (k := false) ?_ ?_ (c_neSame hu (shpC rfl (by decide)))
      · exact Ed.to (ed_call Flongest hr (ea_cons (ed_S [120, 46, 120]) (ea_cons ed_int ea_nil)) ⟨[120, 46, 120], 2, rfl, sm_X2, rfl⟩) (by rw [top_1]; rfl)
      · exact Ed.to ed_int rfl
    · refine tc (x := wD [[97, 98, 97, 98, 98, 97], [97, 98, 98, 97, 98, 97], [98, 97, 97, 98, 97, 98], [98, 97, 98, 97, 97, 98]]) (y := wD [[97, 98, 97, 98, 98, 97], [97, 98, 98, 97, 98, 97], [98, 97, 97, 98, 97, 98], [98, 97, 98, 97, 97, 98]]) (k := false) ?_ ?_ (c_neSame hu (shp_w (by decide)))
      · exact Ed.to (ed_call Flongest_rows hr (ea_cons (ed_S [120, 46, 120]) (ea_cons ed_int ea_nil)) ⟨[120, 46, 120], 2, rfl, sm_X2, rfl⟩) (by rw [top_1]; exact congrArg wD kl_4.1)
      · exact Ed.to (ed_lst (ea_cons (ed_S [97, 98, 97, 98, 98, 97]) (ea_cons (ed_S [97, 98, 98, 97, 98, 97]) (ea_cons (ed_S [98, 97, 97, 98, 97, 98]) (ea_cons (ed_S [98, 97, 98, 97, 97, 98]) ea_nil)))) (by simp)) rfl
  refine run_if (k := false) ?c9 (fun q => nomatch q) (fun _ => run_skip ?_)
  case c9 =>
    refine EdW.t (tw_or (k := false) (l := false) ?_ (fun _ => tw_or (k := false) (l := false) ?_ (fun _ => tw_or1 ?_)))
    · refine tc (x := nn 12) (y := nn 12) (k := false) ?_ ?_ (c_neSame hu (shpC rfl (by decide)))
      · exact Ed.to (ed_call Fcount_rows hr (ea_cons (ed_S [120, 46, 120]) (ea_cons ed_int (ea_cons ed_int ea_nil))) ⟨[120, 46, 120], 2, 5, rfl, sm_X2, by decide, rfl⟩) (by rw [cnt_1])
      · exact Ed.to ed_int rfl
    · refine tc (x := nn 11) (y := nn 11) (k := false) ?_ ?_ (c_neSame hu (shpC rfl (by decide)))
      · exact Ed.to (ed_call Flongest hr (ea_cons (ed_S [120, 120, 46, 120]) (ea_cons ed_int ea_nil)) ⟨[120, 120, 46, 120], 2, rfl, sm_Y2, rfl⟩) (by rw [top_3]; rfl)
      · exact Ed.to ed_int rfl
    · refine tc (x := nn 3) (y := nn 3) (k := false) ?_ ?_ (c_neSame hu (shpC rfl (by decide)))
      · exact Ed.to (ed_call Flongest hr (ea_cons (ed_S [120, 46, 120]) (ea_cons ed_int ea_nil)) ⟨[120, 46, 120], 1, rfl, sm_X1, rfl⟩) (by rw [top_2]; rfl)
      · exact Ed.to ed_int rfl
  refine run_if (k := false) ?c10 (fun q => nomatch q) (fun _ => run_skip ?_)
  case c10 =>
    refine EdW.t (tw_or (k := false) (l := false) ?_ (fun _ => tw_or (k := false) (l := false) ?_ (fun _ => tw_or1 ?_)))
    · refine tc (x := sD [97]) (y := sD [97]) (k := false) ?_ ?_ (c_neSame hu (Shp.str (by decide)))
      · exact Ed.to (ed_call Fnext_letters hr (ea_cons (ed_S [97, 98, 97, 98, 98]) (ea_cons (ed_S [120, 46, 120]) (ea_cons ed_int ea_nil))) ⟨[97, 98, 97, 98, 98], [120, 46, 120], 2, rfl, by decide, by decide, by decide, lowB_of (by decide), by decide, rfl⟩) (by rw [kl_5])
      · exact Ed.to (ed_S [97]) rfl
    · refine tc (x := nn 5) (y := nn 5) (k := false) ?_ ?_ (c_neSame hu (shpC rfl (by decide)))
      · exact Ed.to (ed_call Ffarthest hr (ea_cons (ed_S [97, 97, 98]) (ea_cons (ed_S [120, 46, 120]) (ea_cons ed_int ea_nil))) ⟨[97, 97, 98], [120, 46, 120], 2, rfl, sm_X2, by decide, lowB_of (by decide), rfl⟩) (by rw [far_1])
      · exact Ed.to ed_int rfl
    · refine tc (x := nn 6) (y := nn 6) (k := false) ?_ ?_ (c_neSame hu (shpC rfl (by decide)))
      · exact Ed.to (ed_call Ffarthest hr (ea_cons (ed_S [97, 98, 98, 97]) (ea_cons (ed_S [120, 46, 120]) (ea_cons ed_int ea_nil))) ⟨[97, 98, 98, 97], [120, 46, 120], 2, rfl, sm_X2, by decide, lowB_of (by decide), rfl⟩) (by rw [far_2])
      · exact Ed.to ed_int rfl
  refine run_if (k := false) ?c11 (fun q => nomatch q) (fun _ => run_skip ?_)
  case c11 =>
    refine EdW.t (tw_or (k := false) (l := false) ?_ (fun _ => tw_or1 ?_))
    · exact EdT.to (tc (x := .none) (Ed.to (ed_call Ffarthest hr (ea_cons (ed_S [97, 98, 97, 98, 97]) (ea_cons (ed_S [120, 46, 120]) (ea_cons ed_int ea_nil))) ⟨[97, 98, 97, 98, 97], [120, 46, 120], 2, rfl, sm_X2, by decide, lowB_of (by decide), rfl⟩) (by rw [far_3])) ed_non c_notN) rfl
    · refine tc (x := wD [[97, 98], [97, 97], [98, 97]]) (y := wD [[97, 98], [97, 97], [98, 97]]) (k := false) ?_ ?_ (c_neSame hu (shp_w (by decide)))
      · exact Ed.to (ed_call Fring_views hr (ea_cons (ed_S [97, 97, 98]) (ea_cons (ed_S [120, 46, 120]) ea_nil)) ⟨[97, 97, 98], [120, 46, 120], rfl, by decide, by decide, by decide, rfl⟩) (by rw [kl_7.1])
      · exact Ed.to (ed_lst (ea_cons (ed_S [97, 98]) (ea_cons (ed_S [97, 97]) (ea_cons (ed_S [98, 97]) ea_nil))) (by simp)) rfl
  refine run_if (k := false) ?c12 (fun q => nomatch q) (fun _ => run_skip ?_)
  case c12 =>
    refine EdW.t (tw_or (k := false) (l := false) ?_ (fun _ => tw_or (k := false) (l := false) ?_ (fun _ => tw_or1 ?_)))
    · exact t_not (k := true) (et_val (Ed.to (ed_call Fring_tells hr (ea_cons (ed_S [97, 97, 98]) (ea_cons (ed_S [120, 46, 120]) ea_nil)) ⟨[97, 97, 98], [120, 46, 120], rfl, by decide, by decide, by decide, rfl⟩) (by rw [kl_7.1]; rfl)))
    · refine tc (x := sD [97, 97, 98]) (y := sD [97, 97, 98]) (k := false) ?_ ?_ (c_neSame hu (Shp.str (by decide)))
      · exact Ed.to (ed_call Flongest_ring hr (ea_cons (ed_S [120, 46, 120]) (ea_cons ed_int ea_nil)) ⟨[120, 46, 120], 2, 3, rfl, sm_X2, by decide, by decide, kl_8.1, ring_4, rfl⟩) (by rw [kl_8.2.2])
      · exact Ed.to (ed_S [97, 97, 98]) rfl
    · refine tc (x := sD [97, 97, 97, 98, 97, 98, 98]) (y := sD [97, 97, 97, 98, 97, 98, 98]) (k := false) ?_ ?_ (c_neSame hu (Shp.str (by decide)))
      · exact Ed.to (ed_call Flongest_ring hr (ea_cons (ed_S [120, 120, 46, 120]) (ea_cons ed_int ea_nil)) ⟨[120, 120, 46, 120], 2, 7, rfl, sm_Y2, by decide, by decide, kl_9.1, ring_8, rfl⟩) (by rw [kl_9.2.2])
      · exact Ed.to (ed_S [97, 97, 97, 98, 97, 98, 98]) rfl
  refine run_if (k := false) ?c13 (fun q => nomatch q) (fun _ => run_skip ?_)
  case c13 =>
    refine EdW.t (tw_or (k := false) (l := false) ?_ (fun _ => tw_or (k := false) (l := false) ?_ (fun _ => tw_or1 ?_)))
    · refine tc (x := wD [[97, 97, 98, 98]]) (y := wD [[97, 97, 98, 98]]) (k := false) ?_ ?_ (c_neSame hu (shp_w (by decide)))
      · exact Ed.to (ed_call Ffull_rings hr (ea_cons (ed_S [120, 120]) (ea_cons ed_int ea_nil)) ⟨[120, 120], 2, rfl, sm_2, rfl⟩) (by exact congrArg wD kl_10)
      · exact Ed.to (ed_lst (ea_cons (ed_S [97, 97, 98, 98]) ea_nil) (by simp)) rfl
    · refine tc (x := wD []) (y := wD []) (k := false) ?_ ?_ (c_neSame hu (shp_w (by decide)))
      · exact Ed.to (ed_call Ffull_rings hr (ea_cons (ed_S [120, 46, 120]) (ea_cons ed_int ea_nil)) ⟨[120, 46, 120], 2, rfl, sm_X2, rfl⟩) (by exact congrArg wD kl_8.2.1)
      · exact Ed.to (ed_lst ea_nil (by simp)) rfl
    · refine tc (x := wD [[97, 97], [98, 98]]) (y := wD [[97, 97], [98, 98]]) (k := false) ?_ ?_ (c_neSame hu (shp_w (by decide)))
      · exact Ed.to (ed_call Fring_views hr (ea_cons (ed_S [97, 98]) (ea_cons (ed_S [120, 46, 120]) ea_nil)) ⟨[97, 98], [120, 46, 120], rfl, by decide, by decide, by decide, rfl⟩) (by rw [kl_7.2])
      · exact Ed.to (ed_lst (ea_cons (ed_S [97, 97]) (ea_cons (ed_S [98, 98]) ea_nil)) (by simp)) rfl
  refine run_if (k := false) ?c14 (fun q => nomatch q) (fun _ => run_skip ?_)
  case c14 =>
    refine EdW.t (tw_or (k := false) (l := false) ?_ (fun _ => tw_or1 ?_))
    · refine tc (x := .tuple [nn 7, wD [[120, 46, 46, 120]]]) (y := .tuple [nn 7, wD [[120, 46, 46, 120]]]) (k := false) ?_ ?_ (c_neSame hu (shp_2 (n := 1) (Shp.up Shp.int (by decide)) (shp_w (by decide))))
      · exact Ed.to (ed_call Fbest_masks hr (ea_cons ed_int (ea_cons ed_int (ea_cons ed_int ea_nil))) ⟨2, 4, 2, rfl, by decide, by decide, by decide, by decide, by decide, by decide, by decide, by decide, rfl⟩) (by rw [best_1])
      · exact Ed.to (ed_tup (ea_cons ed_int (ea_cons (ed_lst (ea_cons (ed_S [120, 46, 46, 120]) ea_nil) (by simp)) ea_nil)) (by simp)) rfl
    · refine tc (x := .tuple [nn 0, wD []]) (y := .tuple [nn 0, wD []]) (k := false) ?_ ?_ (c_neSame hu (shp_2 (n := 1) (Shp.up Shp.int (by decide)) (shp_w (by decide))))
      · exact Ed.to (ed_call Fbest_masks hr (ea_cons ed_int (ea_cons ed_int (ea_cons ed_int ea_nil))) ⟨3, 2, 2, rfl, by decide, by decide, by decide, by decide, by decide, by decide, by decide, by decide, rfl⟩) (by rw [best_2])
      · exact Ed.to (ed_tup (ea_cons ed_int (ea_cons (ed_lst ea_nil (by simp)) ea_nil)) (by simp)) rfl
  refine run_ret (d := .bool true) (Ed.to (ed_and (k := true) (l := true) ?r1 (fun _ => ed_and (k := true) (l := true) ?r2 (fun _ => ed_one ?r3))) rfl) rfl
  case r1 => exact ed_cmp (x := wD [[120, 46, 120]]) (Ed.to (ed_call Fleast_masks hr (ea_cons (ed_S [97, 98, 98, 97, 98]) (ea_cons ed_int ea_nil)) ⟨[97, 98, 98, 97, 98], 3, rfl, by decide, by decide, by decide, rfl⟩) (by rw [kl_12.1])) (Ed.to (ed_lst (ea_cons (ed_S [120, 46, 120]) ea_nil) (by simp)) rfl) (c_eqSame hu (shp_w (by decide)))
  case r2 => exact ed_cmp (x := wD []) (Ed.to (ed_call Fleast_masks hr (ea_cons (ed_S [97, 97, 97]) (ea_cons ed_int ea_nil)) ⟨[97, 97, 97], 2, rfl, by decide, by decide, by decide, rfl⟩) (by rw [kl_12.2.1])) (Ed.to (ed_lst ea_nil (by simp)) rfl) (c_eqSame hu (shp_w (by decide)))
  case r3 => exact ed_cmp (x := wD [[120]]) (Ed.to (ed_call Fleast_masks hr (ea_cons (ed_S [97, 98]) (ea_cons ed_int ea_nil)) ⟨[97, 98], 1, rfl, by decide, by decide, by decide, rfl⟩) (by rw [kl_12.2.2])) (Ed.to (ed_lst (ea_cons (ed_S [120]) ea_nil) (by simp)) rfl) (c_eqSame hu (shp_w (by decide)))
theorem fd_need_views (F : FnP K "need_views" s_need_views f fd) (G : Gs mg) (F1 : Fd P w K mg base k "is_view" ["mask", "value"] (spR K R_is_view)) : FnOk P w K mg base CX0 (k + 1) f fd ["mask", "views", "most"] (spR K R_need_views) := by
  have sc : FnScope ["mask", "views", "most", "index", "view"] ["mask", "views", "most"] (defScope s_need_views) := ⟨rfl, rfl, rfl, by decide +kernel, rfl, by decide +kernel, by decide +kernel⟩
  refine fd_pure F sc _ (fun ds d ⟨m, t, vs, q, e, _⟩ => by rw [e]; rfl) fun cdv A outer s H E hr W ds d hrow hR => ?_
  obtain ⟨m, t, vs, q, rfl, h1, h2, h3, h4, h5, rfl⟩ := hR
  refine run_if (k := false) ((t_or (t_not (k := true) (et_val (ed_isLT (vr 1) G.isinstance G.list G.tuple))) fun _ => t_not (tc_chain ed_int (lenSq G (vr 1)) (fun _ => vr 2) c_le c_le)).to ?hc) (fun e => nomatch e) (fun _ => run_skip ?_)
  case hc =>
    have e1 : (decide ((1 : Int) ≤ ((vs.map sD).length : Int)) && decide (((vs.map sD).length : Int) ≤ (q : Int))) = true := by
      rw [List.length_map, Bool.and_eq_true]
      exact ⟨decide_eq_true (by omega), decide_eq_true (by omega)⟩
    rw [e1]
    rfl
  refine run_for2S (e1 := fun q : Nat × List Nat => nn q.1) (e2 := fun q : Nat × List Nat => sD q.2) 3 4 (it_enumN (xs := vs) (enc := sD) (vr 1) G.enumerate seqD_items) (fun _ => [.d (sD m), .no, .no, .no, .no]) (fun _ => []) (fun W1 lw i q hq => ?_) ?_ sc.nd
  · rw [List.getElem?_mapIdx] at hq
    obtain ⟨v, hv, rfl⟩ := Option.map_eq_some_iff.mp hq
    refine run_if (k := false) (t_not (k := true) (et_val (ed_call F1 hr (ea_cons (vr 0) (ea_cons (vr 4) ea_nil)) ⟨m, v, rfl, h1, h5 v (List.mem_of_getElem? hv), rfl⟩))) (fun e => nomatch e) (fun _ => run_skip run_e)
  · exact run_end rfl
theorem fd_laid (F : FnP K "laid" s_laid f fd) (G : Gs mg) (gO : gOPENm mg) (F1 : Fd P w K mg base k "seen_by" ["mask"] (spR K R_seen_by)) : FnOk P w K mg base CX0 (k + 1) f fd ["mask", "found", "place", "view"] (spR K R_laid) := by
  have sc : FnScope ["mask", "found", "place", "view", "some", "sign", "at"] ["mask", "found", "place", "view"] (defScope s_laid) := ⟨rfl, rfl, rfl, by decide +kernel, rfl, by decide +kernel, by decide +kernel⟩
  refine fd_pure F sc _ (fun ds d ⟨m, f, v, p, e, _⟩ => by rw [e]; rfl) fun cdv A outer s H E hr W ds d hrow hR => ?_
  obtain ⟨m, f, v, p, rfl, h1, h2, h3, h4, rfl⟩ := hR
  refine run_copyL 4 (vr 1) (fun a => ?_) G.list sc.nd
  refine run_for2P (e1 := fun q : Nat × Nat => sg q.1) (e2 := fun q : Nat × Nat => nn q.2) 5 6 (it_zip (xs := v) (ys := seenL m) (enc := sg) (enc2 := nn) (vr 3) (ed_call F1 hr (ea_cons (vr 0) ea_nil) ⟨m, rfl, by omega, rfl⟩) G.zip rfl rfl) (fun _ => [.no, .no, .d (nn p), .no, .r a, .no, .no]) (fun i => [(a, .lst (((layI m f p v i).getD []).map sg))]) (fun i => ∃ g, layI m f p v i = some g) ⟨f, rfl⟩ (fun W1 lw i q hq hg => ?_) (fun hg => ?_) sc.nd
  · obtain ⟨g, hg⟩ := hg
    obtain ⟨c, y⟩ := q
    have hst := layI_succ (f := f) (p := p) hq
    have hgl : g.length = f.length := lay_len hg
    have hy : y < m.length := by
      have := (List.of_mem_zip (List.mem_of_getElem? hq)).2
      exact mem_seen this
    simp only [hg, Option.getD_some] at hst ⊢
    have hget : (g.map sg)[p + y]? = some (sg (g.getD (p + y) 0)) := by
      have : p + y < g.length := by omega
      rw [List.getElem?_map, List.getD_eq_getElem?_getD, List.getElem?_eq_getElem this]
      rfl
    refine run_if (k := decide (c ≠ 63)) ((tc (vr 5) (ed_gS [63] gO) (c_neS (l := [c]) (m := [63]))).to (by simp)) (fun e1 => ?_) (fun e1 => run_skip ?_)
    · have e1 := of_decide_eq_true e1
      refine run_if (k := !decide ([g.getD (p + y) 0] ∈ [[63], [c]])) (tc (ed_lix 4 0 (p + y) (ed_op (vr 2) (vr 6) o_add) hget (by push_cast; rfl)) (ed_tup (ea_cons (ed_gS [63] gO) (ea_cons (vr 5) ea_nil)) (by simp)) (c_ninTS (ws := [[63], [c]]))) (fun e2 => ?_) (fun e2 => run_skip ?_)
      · have e2 : ¬ (g.getD (p + y) 0 = 63 ∨ g.getD (p + y) 0 = c) := by simpa using e2
        refine run_ret ed_non ?_
        have z : layI m f p v (i + 1) = none := by
          rw [hst]
          show (if c = 63 then some g else if g.getD (p + y) 0 ∈ [63, c] then some (g.set (p + y) c) else none) = none
          rw [if_neg e1, if_neg (by simpa using e2)]
        rw [layI_stop z]
        rfl
      · have e2 : g.getD (p + y) 0 = 63 ∨ g.getD (p + y) 0 = c := by
          have : [g.getD (p + y) 0] ∈ [[63], [c]] := by simpa only [Bool.not_eq_false', decide_eq_true_eq] using e2
          rcases List.mem_cons.mp this with z | z
          · exact .inl (List.cons.inj z).1
          · exact .inr (List.cons.inj (List.mem_singleton.mp z)).1
        have z : layI m f p v (i + 1) = some (g.set (p + y) c) := by
          rw [hst]
          show (if c = 63 then some g else if g.getD (p + y) 0 ∈ [63, c] then some (g.set (p + y) c) else none) = _
          rw [if_neg e1, if_pos (by simpa using e2)]
        refine run_lset (ys := g.map sg) 4 0 (p + y) (vr 5) (ed_op (vr 2) (vr 6) o_add) (by rw [List.length_map]; omega) ?_ (by push_cast; rfl) rfl rfl
        rw [z, Option.getD_some, List.map_set]
        refine run_skip (run_eP ?_)
        exact ⟨_, rfl⟩
    · have e1 : c = 63 := by simpa using e1
      have z : layI m f p v (i + 1) = some g := by
        rw [hst]
        show (if c = 63 then some g else _) = _
        rw [if_pos e1]
      rw [z]
      refine run_eP ?_
      exact ⟨g, rfl⟩
  · obtain ⟨g, hg⟩ := hg
    rw [hg]
    refine run_retL 4 (hl := by simp) ?_
    have e : laidL m f p v = some g := by
      rw [← hg]
      unfold layI laidL
      rw [List.take_length]
    rw [e]
    rfl
theorem fd_clash_of (F : FnP K "clash_of" s_clash_of f fd) (G : Gs mg) (gO : gOPENm mg) (F1 : Fd P w K mg base k "laid" ["mask", "found", "place", "view"] (spR K R_laid)) : FnOk P w K mg base CX0 (k + 1) f fd ["mask", "views"] (spR K R_clash_of) := by
  have sc : FnScope ["mask", "views", "found", "place", "view", "some"] ["mask", "views"] (defScope s_clash_of) := ⟨rfl, rfl, rfl, by decide +kernel, rfl, by decide +kernel, by decide +kernel⟩
  refine fd_pure F sc _ (fun ds d ⟨m, t, vs, e, _⟩ => by rw [e]; rfl) fun cdv A outer s H E hr W ds d hrow hR => ?_
  obtain ⟨m, t, vs, rfl, h1, h2, h3, h4, h5, rfl⟩ := hR
  obtain ⟨f0, hf0⟩ : ∃ f0, f0 = List.replicate (m.length + vs.length - 1) 63 := ⟨_, rfl⟩
  have hfl : f0.length = m.length + vs.length - 1 := by rw [hf0, List.length_replicate]
  refine run_set (d := gL f0) 2 ((ed_op (ed_lst (ea_cons (ed_gS [63] gO) ea_nil) (by simp)) (ed_op (ed_op (lenS G (vr 0)) (lenSq G (vr 1)) o_add) ed_int o_sub) (o_rep (by simp; omega) (by simp; omega))).to ?hrep) ?_ sc.nd
  case hrep =>
    have e : ((m.length : Int) + ((vs.map sD).length : Int) - 1).toNat = m.length + vs.length - 1 := by
      rw [List.length_map]
      omega
    rw [e, hf0]
    show PyData.list _ = PyData.list _
    rw [List.map_replicate]
    congr 1
    generalize m.length + vs.length - 1 = n
    induction n with
    | zero => rfl
    | succ n ih => rw [List.replicate_succ, List.replicate_succ, List.flatten_cons, ih]; rfl
  have hcl : clashL m vs = clashGo m 0 f0 vs := by rw [hf0]; rfl
  rw [hcl]
  refine run_for2P (e1 := fun q : Nat × List Nat => nn q.1) (e2 := fun q : Nat × List Nat => sD q.2) 3 4 (it_enumN (xs := vs) (enc := sD) (vr 1) G.enumerate seqD_items) (fun i => [.d (sD m), .no, .d (gL (clashGo m 0 f0 (vs.take i)).1), .no, .no, .no]) (fun _ => []) (fun i => (clashGo m 0 f0 (vs.take i)).2 = none) rfl (fun W1 lw i q hq hn => ?_) (fun hn => ?_) sc.nd
  · rw [List.getElem?_mapIdx] at hq
    obtain ⟨v, hv, rfl⟩ := Option.map_eq_some_iff.mp hq
    have hi := (List.getElem?_eq_some_iff.mp hv).1
    obtain ⟨g, hg⟩ : ∃ g, clashGo m 0 f0 (vs.take i) = (g, none) := ⟨_, Prod.ext rfl hn⟩
    have hgl : g.length = f0.length := by
      have := clash_len (vs.take i) 0 (m := m) f0
      rw [hg] at this
      exact this
    simp only [hg]
    refine run_set (d := optL (laidL m g i v)) 5 (ed_call F1 hr (ea_cons (vr 0) (ea_cons (vr 2) (ea_cons (vr 3) (ea_cons (vr 4) ea_nil)))) ⟨m, g, v, i, rfl, h2, by omega, by omega, h5 v (List.mem_of_getElem? hv), rfl⟩) ?_ sc.nd
    cases e : laidL m g i v with
    | none =>
      refine run_if (k := true) (tc (vr 5) ed_non c_isN) (fun _ => ?_) (fun e => nomatch e)
      refine run_ret (ed_tup (ea_cons (vr 2) (ea_cons (vr 3) ea_nil)) (by simp)) ?_
      have z := clashGo_some vs 0 f0 i g v hg hv (by rw [Nat.zero_add]; exact e)
      rw [z, Nat.zero_add]
      rfl
    | some g' =>
      have z := clashGo_step vs 0 f0 i g v g' hg hv (by rw [Nat.zero_add]; exact e)
      refine run_if (k := false) (tc (vr 5) ed_non c_isN) (fun e => nomatch e) (fun _ => run_skip ?_)
      refine run_set (d := gL g') 2 (vr 5) ?_ sc.nd
      rw [z]
      exact run_eP rfl
  · rw [List.length_mapIdx, List.take_length] at hn
    rw [List.length_mapIdx, List.take_length]
    refine run_ret (ed_tup (ea_cons (vr 2) (ea_cons ed_non ea_nil)) (by simp)) ?_
    rw [hn]
    rfl
theorem fd_joined (F : FnP K "joined" s_joined f fd) (G : Gs mg) (gR : gMOST_ROW mg) (F1 : Fd P w K mg base k "need_mask" ["mask"] (spR K R_need_mask)) (F2 : Fd P w K mg base k "need_views" ["mask", "views", "most"] (spR K R_need_views)) (F3 : Fd P w K mg base k "clash_of" ["mask", "views"] (spR K R_clash_of)) : FnOk P w K mg base CX0 (k + 1) f fd ["mask", "views"] (spR K R_joined) := by
  have sc : FnScope ["mask", "views", "found", "clash"] ["mask", "views"] (defScope s_joined) := ⟨rfl, rfl, rfl, by decide +kernel, rfl, by decide +kernel, by decide +kernel⟩
  refine fd_pure F sc _ (fun ds d ⟨m, t, vs, e, _⟩ => by rw [e]; rfl) fun cdv A outer s H E hr W ds d hrow hR => ?_
  obtain ⟨m, t, vs, rfl, h1, h2, h3, h4, rfl⟩ := hR
  have := maskB_len h1
  have := maskB_pos h1
  have hsl := seenL_len m
  have hvl : ∀ v ∈ vs, v.length ≤ 4000 := fun v hv => by
    have := (lookB_iff.mp (h4 v hv)).1
    omega
  refine run_expr (ed_call F1 hr (ea_cons (vr 0) ea_nil) ⟨m, rfl, h1, rfl⟩) ?_
  refine run_expr (ed_call F2 hr (ea_cons (vr 0) (ea_cons (vr 1) (ea_cons (ed_gint gR) ea_nil))) ⟨m, t, vs, 60, rfl, by omega, h2, h3, by omega, h4, rfl⟩) ?_
  refine run_asg2 2 3 (ed_call F3 hr (ea_cons (vr 0) (ea_cons (vr 1) ea_nil)) ⟨m, t, vs, rfl, by omega, by omega, h2, by omega, hvl, rfl⟩) ?_ sc.nd
  have hl : (clashL m vs).1.length ≤ 4000 := by
    unfold clashL
    rw [clash_len, List.length_replicate]
    omega
  unfold joinO
  revert hl
  generalize clashL m vs = gc
  intro hl
  obtain ⟨g, c⟩ := gc
  replace hl : g.length ≤ 4000 := hl
  cases c with
  | none => exact run_ret (ed_if (k := true) (x := sD g) (y := .none) (tc (vr 3) ed_non c_isN) (fun _ => ed_joinC g (ed_S []) (vr 2) rfl (Nat.le_trans hl (by decide : 4000 ≤ 16777216))) (fun e => nomatch e)) rfl
  | some j => exact run_ret (ed_if (k := false) (x := sD g) (y := .none) (tc (vr 3) ed_non c_isN) (fun e => nomatch e) (fun _ => ed_non)) rfl
theorem fd_first_clash (F : FnP K "first_clash" s_first_clash f fd) (G : Gs mg) (gR : gMOST_ROW mg) (F1 : Fd P w K mg base k "need_mask" ["mask"] (spR K R_need_mask)) (F2 : Fd P w K mg base k "need_views" ["mask", "views", "most"] (spR K R_need_views)) (F3 : Fd P w K mg base k "clash_of" ["mask", "views"] (spR K R_clash_of)) : FnOk P w K mg base CX0 (k + 1) f fd ["mask", "views"] (spR K R_first_clash) := by
  have sc : FnScope ["mask", "views"] ["mask", "views"] (defScope s_first_clash) := ⟨rfl, rfl, rfl, by decide +kernel, rfl, by decide +kernel, by decide +kernel⟩
  refine fd_pure F sc _ (fun ds d ⟨m, t, vs, e, _⟩ => by rw [e]; rfl) fun cdv A outer s H E hr W ds d hrow hR => ?_
  obtain ⟨m, t, vs, rfl, h1, h2, h3, h4, rfl⟩ := hR
  have := maskB_len h1
  have := maskB_pos h1
  have hsl := seenL_len m
  have hvl : ∀ v ∈ vs, v.length ≤ 4000 := fun v hv => by
    have := (lookB_iff.mp (h4 v hv)).1
    omega
  refine run_expr (ed_call F1 hr (ea_cons (vr 0) ea_nil) ⟨m, rfl, h1, rfl⟩) ?_
  refine run_expr (ed_call F2 hr (ea_cons (vr 0) (ea_cons (vr 1) (ea_cons (ed_gint gR) ea_nil))) ⟨m, t, vs, 60, rfl, by omega, h2, h3, by omega, h4, rfl⟩) ?_
  exact run_ret (ed_ix (ed_call F3 hr (ea_cons (vr 0) (ea_cons (vr 1) ea_nil)) ⟨m, t, vs, rfl, by omega, by omega, h2, by omega, hvl, rfl⟩) ed_int (i_tup (n := 1) rfl)) rfl
theorem fd_orders_of (F : FnP K "orders_of" s_orders_of f fd) (G : Gs mg) (gO : gOPENm mg) (F1 : Fd P w K mg base k "laid" ["mask", "found", "place", "view"] (spR K R_laid)) : FnOk P w K mg base CX0 (k + 1) f fd ["mask", "views"] (spR K R_orders_of) := by
  have sc : FnScope ["mask", "views", "level", "place", "later", "told", "lots", "rest", "at", "view", "some"] ["mask", "views"] (defScope s_orders_of) := ⟨rfl, rfl, rfl, by decide +kernel, rfl, by decide +kernel, by decide +kernel⟩
  refine fd_pure F sc _ (fun ds d ⟨m, t, vs, e, _⟩ => by rw [e]; rfl) fun cdv A outer s H E hr W ds d hrow hR => ?_
  obtain ⟨m, t, vs, rfl, hm, h1, h7, hv, rfl⟩ := hR
  have hu := hr.units
  have hml := maskB_len hm
  have hm1 := maskB_pos hm
  have hvl : ∀ v ∈ vs, v.length ≤ 12 := fun v hv' => by
    have h := (lookB_iff.mp (hv v hv')).1
    have := seenL_len m
    omega
  obtain ⟨f0, hf0⟩ : ∃ f0, f0 = List.replicate (m.length + vs.length - 1) 63 := ⟨_, rfl⟩
  have hfl : f0.length = m.length + vs.length - 1 := by rw [hf0, List.length_replicate]
  refine run_newLv (g := f0) (r := sortW vs) 2 ?hu ?hrow0 ?hkey0 ?hrest ?hN
  case hu => exact hu
  case hN => exact sc.nd
  case hrow0 =>
    intro μ
    refine ed_joinC f0 (ed_S []) ?hlst rfl (by omega)
    case hlst =>
      refine Ed.to (ed_op (ed_lst (ea_cons (ed_gS [63] gO) ea_nil) (by simp)) (ed_op (ed_op (lenS G (vr 0)) (lenSq G (vr 1)) o_add) ed_int o_sub) (o_rep (by simp; omega) (by simp; omega))) ?_
      rw [List.length_map]
      exact rep_sg hf0 (by omega)
  case hkey0 =>
    intro μ
    exact ed_callT G.tuple boot_tuple (ea_cons (ed_sortSq (vr 1) (by omega) G.sorted hu) ea_nil) c_tupLk
  intro a μ' hμ
  refine run_frzLv 2 hμ ?_
  have e0 : [(f0, [sortW vs])] = lvlL m vs 0 := by rw [hf0]; rfl
  rw [e0]
  refine run_forS 3 (it_range (n := vs.length) (lenSq G (vr 1)) G.range (by rw [List.length_map]; omega) (by rw [List.length_map]; omega)) (fun i => [.d (sD m), .d (seqD t (vs.map sD)), .d (lvD (lvlL m vs i)), .no, .no, .no, .no, .no, .no, .no, .no]) (fun _ => []) (fun W1 lw i x hx => ?_) ?_ sc.nd
  · have hi : i < vs.length := by
      have := (List.getElem?_eq_some_iff.mp hx).1
      simpa using this
    obtain rfl : x = i := by
      rw [List.getElem?_range hi] at hx
      exact (Option.some.inj hx).symm
    refine run_newD 4 (fun a => ?_) sc.nd
    refine run_for2M 5 6 (it_lvl (vr 2)) (fun j => [.d (sD m), .d (seqD t (vs.map sD)), .d (lvD (lvlL m vs x)), .d (nn x), .r a, .no, .no, .no, .no, .no, .no]) (fun j => LaterIs a (((lvlL m vs x).take j).foldl (toldL m x) [])) ⟨[], rfl, rfl⟩ (fun W2 lw2 j q hq μ2 hμ2 => ?_) (fun μ2 hμ2 => ?_) sc.nd
    · have hqm := List.mem_of_getElem? hq
      obtain ⟨hql, hqr⟩ := lvl_told q hqm
      refine run_forM 7 (it_lots (vr 6)) (fun j' => [.d (sD m), .d (seqD t (vs.map sD)), .d (lvD (lvlL m vs x)), .d (nn x), .r a, .d (sD q.1), .d (tkD (setT q.2)), .no, .no, .no, .no]) (fun j' => LaterIs a ((q.2.take j').foldl (restL m x q.1) (((lvlL m vs x).take j).foldl (toldL m x) []))) hμ2 (fun W3 lw3 j' rest hrest μ3 hμ3 => ?_) (fun μ3 hμ3 => ?_) sc.nd
      · obtain ⟨hrl, hrv⟩ := hqr rest (List.mem_of_getElem? hrest)
        have hpart := part_ok (m := m) h7 hi hq hrest
        obtain ⟨L1, hL1⟩ : ∃ L1, L1 = (q.2.take j').foldl (restL m x q.1) (((lvlL m vs x).take j).foldl (toldL m x) []) := ⟨_, rfl⟩
        rw [fold_succ hrest]
        rw [← hL1] at hμ3 hpart ⊢
        refine run_for2M (e1 := fun q : Nat × List Nat => nn q.1) (e2 := fun q : Nat × List Nat => sD q.2) 8 9 (it_enumN (xs := rest) (enc := sD) (ed_kt (vr 7)) G.enumerate rfl) (fun k' => [.d (sD m), .d (seqD t (vs.map sD)), .d (lvD (lvlL m vs x)), .d (nn x), .r a, .d (sD q.1), .d (tkD (setT q.2)), .d (ktD (rest.map sD)), .no, .no, .no]) (fun k' => LaterIs a (((List.range rest.length).take k').foldl (stepL m x q.1 rest) L1)) hμ3 (fun W4 lw4 k' z hz μ4 hμ4 => ?_) (fun μ4 hμ4 => ?_) sc.nd
        · rw [List.getElem?_mapIdx] at hz
          obtain ⟨v, hvz, rfl⟩ := Option.map_eq_some_iff.mp hz
          have hk : k' < rest.length := (List.getElem?_eq_some_iff.mp hvz).1
          have hkr : (List.range rest.length)[k']? = some k' := List.getElem?_range hk
          have hvv := hrv v (List.mem_of_getElem? hvz)
          have hv12 := hvl v hvv
          have hgv : rest.getD k' [] = v := by rw [List.getD_eq_getElem?_getD, hvz]; rfl
          have hok := hpart k'
          rw [fold_succ hkr]
          obtain ⟨L2, hL2⟩ : ∃ L2, L2 = ((List.range rest.length).take k').foldl (stepL m x q.1 rest) L1 := ⟨_, rfl⟩
          rw [← hL2] at hμ4 hok ⊢
          refine run_set (d := optL (laidL m q.1 x v)) 10 ?hcall ?_ sc.nd
          case hcall =>
            refine ed_call F1 hr ?hargs ⟨m, q.1, v, x, rfl, by omega, by omega, by omega, by omega, rfl⟩
            case hargs =>
              refine ea_cons (vr 0) (ea_cons ?_ (ea_cons (vr 3) (ea_cons (vr 9) ea_nil)))
              exact ed_callT G.list boot_list (ea_cons (vr 5) ea_nil) (c_listS (by omega))
          rw [stepL_eq hgv]
          have hgl : ∀ g, laidL m q.1 x v = some g → g.length ≤ 100 := fun g hg => by
            have := laid_len hg
            omega
          revert hgl
          generalize laidL m q.1 x v = lo
          intro hgl
          cases lo with
          | none =>
            refine run_if (k := false) ?hif0 (fun e => nomatch e) (fun _ => run_skip ?_)
            case hif0 => exact t_and (k := false) (l := false) (tc (vr 10) ed_non c_notN) (fun e => nomatch e)
            exact run_eM hμ4
          | some g =>
            have hgl := hgl g rfl
            refine run_if (k := decide (k' = 0 ∨ rest.getD (k' - 1) [] ≠ v)) ?hif1 (fun e => ?_) (fun e => run_skip ?_)
            case hif1 =>
              refine t_and (k := true) (l := decide (k' = 0 ∨ rest.getD (k' - 1) [] ≠ v)) (tc (vr 10) ed_non c_notN) (fun _ => ?_)
              refine EdT.to (t_or (k := decide ((k' : Int) = 0)) (l := !decide (rest.getD (k' - 1) [] = v)) (tc (vr 8) ed_int c_eqI) (fun e => ?_)) ?_
              · have e := of_decide_eq_false e
                have hk1 : k' - 1 < rest.length := by omega
                refine tc (ed_ix (ed_kt (vr 7)) (ed_op (vr 8) ed_int o_sub) (i_tup (n := k' - 1) (d := sD (rest.getD (k' - 1) [])) ?_ (by omega))) (vr 9) c_neS
                rw [List.getElem?_map, List.getD_eq_getElem?_getD, List.getElem?_eq_getElem hk1]
                rfl
              · by_cases hk0 : k' = 0
                · subst hk0
                  simp
                · have : ¬ (k' : Int) = 0 := by omega
                  simp [hk0, this]
            · have e1 : stepO rest v k' L2 (some g) = addL L2 g (rest.take k' ++ rest.drop (k' + 1)) := if_pos (of_decide_eq_true e)
              rw [e1]
              refine run_setdef (L := L2) (g := g) (r := rest.take k' ++ rest.drop (k' + 1)) 4 hu (fun μ => ?hrow) (fun μ => ?hkey) hok.nd ?hl1 ?hl2 hμ4 (fun μ5 hμ5 => ?hend)
              case hl1 => exact Nat.lt_of_le_of_lt hok.len (by decide)
              case hl2 => exact fun q hq => Nat.lt_of_le_of_lt (hok.in_len q hq) (by decide)
              case hend => exact run_skip (run_eM hμ5)
              case hrow => exact ed_joinC g (ed_S []) (vr 10) rfl (by omega)
              case hkey =>
                refine Ed.to (ed_op (ed_sl (vr 7) so_none (so_some (vr 8)) (s_kT k')) (ed_sl (vr 7) (so_some (ed_op (vr 8) ed_int o_add)) so_none (s_kD (k' + 1) (by omega))) (o_catK ?_)) ?_
                · simp only [List.length_take, List.length_drop, List.length_map]
                  omega
                · rw [List.map_append, List.map_take, List.map_drop]
            · have e1 : stepO rest v k' L2 (some g) = L2 := if_neg (of_decide_eq_false e)
              rw [e1]
              exact run_eM hμ4
        · rw [List.length_mapIdx, List.take_of_length_le (by simp)] at hμ4
          exact run_eM hμ4
      · rw [fold_succ hq]
        rw [List.take_length] at hμ3
        exact run_eM hμ3
    · rw [List.take_length] at hμ2
      refine run_frzLv 4 hμ2 ?_
      refine run_set (d := lvD (lvlL m vs (x + 1))) 2 (vr 4) run_e sc.nd
  · rw [List.length_range]
    exact run_ret (vr 2) rfl
theorem fd_rows_from (F : FnP K "rows_from" s_rows_from f fd) (G : Gs mg) (gR : gMOST_ROW mg) (gV : gMOST_VIEWS mg) (F1 : Fd P w K mg base k "need_mask" ["mask"] (spR K R_need_mask)) (F2 : Fd P w K mg base k "need_views" ["mask", "views", "most"] (spR K R_need_views)) (F3 : Fd P w K mg base k "orders_of" ["mask", "views"] (spR K R_orders_of)) : FnOk P w K mg base CX0 (k + 1) f fd ["mask", "views"] (spR K R_rows_from) := by
  have sc : FnScope ["mask", "views"] ["mask", "views"] (defScope s_rows_from) := ⟨rfl, rfl, rfl, by decide +kernel, rfl, by decide +kernel, by decide +kernel⟩
  refine fd_pure F sc _ (fun ds d ⟨m, t, vs, e, _⟩ => by rw [e]; rfl) fun cdv A outer s H E hr W ds d hrow hR => ?_
  obtain ⟨m, t, vs, rfl, hm, h1, h7, hv, rfl⟩ := hR
  have hu := hr.units
  have hml := maskB_len hm
  refine run_expr (ed_call F1 hr (ea_cons (vr 0) ea_nil) ⟨m, rfl, hm, rfl⟩) ?_
  refine run_expr (ed_call F2 hr (ea_cons (vr 0) (ea_cons (vr 1) (ea_cons (ed_gint gR) ea_nil))) ⟨m, t, vs, 60, rfl, by omega, h1, by omega, by omega, hv, rfl⟩) ?_
  refine run_if (k := false) (tc (lenSq G (vr 1)) (ed_gint gV) c_gt |>.to (decide_eq_false (by rw [List.length_map]; omega))) (fun q => nomatch q) (fun _ => run_skip ?_)
  have hok := lvl_ok (m := m) h7 (Nat.le_refl _)
  exact run_ret (ed_sortLv (ed_call F3 hr (ea_cons (vr 0) (ea_cons (vr 1) ea_nil)) ⟨m, t, vs, rfl, hm, h1, h7, hv, rfl⟩) hok.nd (Nat.le_trans hok.len (by decide)) G.sorted hu) rfl
theorem fd_sure_from (F : FnP K "sure_from" s_sure_from f fd) (G : Gs mg) (gO : gOPENm mg) (gR : gMOST_ROW mg) (gV : gMOST_VIEWS mg) (F1 : Fd P w K mg base k "need_mask" ["mask"] (spR K R_need_mask)) (F2 : Fd P w K mg base k "need_views" ["mask", "views", "most"] (spR K R_need_views)) (F3 : Fd P w K mg base k "orders_of" ["mask", "views"] (spR K R_orders_of)) : FnOk P w K mg base CX0 (k + 1) f fd ["mask", "views"] (spR K R_sure_from) := by
  have sc : FnScope ["mask", "views", "rows", "found", "at", "row"] ["mask", "views"] (defScope s_sure_from) := ⟨rfl, rfl, rfl, by decide +kernel, rfl, by decide +kernel, by decide +kernel⟩
  refine fd_pure F sc _ (fun ds d ⟨m, t, vs, e, _⟩ => by rw [e]; rfl) fun cdv A outer s H E hr W ds d hrow hR => ?_
  obtain ⟨m, t, vs, rfl, hm, h1, h7, hv, rfl⟩ := hR
  have hu := hr.units
  have hml := maskB_len hm
  have hm1 := maskB_pos hm
  refine run_expr (ed_call F1 hr (ea_cons (vr 0) ea_nil) ⟨m, rfl, hm, rfl⟩) ?_
  refine run_expr (ed_call F2 hr (ea_cons (vr 0) (ea_cons (vr 1) (ea_cons (ed_gint gR) ea_nil))) ⟨m, t, vs, 60, rfl, by omega, h1, by omega, by omega, hv, rfl⟩) ?_
  refine run_if (k := false) (tc (lenSq G (vr 1)) (ed_gint gV) c_gt |>.to (decide_eq_false (by rw [List.length_map]; omega))) (fun q => nomatch q) (fun _ => run_skip ?_)
  have hok := lvl_ok (m := m) h7 (Nat.le_refl _)
  refine run_set (d := wD (rowsF m vs)) 2 (ed_sortLv (ed_call F3 hr (ea_cons (vr 0) (ea_cons (vr 1) ea_nil)) ⟨m, t, vs, rfl, hm, h1, h7, hv, rfl⟩) hok.nd (Nat.le_trans hok.len (by decide)) G.sorted hu) ?_ sc.nd
  have hall := rowsF_ok hv
  have hrl := rowsF_len (m := m) h7
  obtain ⟨k0, hk0⟩ : ∃ k0, k0 = m.length + vs.length - 1 := ⟨_, rfl⟩
  have hk19 : k0 ≤ 20 := by omega
  rw [← hk0] at hall ⊢
  revert hall hrl
  generalize rowsF m vs = rs
  intro hrl hall
  have hlow : ∀ r ∈ rs, ∀ c ∈ r, c < 128 := fun r h c hc => by
    have := (hall r h).2 c hc
    omega
  refine run_if (k := (rs.map sD).isEmpty) (tc (vr 2) (ed_lst ea_nil (by simp)) (c_eqNil hu (shp_w hlow))) (fun q => ?_) (fun q => run_skip ?_)
  · have e : rs = [] := by
      cases rs with
      | nil => rfl
      | cons a l => cases q
    refine run_ret ed_non ?_
    rw [e]
    rfl
  cases rs with
  | nil => cases q
  | cons r rs =>
    have hrk := (hall r List.mem_cons_self).1
    have hget : ∀ x ∈ r :: rs, ∀ a, a < k0 → x[a]? = some (x.getD a 0) := fun x h a ha => by
      have : a < x.length := by rw [(hall x h).1]; exact ha
      rw [List.getD_eq_getElem?_getD, List.getElem?_eq_getElem this]
      rfl
    refine run_setLc 3 (lcN0 4 (it_range (n := k0) (lenS (l := r) G (ed_ix (vr 2) ed_int (i_list (n := 0) rfl)) (by omega)) G.range) (by rw [List.length_range]; omega) (fun a => sD (oneW (colL (r :: rs) a))) (fun a ha W2 lw2 s2 H2 C2 cl2 fp2 => ?hone) sc.nd) ?_ sc.nd
    case hone =>
        have ha := List.mem_range.mp ha
        refine Ed.to (ed_if (k := (r :: rs).all (fun x => decide (x.getD a 0 = r.getD a 0))) (x := sg (r.getD a 0)) (y := sD [63]) (et_val ?hal) (fun _ => ed_ix (ed_ix (vr 2) ed_int (i_list (n := 0) rfl)) (vr 4) (i_str (n := a) (by omega) (hget r List.mem_cons_self a ha))) (fun _ => ed_gS [63] gO)) ?_
        case hal =>
          refine Ed.to (ed_callB (z := .bool (((r :: rs).map fun x => decide (x.getD a 0 = r.getD a 0)).all id)) G.all boot_all (ea_cons ?hbs ea_nil) (c_all rfl)) (by rw [List.all_map]; rfl)
          case hbs =>
            refine Ed.to (lcN0 5 (it_list (xs := r :: rs) (enc := sD) (vr 2)) (by omega) (fun x => .bool (decide (x.getD a 0 = r.getD a 0))) (fun x hx W3 lw3 s3 H3 C3 cl3 fp3 => ?heq) sc.nd |>.ed sc.nd) (by show PyData.list _ = PyData.list _; rw [List.map_map]; rfl)
            case heq =>
              refine Ed.to (ed_cmp (ed_ix (vr 5) (vr 4) (i_str (n := a) (by have := (hall x hx).1; omega) (hget x hx a ha))) (ed_ix (ed_ix (vr 2) ed_int (i_list (n := 0) rfl)) (vr 4) (i_str (n := a) (by omega) (hget r List.mem_cons_self a ha))) (c_eqS (l := [x.getD a 0]) (m := [r.getD a 0]))) (by simp)
        rw [one_all]
        split <;> rfl
    refine run_ret (ed_join (ws := (List.range k0).map fun a => oneW (colL (r :: rs) a)) (ed_S []) (vr 3) (by rw [List.map_map]; rfl) ?hsz) ?_
    case hsz =>
      rw [List.map_map]
      have e : ((List.range k0).map (List.length ∘ fun a => oneW (colL (r :: rs) a))) = (List.range k0).map fun _ => 1 := List.map_congr_left fun a _ => oneW_len
      rw [e, List.map_const', List.sum_replicate_nat, List.length_range]
      omega
    · unfold sureD
      rw [if_neg (List.cons_ne_nil _ _)]
theorem fd_mend (F : FnP K "mend" s_mend f fd) (G : Gs mg) (gL : gLETTERS mg) (gM : gMOST_MENDED mg) (F1 : Fd P w K mg base k "need_mask" ["mask"] (spR K R_need_mask)) (F2 : Fd P w K mg base k "need_row_in" ["row", "letters"] (spR K R_need_row_in)) (F3 : Fd P w K mg base k "tells_by" ["row", "mask"] (spR K R_tells_by)) (F4 : Fd P w K mg base k "unlike" ["one", "other"] (spR K R_unlike)) : FnOk P w K mg base CX0 (k + 1) f fd ["row", "mask", "letters"] (spR K R_mend) := by
  have sc : FnScope ["row", "mask", "letters", "rows", "turn", "some", "letter", "found"] ["row", "mask", "letters"] (defScope s_mend) := ⟨rfl, rfl, rfl, by decide +kernel, rfl, by decide +kernel, by decide +kernel⟩
  refine fd_pure F sc _ (fun ds d ⟨l, m, n, e, _⟩ => by rw [e]; rfl) fun cdv A outer s H E hr W ds d hrow hR => ?_
  obtain ⟨l, m, n, rfl, h1, h2, h3, h4, h5, h6, rfl⟩ := hR
  have hu := hr.units
  have hl := rowB_len h3
  have hm := maskB_len h5
  have hm1 := maskB_pos h5
  have hws : ∀ i, i ≤ 8 → (words n i).length ≤ 65536 := fun i hi => words_le8 h1 h2 hi
  refine run_expr (ed_call F1 hr (ea_cons (vr 1) ea_nil) ⟨m, rfl, h5, rfl⟩) (run_expr (ed_call F2 hr (ea_cons (vr 0) (ea_cons (vr 2) ea_nil)) ⟨l, n, rfl, h1, h2, h3, h4, rfl⟩) ?_)
  refine run_if (k := false) (tc (lenS G (vr 0)) (ed_gint gM) c_gt |>.to (decide_eq_false (by omega))) (fun q => nomatch q) (fun _ => run_skip ?_)
  refine run_set (d := wD (words n 0)) 3 (ed_lst (ea_cons (ed_S []) ea_nil) (by simp [words])) ?_ sc.nd
  refine run_forS 4 (it_range (n := l.length) (lenS G (vr 0)) G.range) (fun i => [.d (sD l), .d (sD m), .d (nn n), .d (wD (words n i)), .no, .no, .no, .no]) (fun _ => []) (fun W1 lw i x hx => ?_) ?_ sc.nd
  · have hi : i < l.length := by
      have := (List.getElem?_eq_some_iff.mp hx).1
      simpa using this
    have hfl : ((words n i).flatMap fun v => (letL n).map fun c => sD (v ++ [c])) = (words n (i + 1)).map sD := by
      rw [words, List.map_flatMap]
      congr 1
      funext v
      rw [List.map_map]
      rfl
    have hw1 := hws (i + 1) (by omega)
    have hw0 := hws i (by omega)
    refine run_setLc2 3 5 6 (it_list (xs := words n i) (enc := sD) (vr 3)) (fun _ => letL n) (fun v c => sD (v ++ [c])) (by rw [hfl, List.length_map]; omega) (fun v hv W2 lw2 s2 H2 C2 cl2 fp2 => it_str (cs := letL n) (ed_sl (ed_gS [97, 98, 99, 100] gL) so_none (so_some (vr 2)) (s_strT n (by decide)))) (fun v hv c hc W2 lw2 s2 H2 C2 cl2 fp2 => ed_op (vr 5) (vr 6) (o_adds (m := [c]) (by have := (mem_words_iff h2 hv).1; simp; omega))) ?_ sc.nd
    rw [hfl]
    exact run_e
  · rw [List.length_range]
    have hw0 := hws l.length (by omega)
    refine run_setLc 7 (lcN1 5 (it_list (xs := words n l.length) (enc := sD) (vr 3)) (by omega) (fun v => tellsB v m) (fun v => prD (unlikeN l v, v)) (fun v hv W2 lw2 s2 H2 C2 cl2 fp2 => et_val (ed_call F3 hr (ea_cons (vr 5) (ea_cons (vr 1) ea_nil)) ⟨v, m, rfl, by have := (mem_words_iff h2 hv).1; omega, by omega, by omega, rfl⟩)) (fun v hv hc W2 lw2 s2 H2 C2 cl2 fp2 => ed_tup (ea_cons (ed_call F4 hr (ea_cons (vr 0) (ea_cons (vr 5) ea_nil)) ⟨l, v, rfl, by omega, by have := (mem_words_iff h2 hv).1; omega, rfl⟩) (ea_cons (vr 5) ea_nil)) (by simp)) sc.nd) ?_ sc.nd
    have e : ((words n l.length).filter fun v => tellsB v m).map (fun v => prD (unlikeN l v, v)) = (mendL l m n).map prD := by
      unfold mendL
      rw [List.map_map]
      rfl
    rw [e]
    have hsh : Shp 1 (.list ((mendL l m n).map prD)) ∨ True := .inr trivial
    have low : ∀ q ∈ mendL l m n, ∀ c ∈ q.2, c < 128 := fun q hq c hc => by
      unfold mendL at hq
      obtain ⟨v, hv, rfl⟩ := List.mem_map.mp hq
      exact low_128 h2 (mem_words_iff h2 (List.mem_filter.mp hv).1).2 c hc
    have hsh : Shp 2 (.list ((mendL l m n).map prD)) := Shp.list fun x hx => by
      obtain ⟨q, hq, rfl⟩ := List.mem_map.mp hx
      exact Shp.tup fun y hy => by
        rcases List.mem_cons.mp hy with e | hy
        · rw [e]; exact Shp.int
        · rw [List.mem_singleton.mp hy]; exact Shp.str (low q hq)
    refine run_ret (ed_if (x := mendO (mendL l m n)) (y := .none) (k := !((mendL l m n).map prD).isEmpty) (tc (vr 7) (ed_lst ea_nil (by simp)) (c_neNil hu hsh)) (fun q => ?_) (fun q => ed_non)) ?_
    · cases em : mendL l m n with
      | nil => rw [em] at q; cases q
      | cons a t => exact ed_callB G.min boot_min (ea_cons (vr 7) ea_nil) (c_minP rfl hu)
    · cases em : mendL l m n with
      | nil => rfl
      | cons a t => rfl
theorem fd_weak_letters (F : FnP K "weak_letters" s_weak_letters f fd) (G : Gs mg) (gL : gLETTERS mg) (F1 : Fd P w K mg base k "need_mask" ["mask"] (spR K R_need_mask)) (F2 : Fd P w K mg base k "need_row_in" ["row", "letters"] (spR K R_need_row_in)) (F3 : Fd P w K mg base k "tells_by" ["row", "mask"] (spR K R_tells_by)) : FnOk P w K mg base CX0 (k + 1) f fd ["row", "mask", "letters"] (spR K R_weak) := by
  have sc : FnScope ["row", "mask", "letters", "found", "at", "sign", "some", "letter"] ["row", "mask", "letters"] (defScope s_weak_letters) := ⟨rfl, rfl, rfl, by decide +kernel, rfl, by decide +kernel, by decide +kernel⟩
  refine fd_pure F sc _ (fun ds d ⟨l, m, n, e, _⟩ => by rw [e]; rfl) fun cdv A outer s H E hr W ds d hrow hR => ?_
  obtain ⟨l, m, n, rfl, h1, h2, h3, h4, h5, rfl⟩ := hR
  have hl := rowB_len h3
  have hm := maskB_len h5
  have hm1 := maskB_pos h5
  refine run_expr (ed_call F1 hr (ea_cons (vr 1) ea_nil) ⟨m, rfl, h5, rfl⟩) (run_expr (ed_call F2 hr (ea_cons (vr 0) (ea_cons (vr 2) ea_nil)) ⟨l, n, rfl, h1, h2, h3, h4, rfl⟩) (run_newL 3 (fun a => ?_) sc.nd))
  refine run_for2 4 5 (it_enum (xs := l) (enc := sg) (vr 0) G.enumerate rfl) (fun i Γ μ => Γ = [.d (sD l), .d (sD m), .d (nn n), .r a, .no, .no, .no, .no] ∧ μ = [(a, .lst ((List.range i).flatMap (weakAt l m n)))]) ⟨rfl, rfl⟩ (fun W1 lw i x Γ' μ' hx ⟨e1, e2⟩ => ?_) (fun Γ' μ' ⟨e1, e2⟩ => ?_) sc.nd
  · subst e1
    subst e2
    rw [mapIdx_range, List.getElem?_map] at hx
    obtain ⟨i', hi', rfl⟩ := Option.map_eq_some_iff.mp hx
    have hil : i < l.length := by
      have := (List.getElem?_eq_some_iff.mp hi').1
      simpa using this
    rw [List.getElem?_range hil] at hi'
    cases hi'
    refine run_setLc 6 (lcN1 7 (it_str (cs := letL n) (ed_sl (ed_gS [97, 98, 99, 100] gL) so_none (so_some (vr 2)) (s_strT n (by decide)))) (by rw [letL_len h2]; omega) (fun c => decide (c ≠ l.getD i 0)) sg (fun c hc W2 lw2 s2 H2 C2 cl2 fp2 => tc (vr 7) (vr 5) (c_neS (l := [c]) (m := [l.getD i 0])) |>.to (by simp)) (fun c hc hcc W2 lw2 s2 H2 C2 cl2 fp2 => vr 7) sc.nd) ?_ sc.nd
    have hfl : ((letL n).filter fun c => decide (c ≠ l.getD i 0)).length ≤ 4 := Nat.le_trans (List.length_filter_le ..) (by rw [letL_len h2]; omega)
    have hacc : ((List.range i).flatMap (weakAt l m n)).length ≤ 240 := by
      have := flat_len (weakAt l m n) 4 (List.range i) (fun x _ => weakAt_len l m h2 x)
      rw [List.length_range] at this
      omega
    have hw := weakAt_len l m h2 i
    refine run_ext (ys := (List.range i).flatMap (weakAt l m n)) (zs := weakAt l m n i) 3 0 (lcN1 7 (it_list (enc := sg) (xs := (letL n).filter fun c => decide (c ≠ l.getD i 0)) (vr 6)) (by omega) (fun c => tellsB (chgL l i c) m) (fun c => pr2 (nn i) (sg c)) (fun c hc W2 lw2 s2 H2 C2 cl2 fp2 => et_val (ed_call F3 hr (ea_cons (ed_op (ed_op (ed_sl (vr 0) so_none (so_some (vr 4)) (s_strT i (by omega))) (vr 7) (o_adds (m := [c]) (by simp; omega))) (ed_sl (vr 0) (so_some (ed_op (vr 4) ed_int o_add)) so_none (s_strD (i + 1) (by omega))) (o_adds (by simp; omega))) (ea_cons (vr 1) ea_nil)) ⟨chgL l i c, m, rfl, by rw [chgL_len l i c hil]; omega, by omega, by omega, rfl⟩)) (fun c hc hcc W2 lw2 s2 H2 C2 cl2 fp2 => ed_tup (ea_cons (vr 4) (ea_cons (vr 7) ea_nil)) (by simp)) sc.nd |>.ed sc.nd) (by omega) ?_
    refine run_go [.d (sD l), .d (sD m), .d (nn n), .r a, .no, .no, .no, .no] ⟨.inr rfl, .inr rfl, .inr rfl, .inr rfl, .inl rfl, .inl rfl, .inl rfl, .inr rfl, trivial⟩ ?_
    refine ⟨rfl, ?_⟩
    show [(a, MO.lst ((List.range i).flatMap (weakAt l m n) ++ weakAt l m n i))] = _
    rw [List.range_succ, List.flatMap_append]
    simp
  · subst e1
    subst e2
    refine run_retL 3 (hl := by simp) ?_
    show PyData.list _ = PyData.list _
    unfold weakL
    simp
theorem ft_init {C : Addr} (F : FunD K "__init__" "Tracker.__init__" (defArgs mm_Tracker___init__) (defBody mm_Tracker___init__) (defScope mm_Tracker___init__) [] [] f fd) (G : Gs mg) (c : Cls K C) (n1 : NoAttr K C "line") (n2 : NoAttr K C "shape") (n3 : NoAttr K C "told") (n4 : NoAttr K C "stood") (F1 : Fd P w K mg base k "need_row" ["row"] (spR K R_need_row)) (F2 : Fd P w K mg base k "need_mask" ["mask"] (spR K R_need_mask)) : FnOk P w K mg base CX0 (k + 1) f fd ["self", "row", "mask"] (spT K C pre_init post_init) := by
  have sc : FnScope ["self", "row", "mask"] ["self", "row", "mask"] (defScope mm_Tracker___init__) := ⟨rfl, rfl, rfl, by decide +kernel, rfl, by decide +kernel, by decide +kernel⟩
  refine fd_meth F sc C _ _ (fun fs ds ⟨_, _, _, e, _⟩ => by rw [e]; rfl) fun cdv A outer s H E hr W a fs ds hrow hp => ?_
  obtain ⟨rfl, l, m, rfl, hl, hm⟩ := hp
  have h1 := rowB_len hl
  have h2 := maskB_len hm
  have h3 := maskB_pos hm
  have hvl := viewsL_len l m
  refine run_expr (ed_call F1 hr (ea_cons (vr 1) ea_nil) ⟨l, rfl, hl, rfl⟩) (run_expr (ed_call F2 hr (ea_cons (vr 2) ea_nil) ⟨m, rfl, hm, rfl⟩) ?_)
  refine run_fset (hj := rfl) (d := sD l) 0 0 c n1 (vr 1) (by simp) ?_
  refine run_fset (hj := rfl) (d := sD m) 0 0 c n2 (vr 2) (of_decide_eq_true rfl) ?_
  refine run_fset (hj := rfl) (d := .tuple []) 0 0 c n3 (ed_tup ea_nil (by simp)) (of_decide_eq_true rfl) ?_
  refine run_fset (hj := rfl) (d := .tuple (stoodL (viewsL l m) [])) 0 0 c n4 ?hst (of_decide_eq_true rfl) ?_
  case hst =>
    rw [stood_nil, hvl]
    refine ed_tup (ea_cons ?_ ea_nil) (by simp)
    refine ed_listRange (N := l.length + 1 - m.length) ?_ G.range G.list (by omega)
    refine Ed.to (ed_callB G.max boot_max (ea_cons ed_int (ea_cons (ed_op (ed_op (lenS G (vr 1)) (lenS G (vr 2)) o_sub) ed_int o_add) ea_nil)) (c_max2 rfl)) ?_
    refine congrArg PyData.int ?_
    split <;> omega
  exact run_endT 0 ⟨l, m, rfl, rfl, rfl⟩
theorem ft_starts {C : Addr} (F : FunD K "starts" "Tracker.starts" (defArgs mm_Tracker_starts) (defBody mm_Tracker_starts) (defScope mm_Tracker_starts) [] [] f fd) (G : Gs mg) (c : Cls K C) (n4 : NoAttr K C "stood") : FnOk P w K mg base CX0 (k + 1) f fd ["self"] (spT K C pre_t0 (post_t0 g_starts)) := by
  have sc : FnScope ["self"] ["self"] (defScope mm_Tracker_starts) := ⟨rfl, rfl, rfl, by decide +kernel, rfl, by decide +kernel, by decide +kernel⟩
  refine fd_meth F sc C _ _ (fun fs ds ⟨_, _, _, _, _, e⟩ => by rw [e]; rfl) fun cdv A outer s H E hr W a fs ds hrow hp => ?_
  obtain ⟨l, m, ts, rfl, ok, rfl⟩ := hp
  have hvl := viewsL_len l m
  have h1 := rowB_len ok.row
  have h3 := maskB_pos ok.mask
  refine run_retT (d := nD (startL (viewsL l m) ts)) 0 ?_ ⟨l, m, ts, rfl, rfl, rfl⟩
  exact ed_callT G.list boot_list (ea_cons (ed_ix (z := nD (startL (viewsL l m) ts)) (ed_fld 0 0 c n4 rfl) (ed_neg ed_int) (i_tupL (stood_last _ _))) ea_nil) c_listL
theorem ft_places {C : Addr} (F : FunD K "places" "Tracker.places" (defArgs mm_Tracker_places) (defBody mm_Tracker_places) (defScope mm_Tracker_places) [] [] f fd) (G : Gs mg) (c : Cls K C) (n3 : NoAttr K C "told") (n4 : NoAttr K C "stood") : FnOk P w K mg base CX0 (k + 1) f fd ["self"] (spT K C pre_t0 (post_t0 g_places)) := by
  have sc : FnScope ["self", "place"] ["self"] (defScope mm_Tracker_places) := ⟨rfl, rfl, rfl, by decide +kernel, rfl, by decide +kernel, by decide +kernel⟩
  refine fd_meth F sc C _ _ (fun fs ds ⟨_, _, _, _, _, e⟩ => by rw [e]; rfl) fun cdv A outer s H E hr W a fs ds hrow hp => ?_
  obtain ⟨l, m, ts, rfl, ok, rfl⟩ := hp
  have hvl := viewsL_len l m
  have h1 := rowB_len ok.row
  have h3 := maskB_pos ok.mask
  have hsl := start_len (viewsL l m) ts
  refine run_retT (d := nD ((startL (viewsL l m) ts).map fun p => p + (ts.length - 1))) 0 ?_ ⟨l, m, ts, rfl, rfl, rfl⟩
  refine Ed.to (LcEv.ed (lcN0 1 (it_list (xs := startL (viewsL l m) ts) (enc := nn) (ed_ix (z := nD (startL (viewsL l m) ts)) (ed_fld 0 0 c n4 rfl) (ed_neg ed_int) (i_tupL (stood_last _ _)))) (by omega) (fun p => nn (p + (ts.length - 1))) (fun p hp W1 lw s H C2 cl fp => ?_) sc.nd) sc.nd) ?_
  · refine Ed.to (ed_op (y := nn (ts.length - 1)) (vr 1) (Ed.to (ed_callB G.max boot_max (ea_cons ed_int (ea_cons (ed_op (lenT G (ed_fld (d := .tuple (ts.map sD)) 0 0 c n3 rfl)) ed_int o_sub) ea_nil)) (c_max2 rfl)) ?_) o_add) rfl
    rw [List.length_map]
    refine congrArg PyData.int ?_
    split <;> omega
  · show PyData.list _ = PyData.list _
    rw [List.map_map]
    rfl
theorem ft_see {C : Addr} (F : FunD K "see" "Tracker.see" (defArgs mm_Tracker_see) (defBody mm_Tracker_see) (defScope mm_Tracker_see) [] [] f fd) (G : Gs mg) (c : Cls K C) (n1 : NoAttr K C "line") (n2 : NoAttr K C "shape") (n3 : NoAttr K C "told") (n4 : NoAttr K C "stood") (F1 : Fd P w K mg base k "is_view" ["mask", "value"] (spR K R_is_view)) (F2 : Fd P w K mg base k "views_of" ["row", "mask"] (spR K R_views_of)) (F3 : Fd P w K mg base k "misses" ["view", "told"] (spR K R_misses)) : FnOk P w K mg base CX0 (k + 1) f fd ["self", "view"] (spT K C pre_see post_see) := by
  have sc : FnScope ["self", "view", "every", "far", "rest", "place", "some"] ["self", "view"] (defScope mm_Tracker_see) := ⟨rfl, rfl, rfl, by decide +kernel, rfl, by decide +kernel, by decide +kernel⟩
  refine fd_meth F sc C _ _ (fun fs ds ⟨_, _, _, _, _, _, e, _⟩ => by rw [e]; rfl) fun cdv A outer s H E hr W a fs ds hrow hp => ?_
  obtain ⟨l, m, ts, v, rfl, ok, rfl, hv⟩ := hp
  have hvl := viewsL_len l m
  have h1 := rowB_len ok.row
  have h2 := maskB_len ok.mask
  have h3 := maskB_pos ok.mask
  have h4 := ok.few
  have hvv := views_small l m
  have hvn := (lookB_iff.mp hv).1
  have hsn := seenL_len m
  have hsl := start_len (viewsL l m) ts
  refine run_if (k := false) (t_not (k := true) (et_val (ed_call F1 hr (ea_cons (ed_fld (d := sD m) 0 0 c n2 rfl) (ea_cons (vr 1) ea_nil)) ⟨m, v, rfl, by omega, hv, rfl⟩))) (fun q => nomatch q) (fun _ => run_skip ?_)
  obtain ⟨ws, ews⟩ : ∃ ws, ws = viewsL l m := ⟨_, rfl⟩
  refine run_asg2 (x := wD ws) (y := nn ts.length) 2 3 ?hpar ?_ sc.nd
  case hpar =>
    refine ed_tup (ea_cons ?_ (ea_cons ?_ ea_nil)) (by simp)
    · exact Ed.to (ed_call F2 hr (ea_cons (ed_fld (d := sD l) 0 0 c n1 rfl) (ea_cons (ed_fld (d := sD m) 0 0 c n2 rfl) ea_nil)) ⟨l, m, rfl, by omega, h3, by omega, rfl⟩) (by rw [ews])
    · exact Ed.to (lenT G (ed_fld (d := .tuple (ts.map sD)) 0 0 c n3 rfl)) (by rw [List.length_map])
  rw [← ews] at hvl hsl hvv
  refine run_setLcP 4 (lcN1 5 (it_list (xs := startL ws ts) (enc := nn) (ed_ix (z := nD (startL ws ts)) (ed_fld (hj := rfl) (d := .tuple (stoodL ws ts)) 0 0 c n4 (by rw [ews]; rfl)) (ed_neg ed_int) (i_tupL (stood_last _ _)))) (by omega) (fun p => decide (p + ts.length < ws.length)) nn (fun p hp W1 lw s H C2 cl fp => ?_) (fun p hp hc W1 lw s H C2 cl fp => vr 5) sc.nd) (fun ys ey => ?_) sc.nd
  · exact EdT.to (tc (ed_op (vr 5) (vr 3) o_add) (lenLw G (vr 2)) c_lt) (decide_eq_decide.mpr (by omega))
  subst ey
  obtain ⟨rs, ers⟩ : ∃ rs, rs = (startL ws ts).filter fun p => decide (p + ts.length < ws.length) := ⟨_, rfl⟩
  rw [← ers]
  have hrl : rs.length ≤ (startL ws ts).length := by rw [ers]; exact List.length_filter_le _ _
  have hrm : ∀ p ∈ rs, p + ts.length < ws.length := fun p hp => by
    rw [ers] at hp
    exact of_decide_eq_true (List.mem_filter.mp hp).2
  refine run_setLcP 6 (lcN1 5 (it_list (xs := rs) (enc := nn) (vr 4)) (by omega) (fun p => decide (missN (ws.getD (p + ts.length) []) v = 0)) nn (fun p hp W1 lw s H C2 cl fp => ?_) (fun p hp hc W1 lw s H C2 cl fp => vr 5) sc.nd) (fun ys ey => ?_) sc.nd
  · have hpl := hrm p hp
    have g : ws[p + ts.length]? = some (ws.getD (p + ts.length) []) := by rw [List.getD_eq_getElem?_getD, List.getElem?_eq_getElem hpl]; rfl
    have hb := hvv _ (List.mem_of_getElem? g)
    exact EdT.to (tc (ed_call F3 hr (ea_cons (ed_ix (z := sD (ws.getD (p + ts.length) [])) (vr 2) (ed_op (vr 5) (vr 3) o_add) (i_list (n := p + ts.length) (by rw [List.getElem?_map, g]; rfl) rfl)) (ea_cons (vr 1) ea_nil)) ⟨_, v, rfl, by omega, by omega, rfl⟩) ed_int c_eqI) (decide_eq_decide.mpr (by omega))
  subst ey
  have ess : rs.filter (fun p => decide (missN (ws.getD (p + ts.length) []) v = 0)) = startL ws (ts ++ [v]) := by rw [start_snoc, ers]
  rw [ess]
  refine run_fset (hj := rfl) (d := .tuple (stoodL ws (ts ++ [v]))) 0 0 c n4 ?hst (by simp [trk]) ?_
  case hst =>
    refine Ed.to (ed_op (ed_fld (hj := rfl) (d := .tuple (stoodL ws ts)) 0 0 c n4 (by rw [ews]; rfl)) (ed_tup (ea_cons (vr 6) ea_nil) (by simp)) (o_catT ?_)) ?_
    · rw [stood_len]
      simp
      omega
    · rw [stood_snoc]
  refine run_fset (hj := rfl) (d := .tuple ((ts ++ [v]).map sD)) 0 0 c n3 ?htd (of_decide_eq_true rfl) ?_
  case htd =>
    refine Ed.to (ed_op (ed_fld (d := .tuple (ts.map sD)) 0 0 c n3 rfl) (ed_tup (ea_cons (vr 1) ea_nil) (by simp)) (o_catT ?_)) ?_
    · rw [List.length_map]
      simp
      omega
    · rw [List.map_append]
      rfl
  refine run_retT (d := nn (startL ws (ts ++ [v])).length) (fs := trk l m (ts ++ [v])) 0 (Ed.to (lenL G (vr 6)) (by rw [List.length_map])) ⟨l, m, ts, v, rfl, rfl, rfl, by rw [ews]⟩ (by rw [ews]; rfl)
theorem ft_undo {C : Addr} (F : FunD K "undo" "Tracker.undo" (defArgs mm_Tracker_undo) (defBody mm_Tracker_undo) (defScope mm_Tracker_undo) [] [] f fd) (G : Gs mg) (c : Cls K C) (n3 : NoAttr K C "told") (n4 : NoAttr K C "stood") : FnOk P w K mg base CX0 (k + 1) f fd ["self"] (spT K C pre_t0 post_undo) := by
  have sc : FnScope ["self"] ["self"] (defScope mm_Tracker_undo) := ⟨rfl, rfl, rfl, by decide +kernel, rfl, by decide +kernel, by decide +kernel⟩
  refine fd_meth F sc C _ _ (fun fs ds ⟨_, _, _, _, _, e⟩ => by rw [e]; rfl) fun cdv A outer s H E hr W a fs ds hrow hp => ?_
  obtain ⟨l, m, ts, rfl, ok, rfl⟩ := hp
  have hvl := viewsL_len l m
  have h1 := rowB_len ok.row
  have h3 := maskB_pos ok.mask
  have hu := hr.units
  have sh : Shp 1 (.tuple (ts.map sD)) := Shp.tup fun y hy => by
    obtain ⟨v, hv, rfl⟩ := List.mem_map.mp hy
    refine Shp.str fun c hc => ?_
    have := (lookB_iff.mp (ok.looks v hv)).2 c hc
    omega
  refine run_if (k := ts.isEmpty) (EdT.to (tc (ed_fld (d := .tuple (ts.map sD)) 0 0 c n3 rfl) (ed_tup ea_nil (by simp)) (c_eqNilT hu sh)) (by cases ts <;> rfl)) (fun e => ?_) (fun e => run_skip ?_)
  · have e := List.isEmpty_iff.mp e
    subst e
    exact run_retT 0 ed_bl ⟨l, m, [], rfl, rfl, rfl⟩
  · have hne : ts ≠ [] := fun z => by rw [z] at e; cases e
    have hlen := List.length_pos_iff.mpr hne
    refine run_fset (hj := rfl) (d := .tuple (stoodL (viewsL l m) ts.dropLast)) 0 0 c n4 (Ed.to (ed_sl (ed_fld (d := .tuple (stoodL (viewsL l m) ts)) 0 0 c n4 rfl) so_none (so_some (ed_neg ed_int)) (s_tupI rfl (by rw [stood_len]; omega))) (by rw [stood_drop _ _ hne])) (by simp [trk]) ?_
    refine run_fset (hj := rfl) (d := .tuple (ts.dropLast.map sD)) 0 0 c n3 (Ed.to (ed_sl (ed_fld (d := .tuple (ts.map sD)) 0 0 c n3 rfl) so_none (so_some (ed_neg ed_int)) (s_tupI rfl (by rw [List.length_map]; omega))) (by rw [List.map_dropLast])) (of_decide_eq_true rfl) ?_
    exact run_retT (fs := trk l m ts.dropLast) 0 ed_bl ⟨l, m, ts, rfl, rfl, by rw [e]; rfl⟩ rfl
theorem ft_len {C : Addr} (F : FunD K "__len__" "Tracker.__len__" (defArgs mm_Tracker___len__) (defBody mm_Tracker___len__) (defScope mm_Tracker___len__) [] [] f fd) (G : Gs mg) (c : Cls K C) (n3 : NoAttr K C "told") : FnOk P w K mg base CX0 (k + 1) f fd ["self"] (spT K C pre_t0 (post_t0 g_len)) := by
  have sc : FnScope ["self"] ["self"] (defScope mm_Tracker___len__) := ⟨rfl, rfl, rfl, by decide +kernel, rfl, by decide +kernel, by decide +kernel⟩
  refine fd_meth F sc C _ _ (fun fs ds ⟨_, _, _, _, _, e⟩ => by rw [e]; rfl) fun cdv A outer s H E hr W a fs ds hrow hp => ?_
  obtain ⟨l, m, ts, rfl, ok, rfl⟩ := hp
  have hvl := viewsL_len l m
  have h1 := rowB_len ok.row
  have h3 := maskB_pos ok.mask
  exact run_retT (d := nn ts.length) 0 (Ed.to (lenT G (ed_fld (d := .tuple (ts.map sD)) 0 0 c n3 rfl)) (by rw [List.length_map])) ⟨l, m, ts, rfl, rfl, rfl⟩
theorem fd_law_joined24 (F : FnP K "_law_joined" s__law_joined f fd) {j : Nat} (hj : j + 1 = k) (G : Gs mg) {C : Addr} (c : Cls K C) (F_law_turned : Fd P w K mg base k "_law_turned" ["_law_line", "_law_by"] (spR K R_turned)) (Fjoined : Fd P w K mg base k "joined" ["mask", "views"] (spR K R_joined)) (Ffirst_clash : Fd P w K mg base k "first_clash" ["mask", "views"] (spR K R_first_clash)) (Frows_from : Fd P w K mg base k "rows_from" ["mask", "views"] (spR K R_rows_from)) (Fsure_from : Fd P w K mg base k "sure_from" ["mask", "views"] (spR K R_sure_from)) (Fmend : Fd P w K mg base k "mend" ["row", "mask", "letters"] (spR K R_mend)) (Fweak_letters : Fd P w K mg base k "weak_letters" ["row", "mask", "letters"] (spR K R_weak)) (FT : MkT P w K mg base k C "Tracker" ["self", "row", "mask"] (spT K C pre_init post_init)) (M1 : FdM P w K mg base k C "starts" ["self"] (spT K C pre_t0 (post_t0 g_starts))) (M2 : FdM P w K mg base k C "places" ["self"] (spT K C pre_t0 (post_t0 g_places))) (M3 : FdM P w K mg base k C "see" ["self", "view"] (spT K C pre_see post_see)) (M4 : FdM P w K mg base k C "undo" ["self"] (spT K C pre_t0 post_undo)) (M5 : FdM P w K mg base j C "__len__" ["self"] (spT K C pre_t0 (post_t0 g_len))) : FnOk P w K mg base CX0 (k + 1) f fd ["_law_by"] (spR K R_by) := by
  subst hj
  have sc : FnScope ["_law_by", "_law_some", "_law_due", "_law_tracker", "_law_view", "_law_line"] ["_law_by"] (defScope s__law_joined) := ⟨rfl, rfl, rfl, by decide +kernel, rfl, by decide +kernel, by decide +kernel⟩
  refine fd_pure F sc _ (fun ds d ⟨b, e, _⟩ => by rw [e]; rfl) fun cdv A outer s H E hr W ds d hrow hR => ?_
  obtain ⟨b, rfl, hb, rfl⟩ := hR
  have hu := hr.units
  obtain ⟨r1, r2, r3, r4, r5, r6, r7⟩ := kv_row b hb
  obtain ⟨j1, j2⟩ := kj_1 b hb
  obtain ⟨d1, d2, d3, d4⟩ := kj_3 b hb
  obtain ⟨t1, t2, t3⟩ := kt_1 b hb
  have ok0 := okt_0 hb
  have ok1 := okt_1 hb
  have ok2 := okt_2 hb
  refine run_setLc 1 (lcN0 4 (it_list (xs := [[97, 98], [98, 97], [98, 98]]) (enc := sD) (ed_lst (ea_cons (ed_S [97, 98]) (ea_cons (ed_S [98, 97]) (ea_cons (ed_S [98, 98]) ea_nil))) (by simp))) (by simp) (fun t => sD (turnW b t)) (fun t ht W2 lw2 s2 H2 C2 cl2 fp2 => ed_call F_law_turned hr (ea_cons (vr 4) (ea_cons (vr 0) ea_nil)) ⟨t, b, rfl, hb, by simp only [List.mem_cons, List.not_mem_nil, or_false] at ht; rcases ht with rfl | rfl | rfl <;> decide, rfl⟩) sc.nd) ?_ sc.nd
  have e1 : PyData.list ([[97, 98], [98, 97], [98, 98]].map fun t => sD (turnW b t)) = wD (someW b) := rfl
  rw [e1]
  have lk3 : ∀ v ∈ [turnW b [97, 98], turnW b [98, 97], turnW b [97, 98]], lookB mX v = true := fun v hv => by
    simp only [List.mem_cons, List.not_mem_nil, or_false] at hv
    rcases hv with rfl | rfl | rfl <;> assumption
  refine run_if (k := false) ?c15 (fun q => nomatch q) (fun _ => run_skip ?_)
  case c15 =>
    refine EdW.t (tw_or (k := false) (l := false) ?_ (fun _ => tw_or1 ?_))
    · refine tc (x := sD (gW b)) (y := sD (gW b)) (k := false) ?_ ?_ (c_neSame hu (shp_turn (by decide)))
      · exact Ed.to (ed_call Fjoined hr (ea_cons (ed_S [120, 46, 120]) (ea_cons (vr 1) ea_nil)) ⟨[120, 46, 120], false, someW b, rfl, by decide, by simp, by simp, d4, rfl⟩) (by unfold joinO; rw [j1])
      · exact Ed.to (ed_call F_law_turned hr (ea_cons (ed_S [97, 98, 98, 97, 98]) (ea_cons (vr 0) ea_nil)) ⟨[97, 98, 98, 97, 98], b, rfl, hb, by decide, rfl⟩) rfl
    · refine tc (x := sD [97, 63, 98, 63]) (y := sD [97, 63, 98, 63]) (k := false) ?_ ?_ (c_neSame hu (Shp.str (by decide)))
      · exact Ed.to (ed_call Fjoined hr (ea_cons (ed_S [120, 46, 120]) (ea_cons (ed_lst (ea_cons (ed_S [97, 98]) (ea_cons (ed_S [63, 63]) ea_nil)) (by simp)) ea_nil)) ⟨[120, 46, 120], false, [[97, 98], [63, 63]], rfl, by decide, by decide, by decide, by decide, rfl⟩) (by unfold joinO; rw [kj_2])
      · exact Ed.to (ed_S [97, 63, 98, 63]) rfl
  refine run_if (k := false) ?c16 (fun q => nomatch q) (fun _ => run_skip ?_)
  case c16 =>
    refine EdW.t (tw_or (k := false) (l := false) ?_ (fun _ => tw_or1 ?_))
    · exact EdT.to (tc (x := .none) (Ed.to (ed_call Fjoined hr (ea_cons (ed_S [120, 46, 120]) (ea_cons (Ed.to (y := wD [turnW b [97, 98], turnW b [98, 97], turnW b [97, 98]]) (ed_op (ed_sl (vr 1) so_none (so_some ed_int) (s_listT 2)) (ed_sl (vr 1) so_none (so_some ed_int) (s_listT 1)) (o_cat (by simp))) rfl) ea_nil)) ⟨[120, 46, 120], false, [turnW b [97, 98], turnW b [98, 97], turnW b [97, 98]], rfl, by decide, by simp, by simp, lk3, rfl⟩) (by unfold joinO; rw [j2])) ed_non c_notN) rfl
    · refine tc (x := nn 2) (y := nn 2) (k := false) ?_ ?_ (c_neSame hu (shpC rfl (by decide)))
      · exact Ed.to (ed_call Ffirst_clash hr (ea_cons (ed_S [120, 46, 120]) (ea_cons (Ed.to (y := wD [turnW b [97, 98], turnW b [98, 97], turnW b [97, 98]]) (ed_op (ed_sl (vr 1) so_none (so_some ed_int) (s_listT 2)) (ed_sl (vr 1) so_none (so_some ed_int) (s_listT 1)) (o_cat (by simp))) rfl) ea_nil)) ⟨[120, 46, 120], false, [turnW b [97, 98], turnW b [98, 97], turnW b [97, 98]], rfl, by decide, by simp, by simp, lk3, rfl⟩) (by rw [j2]; rfl)
      · exact Ed.to ed_int rfl
  refine run_set (d := wD (sortW (dueW b))) 2 (ed_sortSq (t := false) (ws := dueW b) (Ed.to (LcEv.ed (lcN0 5 (it_list (xs := [[97, 98, 98, 97, 98], [97, 98, 98, 98, 97], [98, 97, 98, 98, 97], [98, 98, 97, 98, 98]]) (enc := sD) (ed_lst (ea_cons (ed_S [97, 98, 98, 97, 98]) (ea_cons (ed_S [97, 98, 98, 98, 97]) (ea_cons (ed_S [98, 97, 98, 98, 97]) (ea_cons (ed_S [98, 98, 97, 98, 98]) ea_nil)))) (by simp))) (by simp) (fun t => sD (turnW b t)) (fun t ht W2 lw2 s2 H2 C2 cl2 fp2 => ed_call F_law_turned hr (ea_cons (vr 5) (ea_cons (vr 0) ea_nil)) ⟨t, b, rfl, hb, by simp only [List.mem_cons, List.not_mem_nil, or_false] at ht; rcases ht with rfl | rfl | rfl | rfl <;> decide, rfl⟩) sc.nd) sc.nd) rfl) (by simp) G.sorted hu) ?_ sc.nd
  refine run_if (k := false) ?c17 (fun q => nomatch q) (fun _ => run_skip ?_)
  case c17 =>
    refine EdW.t (tw_or (k := false) (l := false) ?_ (fun _ => tw_or (k := false) (l := false) ?_ (fun _ => tw_or1 ?_)))
    · refine tc (x := wD (sortW (dueW b))) (y := wD (sortW (dueW b))) (k := false) ?_ ?_ (c_neSame hu (shp_w fun v hv => by have hv := (sortW_perm _).mem_iff.mp hv; simp only [List.mem_cons, List.not_mem_nil, or_false] at hv; rcases hv with rfl | rfl | rfl | rfl <;> exact turnW_low (by decide)))
      · exact Ed.to (ed_call Frows_from hr (ea_cons (ed_S [120, 46, 120]) (ea_cons (vr 1) ea_nil)) ⟨[120, 46, 120], false, someW b, rfl, by decide, by simp, by simp, d4, rfl⟩) (by rw [rows_1 hb])
      · exact Ed.to (vr 2) rfl
    · refine tc (x := sD [63, 63, 63, 63, 63]) (y := sD [63, 63, 63, 63, 63]) (k := false) ?_ ?_ (c_neSame hu (Shp.str (by decide)))
      · exact Ed.to (ed_call Fsure_from hr (ea_cons (ed_S [120, 46, 120]) (ea_cons (vr 1) ea_nil)) ⟨[120, 46, 120], false, someW b, rfl, by decide, by simp, by simp, d4, rfl⟩) (by exact sure_1 hb)
      · exact Ed.to (ed_S [63, 63, 63, 63, 63]) rfl
    · refine tc (x := sD [97, 98, 98]) (y := sD [97, 98, 98]) (k := false) ?_ ?_ (c_neSame hu (Shp.str (by decide)))
      · exact Ed.to (ed_call Fsure_from hr (ea_cons (ed_S [120, 120]) (ea_cons (ed_lst (ea_cons (ed_S [97, 98]) (ea_cons (ed_S [98, 98]) ea_nil)) (by simp)) ea_nil)) ⟨[120, 120], false, [[97, 98], [98, 98]], rfl, by decide, by decide, by decide, by decide, rfl⟩) (by exact sure_2)
      · exact Ed.to (ed_S [97, 98, 98]) rfl
  refine run_if (k := false) ?c18 (fun q => nomatch q) (fun _ => run_skip ?_)
  case c18 =>
    refine EdW.t (tw_or (k := false) (l := false) ?_ (fun _ => tw_or1 ?_))
    · refine tc (x := .tuple [nn 1, sD [97, 98, 97, 98, 98]]) (y := .tuple [nn 1, sD [97, 98, 97, 98, 98]]) (k := false) ?_ ?_ (c_neSame hu (shp_2 (n := 0) Shp.int (Shp.str (by decide))))
      · exact Ed.to (ed_call Fmend hr (ea_cons (ed_S [97, 98, 97, 98, 97]) (ea_cons (ed_S [120, 46, 120]) (ea_cons ed_int ea_nil))) ⟨[97, 98, 97, 98, 97], [120, 46, 120], 2, rfl, by decide, by decide, by decide, lowB_of (by decide), by decide, by decide, rfl⟩) (by exact mend_some km_1.1)
      · exact Ed.to (ed_tup (ea_cons ed_int (ea_cons (ed_S [97, 98, 97, 98, 98]) ea_nil)) (by simp)) rfl
    · refine tc (x := .tuple [nn 0, sD [97, 98, 98, 97, 98]]) (y := .tuple [nn 0, sD [97, 98, 98, 97, 98]]) (k := false) ?_ ?_ (c_neSame hu (shp_2 (n := 0) Shp.int (Shp.str (by decide))))
      · exact Ed.to (ed_call Fmend hr (ea_cons (ed_S [97, 98, 98, 97, 98]) (ea_cons (ed_S [120, 46, 120]) (ea_cons ed_int ea_nil))) ⟨[97, 98, 98, 97, 98], [120, 46, 120], 2, rfl, by decide, by decide, by decide, lowB_of (by decide), by decide, by decide, rfl⟩) (by exact mend_some km_1.2.1)
      · exact Ed.to (ed_tup (ea_cons ed_int (ea_cons (ed_S [97, 98, 98, 97, 98]) ea_nil)) (by simp)) rfl
  refine run_if (k := false) ?c19 (fun q => nomatch q) (fun _ => run_skip ?_)
  case c19 =>
    refine EdW.t (tw_or (k := false) (l := false) ?_ (fun _ => tw_or1 ?_))
    · exact EdT.to (tc (x := .none) (Ed.to (ed_call Fmend hr (ea_cons (ed_S [97, 97, 97]) (ea_cons (ed_S [120]) (ea_cons ed_int ea_nil))) ⟨[97, 97, 97], [120], 2, rfl, by decide, by decide, by decide, lowB_of (by decide), by decide, by decide, rfl⟩) (by rw [km_1.2.2]; rfl)) ed_non c_notN) rfl
    · refine tc (x := .list [pr2 (nn 1) (sD [97]), pr2 (nn 2) (sD [97])]) (y := .list [pr2 (nn 1) (sD [97]), pr2 (nn 2) (sD [97])]) (k := false) ?_ ?_ (c_neSame hu (Shp.list (n := 1) fun y hy => by rcases List.mem_cons.mp hy with e | e; (rw [e]; exact shp_2 (n := 0) Shp.int (Shp.str (by decide))); (rw [List.mem_singleton.mp e]; exact shp_2 (n := 0) Shp.int (Shp.str (by decide)))))
      · exact Ed.to (ed_call Fweak_letters hr (ea_cons (ed_S [97, 98, 98, 97, 98]) (ea_cons (ed_S [120, 46, 120]) (ea_cons ed_int ea_nil))) ⟨[97, 98, 98, 97, 98], [120, 46, 120], 2, rfl, by decide, by decide, by decide, lowB_of (by decide), by decide, rfl⟩) (by rw [weak_N, km_2]; rfl)
      · exact Ed.to (ed_lst (ea_cons (ed_tup (ea_cons ed_int (ea_cons (ed_S [97]) ea_nil)) (by simp)) (ea_cons (ed_tup (ea_cons ed_int (ea_cons (ed_S [97]) ea_nil)) (by simp)) ea_nil)) (by simp)) rfl
  refine run_setM (P := fun d μ' => ∃ a, d = ptD a ∧ μ' = [(a, .ins C (trk (bW b) mX []))]) 3 ?hmk (fun d μ1 hd => ?_) sc.nd
  case hmk =>
    refine em_makeT (fs := trk (bW b) mX []) FT hr (ea_cons (ed_call F_law_turned hr (ea_cons (ed_S [97, 98, 97, 98, 97]) (ea_cons (vr 0) ea_nil)) ⟨[97, 98, 97, 98, 97], b, rfl, hb, by decide, rfl⟩) (ea_cons (ed_S [120, 46, 120]) ea_nil)) ⟨rfl, bW b, mX, rfl, r2, by decide⟩ ?_
    rintro fs' d ⟨l', m', e, rfl, rfl⟩
    have e1 := S_inj (PyData.str.inj (List.cons.inj e).1)
    have e2 := S_inj (PyData.str.inj (List.cons.inj (List.cons.inj e).2).1)
    subst e1 e2
    exact ⟨rfl, rfl⟩
  obtain ⟨a, rfl, rfl⟩ := hd
  refine run_toR 3 a ?_
  have st : ∀ ts, OkT (bW b) mX ts → pre_t0 (trk (bW b) mX ts) [] := fun ts ok => ⟨bW b, mX, ts, rfl, ok, rfl⟩
  refine run_ifF (μ1 := [(a, MO.ins C (trk (bW b) mX [v1W b]))]) (EvWM.t (wm_or (μ1 := [(a, MO.ins C (trk (bW b) mX []))]) ?s1 (wm_or (μ1 := [(a, MO.ins C (trk (bW b) mX [v1W b]))]) ?s2 (twm_or1 ?s3)))) ?_
  case s1 => exact tm_ne (x := nD [0, 1, 2]) hu (Ed.m (Ed.to (EvM.pure_ (P := post_t0 g_starts (trk (bW b) mX []) []) (j := 0) (em_meth0 (fs := trk (bW b) mX []) 3 0 M1 hr c rfl (st [] ok0)) t0_pure) (by show nD _ = _; rw [t1]))) (Ed.to (ed_lst (ea_cons ed_int (ea_cons ed_int (ea_cons ed_int ea_nil))) (by simp)) rfl) (shp_nD _)
  case s2 => exact tm_ne (x := nn 2) hu (EvM.imp (em_see (ts := []) (v := v1W b) 3 0 M3 hr c ok0 r4 (ed_call F_law_turned hr (ea_cons (ed_S [97, 97]) (ea_cons (vr 0) ea_nil)) ⟨[97, 97], b, rfl, hb, by decide, rfl⟩)) (fun d μ' ⟨e1, e2⟩ => ⟨by rw [e1, List.nil_append, t2]; rfl, e2⟩)) (Ed.to ed_int rfl) Shp.int
  case s3 => exact tm_ne (x := nD [0, 2]) hu (Ed.m (Ed.to (EvM.pure_ (P := post_t0 g_starts (trk (bW b) mX [v1W b]) []) (j := 0) (em_meth0 (fs := trk (bW b) mX [v1W b]) 3 0 M1 hr c rfl (st [v1W b] ok1)) t0_pure) (by show nD _ = _; rw [t2]))) (Ed.to (ed_lst (ea_cons ed_int (ea_cons ed_int ea_nil)) (by simp)) rfl) (shp_nD _)
  refine run_ifF (μ1 := [(a, MO.ins C (trk (bW b) mX [v1W b]))]) (EvWM.t (wm_or (μ1 := [(a, MO.ins C (trk (bW b) mX [v1W b, v2W b]))]) ?u1 (wm_or (μ1 := [(a, MO.ins C (trk (bW b) mX [v1W b, v2W b]))]) ?u2 (twm_or1 ?u3)))) ?_
  case u1 => exact tm_ne (x := nn 1) hu (EvM.imp (em_see (ts := [v1W b]) (v := v2W b) 3 0 M3 hr c ok1 r3 (ed_call F_law_turned hr (ea_cons (ed_S [98, 63]) (ea_cons (vr 0) ea_nil)) ⟨[98, 63], b, rfl, hb, by decide, rfl⟩)) (fun d μ' ⟨e1, e2⟩ => ⟨by rw [e1]; show nn (startL (viewsL (bW b) mX) [v1W b, v2W b]).length = _; rw [t3]; rfl, e2⟩)) (Ed.to ed_int rfl) Shp.int
  case u2 => exact tm_ne (x := nD [1]) hu (Ed.m (Ed.to (EvM.pure_ (P := post_t0 g_places (trk (bW b) mX [v1W b, v2W b]) []) (j := 0) (em_meth0 (fs := trk (bW b) mX [v1W b, v2W b]) 3 0 M2 hr c rfl (st _ ok2)) t0_pure) (by show nD _ = _; rw [t3]; rfl))) (Ed.to (ed_lst (ea_cons ed_int ea_nil) (by simp)) rfl) (shp_nD _)
  case u3 => exact tm_not (EvM.imp (em_undo (ts := [v1W b, v2W b]) 3 0 M4 hr c ok2) (fun d μ' ⟨e1, e2⟩ => ⟨by rw [e1]; rfl, e2⟩))
  refine run_ret (d := .bool true) (Ed.to (ed_and (k := true) (l := true) ?r1 (fun _ => ed_one ?r2)) rfl) rfl
  case r1 => exact Ed.to (ed_cmp (ed_lenO (fs := trk (bW b) mX [v1W b]) (N := 1) 3 0 M5 hr G.len (st _ ok1) t0_pure (by decide)) (ed_int : Ed _ _ _ _ _ (.int 1)) c_eqI) rfl
  case r2 => exact ed_cmp (x := nD [0, 2]) (Ed.to (EvM.pure_ (P := post_t0 g_places (trk (bW b) mX [v1W b]) []) (j := 0) (em_meth0 (fs := trk (bW b) mX [v1W b]) 3 0 M2 hr c rfl (st _ ok1)) t0_pure) (by show nD _ = _; rw [t2]; rfl)) (Ed.to (ed_lst (ea_cons ed_int (ea_cons ed_int ea_nil)) (by simp)) rfl) (c_eqSame hu (shp_nD _))
end
end HW
set_option maxHeartbeats 4000000
namespace HW
open PySem PySem.Spec PyProof.Rows L2 Tx
open SX (S)
section
variable {P : Program} {w : World} {K : PySem.W.Frag} {mg : Str → Option Value} {base : Heap} {f : Addr} {fd : FuncData} {k : Nat}
theorem fd_the_law (F : FnP K "law" s_law f fd) (G : Gs mg) (F0 : DRAW P w K mg base k) (F1 : Fd P w K mg base k "_law_viewed" ["_law_by"] (spR K R_by)) (F2 : Fd P w K mg base k "_law_long" [] (spR K R_long)) (F3 : Fd P w K mg base k "_law_joined" ["_law_by"] (spR K R_by)) : FnOk P w K mg base CX0 (k + 1) f fd ["_law_script"] (spLaw K) := by
  have sc : FnScope ["_law_script", "_law_row", "_law_by"] ["_law_script"] (defScope s_law) := ⟨rfl, rfl, rfl, by decide +kernel, rfl, by decide +kernel, by decide +kernel⟩
  refine fd_law (rest := (defBody s_law).drop 1) F sc rfl rfl (h := fun cdv A outer s H E hr W r scr ns hrow => ?_)
  have hu := hr.units
  refine run_setP 2 (ev_takenN 4 F0 hr hrow 1 ed_int rfl) (fun d hd => ?_) sc.nd
  obtain ⟨b, rfl, hb⟩ := hd
  refine run_ret (d := .bool true) (Ed.to (ed_and (k := true) (l := true) ?r1 (fun _ => ed_and (k := true) (l := true) ?r2 (fun _ => ed_one ?r3))) rfl) rfl
  case r1 => exact ed_call F1 hr (ea_cons (vr 2) ea_nil) ⟨b, rfl, hb, rfl⟩
  case r2 => exact ed_call0 F2 hr ⟨rfl, rfl⟩
  case r3 => exact ed_call F3 hr (ea_cons (vr 2) ea_nil) ⟨b, rfl, hb, rfl⟩
end
end HW
set_option maxHeartbeats 4000000
namespace HW
open PySem PySem.Spec PyProof.Rows L2 Tx
open SX (S)
theorem facts {P : Program} {w : World} {K : PySem.W.Frag} {h : Heap} {mg : Str → Option Value} {f : Addr} (X : K.In h) (G0 : h.Ns mainGlobals mg) (hfa : mg ("law" : Str) = some (.ref f)) (c : He.SaysD Tx.fa Tx.fn K) (cx : Tx.ex K = true) :
    ∃ fd : FuncData, (∀ (s : Shared) (v : Value), BindsTo s fd ⟨[v], []⟩ [("_law_script", v)]) ∧ ∀ base : Heap, K.In base → base.Ns mainGlobals mg → FnOk P w K mg base CX0 7 f fd ["_law_script"] (spLaw K) := by
  obtain ⟨q__law_taken, F__law_taken⟩ := c.def_ 56 (d := d__law_taken) rfl
  have g__law_taken := He.glo_ok X G0 (c.fact 56 (f := .glo "_law_taken") rfl)
  obtain ⟨q__law_turned, F__law_turned⟩ := c.def_ 57 (d := d__law_turned) rfl
  have g__law_turned := He.glo_ok X G0 (c.fact 57 (f := .glo "_law_turned") rfl)
  obtain ⟨q_is_mask, F_is_mask⟩ := c.def_ 2 (d := d_is_mask) rfl
  have g_is_mask := He.glo_ok X G0 (c.fact 2 (f := .glo "is_mask") rfl)
  obtain ⟨q_need_mask, F_need_mask⟩ := c.def_ 3 (d := d_need_mask) rfl
  have g_need_mask := He.glo_ok X G0 (c.fact 3 (f := .glo "need_mask") rfl)
  obtain ⟨q_seen_by, F_seen_by⟩ := c.def_ 7 (d := d_seen_by) rfl
  have g_seen_by := He.glo_ok X G0 (c.fact 7 (f := .glo "seen_by") rfl)
  obtain ⟨q_seen, F_seen⟩ := c.def_ 8 (d := d_seen) rfl
  have g_seen := He.glo_ok X G0 (c.fact 8 (f := .glo "seen") rfl)
  obtain ⟨q_is_from, F_is_from⟩ := c.def_ 1 (d := d_is_from) rfl
  have g_is_from := He.glo_ok X G0 (c.fact 1 (f := .glo "is_from") rfl)
  obtain ⟨q_together, F_together⟩ := c.def_ 10 (d := d_together) rfl
  have g_together := He.glo_ok X G0 (c.fact 10 (f := .glo "together") rfl)
  obtain ⟨q_is_row, F_is_row⟩ := c.def_ 4 (d := d_is_row) rfl
  have g_is_row := He.glo_ok X G0 (c.fact 4 (f := .glo "is_row") rfl)
  obtain ⟨q_need_row, F_need_row⟩ := c.def_ 5 (d := d_need_row) rfl
  have g_need_row := He.glo_ok X G0 (c.fact 5 (f := .glo "need_row") rfl)
  obtain ⟨q_view_by, F_view_by⟩ := c.def_ 11 (d := d_view_by) rfl
  have g_view_by := He.glo_ok X G0 (c.fact 11 (f := .glo "view_by") rfl)
  obtain ⟨q_views_of, F_views_of⟩ := c.def_ 12 (d := d_views_of) rfl
  have g_views_of := He.glo_ok X G0 (c.fact 12 (f := .glo "views_of") rfl)
  obtain ⟨q_views, F_views⟩ := c.def_ 13 (d := d_views) rfl
  have g_views := He.glo_ok X G0 (c.fact 13 (f := .glo "views") rfl)
  obtain ⟨q_tells_by, F_tells_by⟩ := c.def_ 14 (d := d_tells_by) rfl
  have g_tells_by := He.glo_ok X G0 (c.fact 14 (f := .glo "tells_by") rfl)
  obtain ⟨q_tells, F_tells⟩ := c.def_ 15 (d := d_tells) rfl
  have g_tells := He.glo_ok X G0 (c.fact 15 (f := .glo "tells") rfl)
  obtain ⟨q_alike, F_alike⟩ := c.def_ 16 (d := d_alike) rfl
  have g_alike := He.glo_ok X G0 (c.fact 16 (f := .glo "alike") rfl)
  obtain ⟨q_groups, F_groups⟩ := c.def_ 17 (d := d_groups) rfl
  have g_groups := He.glo_ok X G0 (c.fact 17 (f := .glo "groups") rfl)
  obtain ⟨q_unlike, F_unlike⟩ := c.def_ 18 (d := d_unlike) rfl
  have g_unlike := He.glo_ok X G0 (c.fact 18 (f := .glo "unlike") rfl)
  obtain ⟨q_distance_of, F_distance_of⟩ := c.def_ 19 (d := d_distance_of) rfl
  have g_distance_of := He.glo_ok X G0 (c.fact 19 (f := .glo "distance_of") rfl)
  obtain ⟨q_distance, F_distance⟩ := c.def_ 20 (d := d_distance) rfl
  have g_distance := He.glo_ok X G0 (c.fact 20 (f := .glo "distance") rfl)
  obtain ⟨q_stands, F_stands⟩ := c.def_ 21 (d := d_stands) rfl
  have g_stands := He.glo_ok X G0 (c.fact 21 (f := .glo "stands") rfl)
  obtain ⟨q_is_view, F_is_view⟩ := c.def_ 33 (d := d_is_view) rfl
  have g_is_view := He.glo_ok X G0 (c.fact 33 (f := .glo "is_view") rfl)
  obtain ⟨q_misses, F_misses⟩ := c.def_ 34 (d := d_misses) rfl
  have g_misses := He.glo_ok X G0 (c.fact 34 (f := .glo "misses") rfl)
  obtain ⟨q_find, F_find⟩ := c.def_ 35 (d := d_find) rfl
  have g_find := He.glo_ok X G0 (c.fact 35 (f := .glo "find") rfl)
  obtain ⟨q_near, F_near⟩ := c.def_ 36 (d := d_near) rfl
  have g_near := He.glo_ok X G0 (c.fact 36 (f := .glo "near") rfl)
  obtain ⟨q_steps_needed, F_steps_needed⟩ := c.def_ 37 (d := d_steps_needed) rfl
  have g_steps_needed := He.glo_ok X G0 (c.fact 37 (f := .glo "steps_needed") rfl)
  obtain ⟨q__law_viewed, F__law_viewed⟩ := c.def_ 58 (d := d__law_viewed) rfl
  have g__law_viewed := He.glo_ok X G0 (c.fact 58 (f := .glo "_law_viewed") rfl)
  obtain ⟨q_need_letters, F_need_letters⟩ := c.def_ 6 (d := d_need_letters) rfl
  have g_need_letters := He.glo_ok X G0 (c.fact 6 (f := .glo "need_letters") rfl)
  obtain ⟨q_need_small, F_need_small⟩ := c.def_ 22 (d := d_need_small) rfl
  have g_need_small := He.glo_ok X G0 (c.fact 22 (f := .glo "need_small") rfl)
  obtain ⟨q_longer, F_longer⟩ := c.def_ 23 (d := d_longer) rfl
  have g_longer := He.glo_ok X G0 (c.fact 23 (f := .glo "longer") rfl)
  obtain ⟨q_levels_of, F_levels_of⟩ := c.def_ 24 (d := d_levels_of) rfl
  have g_levels_of := He.glo_ok X G0 (c.fact 24 (f := .glo "levels_of") rfl)
  obtain ⟨q_longest, F_longest⟩ := c.def_ 25 (d := d_longest) rfl
  have g_longest := He.glo_ok X G0 (c.fact 25 (f := .glo "longest") rfl)
  obtain ⟨q_longest_rows, F_longest_rows⟩ := c.def_ 26 (d := d_longest_rows) rfl
  have g_longest_rows := He.glo_ok X G0 (c.fact 26 (f := .glo "longest_rows") rfl)
  obtain ⟨q_count_rows, F_count_rows⟩ := c.def_ 27 (d := d_count_rows) rfl
  have g_count_rows := He.glo_ok X G0 (c.fact 27 (f := .glo "count_rows") rfl)
  obtain ⟨q_need_row_in, F_need_row_in⟩ := c.def_ 28 (d := d_need_row_in) rfl
  have g_need_row_in := He.glo_ok X G0 (c.fact 28 (f := .glo "need_row_in") rfl)
  obtain ⟨q_next_letters, F_next_letters⟩ := c.def_ 29 (d := d_next_letters) rfl
  have g_next_letters := He.glo_ok X G0 (c.fact 29 (f := .glo "next_letters") rfl)
  obtain ⟨q_farthest, F_farthest⟩ := c.def_ 30 (d := d_farthest) rfl
  have g_farthest := He.glo_ok X G0 (c.fact 30 (f := .glo "farthest") rfl)
  obtain ⟨q_need_ring, F_need_ring⟩ := c.def_ 48 (d := d_need_ring) rfl
  have g_need_ring := He.glo_ok X G0 (c.fact 48 (f := .glo "need_ring") rfl)
  obtain ⟨q_ring_views_of, F_ring_views_of⟩ := c.def_ 49 (d := d_ring_views_of) rfl
  have g_ring_views_of := He.glo_ok X G0 (c.fact 49 (f := .glo "ring_views_of") rfl)
  obtain ⟨q_ring_views, F_ring_views⟩ := c.def_ 50 (d := d_ring_views) rfl
  have g_ring_views := He.glo_ok X G0 (c.fact 50 (f := .glo "ring_views") rfl)
  obtain ⟨q_ring_tells, F_ring_tells⟩ := c.def_ 51 (d := d_ring_tells) rfl
  have g_ring_tells := He.glo_ok X G0 (c.fact 51 (f := .glo "ring_tells") rfl)
  obtain ⟨q_power, F_power⟩ := c.def_ 53 (d := d_power) rfl
  have g_power := He.glo_ok X G0 (c.fact 53 (f := .glo "power") rfl)
  obtain ⟨q_all_rings, F_all_rings⟩ := c.def_ 52 (d := d_all_rings) rfl
  have g_all_rings := He.glo_ok X G0 (c.fact 52 (f := .glo "all_rings") rfl)
  obtain ⟨q_longest_ring, F_longest_ring⟩ := c.def_ 54 (d := d_longest_ring) rfl
  have g_longest_ring := He.glo_ok X G0 (c.fact 54 (f := .glo "longest_ring") rfl)
  obtain ⟨q_full_rings, F_full_rings⟩ := c.def_ 55 (d := d_full_rings) rfl
  have g_full_rings := He.glo_ok X G0 (c.fact 55 (f := .glo "full_rings") rfl)
  obtain ⟨q_all_masks, F_all_masks⟩ := c.def_ 9 (d := d_all_masks) rfl
  have g_all_masks := He.glo_ok X G0 (c.fact 9 (f := .glo "all_masks") rfl)
  obtain ⟨q_best_masks, F_best_masks⟩ := c.def_ 31 (d := d_best_masks) rfl
  have g_best_masks := He.glo_ok X G0 (c.fact 31 (f := .glo "best_masks") rfl)
  obtain ⟨q_least_masks, F_least_masks⟩ := c.def_ 32 (d := d_least_masks) rfl
  have g_least_masks := He.glo_ok X G0 (c.fact 32 (f := .glo "least_masks") rfl)
  obtain ⟨q__law_long, F__law_long⟩ := c.def_ 59 (d := d__law_long) rfl
  have g__law_long := He.glo_ok X G0 (c.fact 59 (f := .glo "_law_long") rfl)
  obtain ⟨q_need_views, F_need_views⟩ := c.def_ 38 (d := d_need_views) rfl
  have g_need_views := He.glo_ok X G0 (c.fact 38 (f := .glo "need_views") rfl)
  obtain ⟨q_laid, F_laid⟩ := c.def_ 39 (d := d_laid) rfl
  have g_laid := He.glo_ok X G0 (c.fact 39 (f := .glo "laid") rfl)
  obtain ⟨q_clash_of, F_clash_of⟩ := c.def_ 40 (d := d_clash_of) rfl
  have g_clash_of := He.glo_ok X G0 (c.fact 40 (f := .glo "clash_of") rfl)
  obtain ⟨q_joined, F_joined⟩ := c.def_ 41 (d := d_joined) rfl
  have g_joined := He.glo_ok X G0 (c.fact 41 (f := .glo "joined") rfl)
  obtain ⟨q_first_clash, F_first_clash⟩ := c.def_ 42 (d := d_first_clash) rfl
  have g_first_clash := He.glo_ok X G0 (c.fact 42 (f := .glo "first_clash") rfl)
  obtain ⟨q_orders_of, F_orders_of⟩ := c.def_ 43 (d := d_orders_of) rfl
  have g_orders_of := He.glo_ok X G0 (c.fact 43 (f := .glo "orders_of") rfl)
  obtain ⟨q_rows_from, F_rows_from⟩ := c.def_ 44 (d := d_rows_from) rfl
  have g_rows_from := He.glo_ok X G0 (c.fact 44 (f := .glo "rows_from") rfl)
  obtain ⟨q_sure_from, F_sure_from⟩ := c.def_ 45 (d := d_sure_from) rfl
  have g_sure_from := He.glo_ok X G0 (c.fact 45 (f := .glo "sure_from") rfl)
  obtain ⟨q_mend, F_mend⟩ := c.def_ 46 (d := d_mend) rfl
  have g_mend := He.glo_ok X G0 (c.fact 46 (f := .glo "mend") rfl)
  obtain ⟨q_weak_letters, F_weak_letters⟩ := c.def_ 47 (d := d_weak_letters) rfl
  have g_weak_letters := He.glo_ok X G0 (c.fact 47 (f := .glo "weak_letters") rfl)
  obtain ⟨q__law_joined, F__law_joined⟩ := c.def_ 60 (d := d__law_joined) rfl
  have g__law_joined := He.glo_ok X G0 (c.fact 60 (f := .glo "_law_joined") rfl)
  obtain ⟨q_law, F_law⟩ := c.def_ 61 (d := d_law) rfl
  have g_law := He.glo_ok X G0 (c.fact 61 (f := .glo "law") rfl)
  have e := hfa.symm.trans g_law
  cases e
  have n_isinstance := He.free_ok X G0 (c.fact 66 (f := .free "isinstance") rfl)
  have n_str := He.free_ok X G0 (c.fact 75 (f := .free "str") rfl)
  have n_int := He.free_ok X G0 (c.fact 65 (f := .free "int") rfl)
  have n_len := He.free_ok X G0 (c.fact 67 (f := .free "len") rfl)
  have n_all := He.free_ok X G0 (c.fact 62 (f := .free "all") rfl)
  have n_range := He.free_ok X G0 (c.fact 72 (f := .free "range") rfl)
  have n_set := He.free_ok X G0 (c.fact 73 (f := .free "set") rfl)
  have n_enumerate := He.free_ok X G0 (c.fact 64 (f := .free "enumerate") rfl)
  have n_zip := He.free_ok X G0 (c.fact 77 (f := .free "zip") rfl)
  have n_min := He.free_ok X G0 (c.fact 70 (f := .free "min") rfl)
  have n_max := He.free_ok X G0 (c.fact 69 (f := .free "max") rfl)
  have n_sorted := He.free_ok X G0 (c.fact 74 (f := .free "sorted") rfl)
  have n_any := He.free_ok X G0 (c.fact 78 (f := .free "any") rfl)
  have n_tuple := He.free_ok X G0 (c.fact 76 (f := .free "tuple") rfl)
  have n_list := He.free_ok X G0 (c.fact 68 (f := .free "list") rfl)
  have n_bool := He.free_ok X G0 (c.fact 63 (f := .free "bool") rfl)
  have n_dict := He.free_ok X G0 (c.fact 79 (f := .free "dict") rfl)
  have n_abs := He.free_ok X G0 (c.fact 80 (f := .free "abs") rfl)
  have n_sum := He.free_ok X G0 (c.fact 81 (f := .free "sum") rfl)
  have k_SEEN := He.str_ok X G0 (c.fact 94 (f := .str "SEEN" "x") rfl)
  have k_HOLE := He.str_ok X G0 (c.fact 95 (f := .str "HOLE" ".") rfl)
  have k_LETTERS := He.str_ok X G0 (c.fact 96 (f := .str "LETTERS" "abcd") rfl)
  have k_MOST_MASK := He.int_ok X G0 (c.fact 97 (f := .int "MOST_MASK" 12) rfl)
  have k_MOST_ROW := He.int_ok X G0 (c.fact 98 (f := .int "MOST_ROW" 60) rfl)
  have k_MOST_WRONG := He.int_ok X G0 (c.fact 99 (f := .int "MOST_WRONG" 12) rfl)
  have k_MOST_ASKED := He.int_ok X G0 (c.fact 100 (f := .int "MOST_ASKED" 9) rfl)
  have k_OPEN := He.str_ok X G0 (c.fact 101 (f := .str "OPEN" "?") rfl)
  have k_MOST_VIEWS := He.int_ok X G0 (c.fact 102 (f := .int "MOST_VIEWS" 7) rfl)
  have k_MOST_MENDED := He.int_ok X G0 (c.fact 103 (f := .int "MOST_MENDED" 8) rfl)
  unfold Tx.ex at cx
  simp only [Bool.and_eq_true] at cx
  obtain ⟨⟨⟨⟨c_xBadView, c_bWindowError⟩, c_MOST_WIDTHS⟩, c_MOST_SEEN⟩, _⟩ := cx
  have k_xBadView := HW.exfB_ok X G0 c_xBadView
  have k_bWindowError := HW.baseB_ok X G0 c_bWindowError
  have k_MOST_WIDTHS := HX.tupI_ok X G0 c_MOST_WIDTHS
  have k_MOST_SEEN := HX.tupI_ok X G0 c_MOST_SEEN
  have cls_Tracker := He.cls_ok (c.fact 83 (f := .cls "Tracker") rfl)
  have g_Tracker := He.glo_ok X G0 (c.fact 82 (f := .glo "Tracker") rfl)
  have mk_Tracker := He.mkr_ok (c.fact 84 (f := .mkr "Tracker") rfl)
  have meth_Tracker_starts := He.meth_ok (c.fact 85 (f := .meth "Tracker" "starts") rfl)
  have meth_Tracker_places := He.meth_ok (c.fact 86 (f := .meth "Tracker" "places") rfl)
  have meth_Tracker_see := He.meth_ok (c.fact 87 (f := .meth "Tracker" "see") rfl)
  have meth_Tracker_undo := He.meth_ok (c.fact 88 (f := .meth "Tracker" "undo") rfl)
  have meth_Tracker___len__ := He.meth_ok (c.fact 89 (f := .meth "Tracker" "__len__") rfl)
  have nf_Tracker_line := He.noat_ok (c.fact 90 (f := .noat "Tracker" "line") rfl)
  have nf_Tracker_shape := He.noat_ok (c.fact 91 (f := .noat "Tracker" "shape") rfl)
  have nf_Tracker_told := He.noat_ok (c.fact 92 (f := .noat "Tracker" "told") rfl)
  have nf_Tracker_stood := He.noat_ok (c.fact 93 (f := .noat "Tracker" "stood") rfl)
  obtain ⟨qm_Tracker___init__, Fm_Tracker___init__⟩ := c.def_ 63 (d := im_Tracker___init__) rfl
  obtain ⟨qm_Tracker_starts, Fm_Tracker_starts⟩ := c.def_ 64 (d := im_Tracker_starts) rfl
  obtain ⟨qm_Tracker_places, Fm_Tracker_places⟩ := c.def_ 65 (d := im_Tracker_places) rfl
  obtain ⟨qm_Tracker_see, Fm_Tracker_see⟩ := c.def_ 66 (d := im_Tracker_see) rfl
  obtain ⟨qm_Tracker_undo, Fm_Tracker_undo⟩ := c.def_ 67 (d := im_Tracker_undo) rfl
  obtain ⟨qm_Tracker___len__, Fm_Tracker___len__⟩ := c.def_ 68 (d := im_Tracker___len__) rfl
  obtain ⟨qi_BadView, Fi_BadView⟩ := c.def_ 62 (d := i_BadView) rfl
  have G : Gs mg := ⟨n_isinstance, n_str, n_int, n_len, n_all, n_range, n_set, n_enumerate, n_zip, n_min, n_max, n_sorted, n_any, n_tuple, n_list, n_bool, n_dict, n_abs, n_sum⟩
  have b := FunD.bindsA (ps := ["_law_script"]) F_law fun _ _ _ _ _ _ us hl => match us, hl with | [_], _ => rfl
  refine ⟨q_law, fun s v => b s [v] rfl, fun base _ _ => ?_⟩
  have E_BadView : Ex0 P w K mg base 1 "BadView" := ⟨k_xBadView, _, fi_BadView (k := 0) Fi_BadView k_bWindowError, FunD.bindsN Fi_BadView fun _ _ _ _ _ _ us hl => match us, hl with | [_], _ => rfl⟩
  have A__law_taken : Fd P w K mg base 1 "_law_taken" ["_law_row", "_law_many"] (spW K R_taken_pre R_taken_post) := ⟨_, _, fd_taken (k := 0) F__law_taken n_int n_len, g__law_taken, FunD.kp F__law_taken, FunD.bindsN F__law_taken fun _ _ _ _ _ _ us hl => match us, hl with | [_, _], _ => rfl⟩
  have A__law_turned : Fd P w K mg base 1 "_law_turned" ["_law_line", "_law_by"] (spR K R_turned) := ⟨_, _, fd_law_turned24 (k := 0) F__law_turned G, g__law_turned, FunD.kp F__law_turned, FunD.bindsN F__law_turned fun _ _ _ _ _ _ us hl => match us, hl with | [_, _], _ => rfl⟩
  have A_is_mask : Fd P w K mg base 1 "is_mask" ["value"] (spR K R_is_mask) := ⟨_, _, fd_is_mask (k := 0) F_is_mask G k_SEEN k_HOLE k_MOST_MASK, g_is_mask, FunD.kp F_is_mask, FunD.bindsN F_is_mask fun _ _ _ _ _ _ us hl => match us, hl with | [_], _ => rfl⟩
  have A_need_mask : Fd P w K mg base 2 "need_mask" ["mask"] (spR K R_need_mask) := ⟨_, _, fd_need_mask (k := 1) F_need_mask (A_is_mask.mono (by decide)), g_need_mask, FunD.kp F_need_mask, FunD.bindsN F_need_mask fun _ _ _ _ _ _ us hl => match us, hl with | [_], _ => rfl⟩
  have A_seen_by : Fd P w K mg base 1 "seen_by" ["mask"] (spR K R_seen_by) := ⟨_, _, fd_seen_by (k := 0) F_seen_by G k_SEEN, g_seen_by, FunD.kp F_seen_by, FunD.bindsN F_seen_by fun _ _ _ _ _ _ us hl => match us, hl with | [_], _ => rfl⟩
  have A_seen : Fd P w K mg base 3 "seen" ["mask"] (spR K R_seen) := ⟨_, _, fd_seen (k := 2) F_seen (A_need_mask.mono (by decide)) (A_seen_by.mono (by decide)), g_seen, FunD.kp F_seen, FunD.bindsN F_seen fun _ _ _ _ _ _ us hl => match us, hl with | [_], _ => rfl⟩
  have A_is_from : Fd P w K mg base 1 "is_from" ["value", "low", "high"] (spR K R_is_from) := ⟨_, _, fd_is_from (k := 0) F_is_from G, g_is_from, FunD.kp F_is_from, FunD.bindsN F_is_from fun _ _ _ _ _ _ us hl => match us, hl with | [_, _, _], _ => rfl⟩
  have A_together : Fd P w K mg base 3 "together" ["one", "other", "far"] (spR K R_together) := ⟨_, _, fd_together (k := 2) F_together G k_SEEN k_HOLE k_MOST_MASK (A_need_mask.mono (by decide)) (A_is_from.mono (by decide)) (A_seen_by.mono (by decide)), g_together, FunD.kp F_together, FunD.bindsN F_together fun _ _ _ _ _ _ us hl => match us, hl with | [_, _, _], _ => rfl⟩
  have A_is_row : Fd P w K mg base 1 "is_row" ["value"] (spR K R_is_row) := ⟨_, _, fd_is_row (k := 0) F_is_row G k_LETTERS k_MOST_ROW, g_is_row, FunD.kp F_is_row, FunD.bindsN F_is_row fun _ _ _ _ _ _ us hl => match us, hl with | [_], _ => rfl⟩
  have A_need_row : Fd P w K mg base 2 "need_row" ["row"] (spR K R_need_row) := ⟨_, _, fd_need_row (k := 1) F_need_row (A_is_row.mono (by decide)), g_need_row, FunD.kp F_need_row, FunD.bindsN F_need_row fun _ _ _ _ _ _ us hl => match us, hl with | [_], _ => rfl⟩
  have A_view_by : Fd P w K mg base 2 "view_by" ["row", "mask", "place"] (spR K R_view_by) := ⟨_, _, fd_view_by (k := 1) F_view_by G (A_seen_by.mono (by decide)), g_view_by, FunD.kp F_view_by, FunD.bindsN F_view_by fun _ _ _ _ _ _ us hl => match us, hl with | [_, _, _], _ => rfl⟩
  have A_views_of : Fd P w K mg base 3 "views_of" ["row", "mask"] (spR K R_views_of) := ⟨_, _, fd_views_of (k := 2) F_views_of G (A_view_by.mono (by decide)), g_views_of, FunD.kp F_views_of, FunD.bindsN F_views_of fun _ _ _ _ _ _ us hl => match us, hl with | [_, _], _ => rfl⟩
  have A_views : Fd P w K mg base 4 "views" ["row", "mask"] (spR K R_views) := ⟨_, _, fd_views (k := 3) F_views (A_need_row.mono (by decide)) (A_need_mask.mono (by decide)) (A_views_of.mono (by decide)), g_views, FunD.kp F_views, FunD.bindsN F_views fun _ _ _ _ _ _ us hl => match us, hl with | [_, _], _ => rfl⟩
  have A_tells_by : Fd P w K mg base 4 "tells_by" ["row", "mask"] (spR K R_tells_by) := ⟨_, _, fd_tells_by (k := 3) F_tells_by G (A_views_of.mono (by decide)), g_tells_by, FunD.kp F_tells_by, FunD.bindsN F_tells_by fun _ _ _ _ _ _ us hl => match us, hl with | [_, _], _ => rfl⟩
  have A_tells : Fd P w K mg base 5 "tells" ["row", "mask"] (spR K R_tells) := ⟨_, _, fd_tells (k := 4) F_tells (A_need_row.mono (by decide)) (A_need_mask.mono (by decide)) (A_tells_by.mono (by decide)), g_tells, FunD.kp F_tells, FunD.bindsN F_tells fun _ _ _ _ _ _ us hl => match us, hl with | [_, _], _ => rfl⟩
  have A_alike : Fd P w K mg base 4 "alike" ["row", "mask"] (spR K R_alike) := ⟨_, _, fd_alike (k := 3) F_alike G (A_need_row.mono (by decide)) (A_need_mask.mono (by decide)) (A_views_of.mono (by decide)), g_alike, FunD.kp F_alike, FunD.bindsN F_alike fun _ _ _ _ _ _ us hl => match us, hl with | [_, _], _ => rfl⟩
  have A_groups : Fd P w K mg base 4 "groups" ["row", "mask"] (spR K R_groups) := ⟨_, _, fd_groups (k := 3) F_groups G (A_need_row.mono (by decide)) (A_need_mask.mono (by decide)) (A_views_of.mono (by decide)), g_groups, FunD.kp F_groups, FunD.bindsN F_groups fun _ _ _ _ _ _ us hl => match us, hl with | [_, _], _ => rfl⟩
  have A_unlike : Fd P w K mg base 1 "unlike" ["one", "other"] (spR K R_unlike) := ⟨_, _, fd_unlike (k := 0) F_unlike G, g_unlike, FunD.kp F_unlike, FunD.bindsN F_unlike fun _ _ _ _ _ _ us hl => match us, hl with | [_, _], _ => rfl⟩
  have A_distance_of : Fd P w K mg base 2 "distance_of" ["told"] (spR K R_distance_of) := ⟨_, _, fd_distance_of (k := 1) F_distance_of G (A_unlike.mono (by decide)), g_distance_of, FunD.kp F_distance_of, FunD.bindsN F_distance_of fun _ _ _ _ _ _ us hl => match us, hl with | [_], _ => rfl⟩
  have A_distance : Fd P w K mg base 4 "distance" ["row", "mask"] (spR K R_distance) := ⟨_, _, fd_distance (k := 3) F_distance (A_need_row.mono (by decide)) (A_need_mask.mono (by decide)) (A_views_of.mono (by decide)) (A_distance_of.mono (by decide)), g_distance, FunD.kp F_distance, FunD.bindsN F_distance fun _ _ _ _ _ _ us hl => match us, hl with | [_, _], _ => rfl⟩
  have A_stands : Fd P w K mg base 4 "stands" ["row", "mask", "wrong", "covered"] (spR K R_stands) := ⟨_, _, fd_stands (k := 3) F_stands k_MOST_WRONG (A_need_row.mono (by decide)) (A_need_mask.mono (by decide)) (A_is_from.mono (by decide)) (A_views_of.mono (by decide)) (A_distance_of.mono (by decide)), g_stands, FunD.kp F_stands, FunD.bindsN F_stands fun _ _ _ _ _ _ us hl => match us, hl with | [_, _, _, _], _ => rfl⟩
  have A_is_view : Fd P w K mg base 2 "is_view" ["mask", "value"] (spR K R_is_view) := ⟨_, _, fd_is_view (k := 1) F_is_view G k_LETTERS k_OPEN (A_seen_by.mono (by decide)), g_is_view, FunD.kp F_is_view, FunD.bindsN F_is_view fun _ _ _ _ _ _ us hl => match us, hl with | [_, _], _ => rfl⟩
  have A_misses : Fd P w K mg base 1 "misses" ["view", "told"] (spR K R_misses) := ⟨_, _, fd_misses (k := 0) F_misses G k_OPEN, g_misses, FunD.kp F_misses, FunD.bindsN F_misses fun _ _ _ _ _ _ us hl => match us, hl with | [_, _], _ => rfl⟩
  have A_find : Fd P w K mg base 4 "find" ["row", "mask", "told"] (spR K R_find) := ⟨_, _, fd_find (k := 3) F_find G (A_need_row.mono (by decide)) (A_need_mask.mono (by decide)) (A_is_view.mono (by decide)) (A_views_of.mono (by decide)) (A_misses.mono (by decide)), g_find, FunD.kp F_find, FunD.bindsN F_find fun _ _ _ _ _ _ us hl => match us, hl with | [_, _, _], _ => rfl⟩
  have A_near : Fd P w K mg base 4 "near" ["row", "mask", "told", "wrong"] (spR K R_near) := ⟨_, _, fd_near (k := 3) F_near G k_MOST_WRONG (A_need_row.mono (by decide)) (A_need_mask.mono (by decide)) (A_is_view.mono (by decide)) (A_is_from.mono (by decide)) (A_views_of.mono (by decide)) (A_misses.mono (by decide)), g_near, FunD.kp F_near, FunD.bindsN F_near fun _ _ _ _ _ _ us hl => match us, hl with | [_, _, _, _], _ => rfl⟩
  have A_steps_needed : Fd P w K mg base 4 "steps_needed" ["row", "mask"] (spR K R_steps_needed) := ⟨_, _, fd_steps_needed (k := 3) F_steps_needed G (A_need_row.mono (by decide)) (A_need_mask.mono (by decide)) (A_views_of.mono (by decide)), g_steps_needed, FunD.kp F_steps_needed, FunD.bindsN F_steps_needed fun _ _ _ _ _ _ us hl => match us, hl with | [_, _], _ => rfl⟩
  have A__law_viewed : Fd P w K mg base 6 "_law_viewed" ["_law_by"] (spR K R_by) := ⟨_, _, fd_law_viewed24 (k := 5) F__law_viewed G (A__law_turned.mono (by decide)) (A_seen.mono (by decide)) (A_together.mono (by decide)) (A_views.mono (by decide)) (A_tells.mono (by decide)) (A_alike.mono (by decide)) (A_groups.mono (by decide)) (A_distance.mono (by decide)) (A_stands.mono (by decide)) (A_find.mono (by decide)) (A_near.mono (by decide)) (A_steps_needed.mono (by decide)), g__law_viewed, FunD.kp F__law_viewed, FunD.bindsN F__law_viewed fun _ _ _ _ _ _ us hl => match us, hl with | [_], _ => rfl⟩
  have A_need_letters : Fd P w K mg base 2 "need_letters" ["letters"] (spR K R_need_letters) := ⟨_, _, fd_need_letters (k := 1) F_need_letters G k_LETTERS (A_is_from.mono (by decide)), g_need_letters, FunD.kp F_need_letters, FunD.bindsN F_need_letters fun _ _ _ _ _ _ us hl => match us, hl with | [_], _ => rfl⟩
  have A_need_small : Fd P w K mg base 3 "need_small" ["mask", "letters"] (spR K R_need_small) := ⟨_, _, fd_need_small (k := 2) F_need_small G k_MOST_WIDTHS k_MOST_SEEN (A_need_mask.mono (by decide)) (A_need_letters.mono (by decide)) (A_seen_by.mono (by decide)), g_need_small, FunD.kp F_need_small, FunD.bindsN F_need_small fun _ _ _ _ _ _ us hl => match us, hl with | [_, _], _ => rfl⟩
  have A_longer : Fd P w K mg base 3 "longer" ["rows", "mask", "letters"] (spR K R_longer) := ⟨_, _, fd_longer (k := 2) F_longer G k_LETTERS (A_view_by.mono (by decide)), g_longer, FunD.kp F_longer, FunD.bindsN F_longer fun _ _ _ _ _ _ us hl => match us, hl with | [_, _, _], _ => rfl⟩
  have A_levels_of : Fd P w K mg base 4 "levels_of" ["mask", "letters"] (spR K R_levels_of) := ⟨_, _, fd_levels_of (k := 3) F_levels_of (A_longer.mono (by decide)), g_levels_of, FunD.kp F_levels_of, FunD.bindsN F_levels_of fun _ _ _ _ _ _ us hl => match us, hl with | [_, _], _ => rfl⟩
  have A_longest : Fd P w K mg base 5 "longest" ["mask", "letters"] (spR K R_longest) := ⟨_, _, fd_longest (k := 4) F_longest G (A_need_small.mono (by decide)) (A_levels_of.mono (by decide)), g_longest, FunD.kp F_longest, FunD.bindsN F_longest fun _ _ _ _ _ _ us hl => match us, hl with | [_, _], _ => rfl⟩
  have A_longest_rows : Fd P w K mg base 5 "longest_rows" ["mask", "letters"] (spR K R_longest_rows) := ⟨_, _, fd_longest_rows (k := 4) F_longest_rows (A_need_small.mono (by decide)) (A_levels_of.mono (by decide)), g_longest_rows, FunD.kp F_longest_rows, FunD.bindsN F_longest_rows fun _ _ _ _ _ _ us hl => match us, hl with | [_, _], _ => rfl⟩
  have A_count_rows : Fd P w K mg base 5 "count_rows" ["mask", "letters", "length"] (spR K R_count_rows) := ⟨_, _, fd_count_rows (k := 4) F_count_rows G k_MOST_ROW (A_need_small.mono (by decide)) (A_is_from.mono (by decide)) (A_levels_of.mono (by decide)), g_count_rows, FunD.kp F_count_rows, FunD.bindsN F_count_rows fun _ _ _ _ _ _ us hl => match us, hl with | [_, _, _], _ => rfl⟩
  have A_need_row_in : Fd P w K mg base 3 "need_row_in" ["row", "letters"] (spR K R_need_row_in) := ⟨_, _, fd_need_row_in (k := 2) F_need_row_in G k_LETTERS (A_need_letters.mono (by decide)) (A_is_row.mono (by decide)), g_need_row_in, FunD.kp F_need_row_in, FunD.bindsN F_need_row_in fun _ _ _ _ _ _ us hl => match us, hl with | [_, _], _ => rfl⟩
  have A_next_letters : Fd P w K mg base 5 "next_letters" ["row", "mask", "letters"] (spR K R_next_letters) := ⟨_, _, fd_next_letters (k := 4) F_next_letters k_LETTERS (A_need_mask.mono (by decide)) (A_need_row_in.mono (by decide)) (A_tells_by.mono (by decide)), g_next_letters, FunD.kp F_next_letters, FunD.bindsN F_next_letters fun _ _ _ _ _ _ us hl => match us, hl with | [_, _, _], _ => rfl⟩
  have A_farthest : Fd P w K mg base 5 "farthest" ["row", "mask", "letters"] (spR K R_farthest) := ⟨_, _, fd_farthest (k := 4) F_farthest G (A_need_small.mono (by decide)) (A_need_row_in.mono (by decide)) (A_tells_by.mono (by decide)) (A_view_by.mono (by decide)) (A_longer.mono (by decide)), g_farthest, FunD.kp F_farthest, FunD.bindsN F_farthest fun _ _ _ _ _ _ us hl => match us, hl with | [_, _, _], _ => rfl⟩
  have A_need_ring : Fd P w K mg base 3 "need_ring" ["row"] (spR K R_need_ring) := ⟨_, _, fd_need_ring (k := 2) F_need_ring (A_need_row.mono (by decide)), g_need_ring, FunD.kp F_need_ring, FunD.bindsN F_need_ring fun _ _ _ _ _ _ us hl => match us, hl with | [_], _ => rfl⟩
  have A_ring_views_of : Fd P w K mg base 2 "ring_views_of" ["row", "mask"] (spR K R_rvo) := ⟨_, _, fd_ring_views_of (k := 1) F_ring_views_of G (A_seen_by.mono (by decide)), g_ring_views_of, FunD.kp F_ring_views_of, FunD.bindsN F_ring_views_of fun _ _ _ _ _ _ us hl => match us, hl with | [_, _], _ => rfl⟩
  have A_ring_views : Fd P w K mg base 4 "ring_views" ["row", "mask"] (spR K R_ring_views) := ⟨_, _, fd_ring_views (k := 3) F_ring_views (A_need_ring.mono (by decide)) (A_need_mask.mono (by decide)) (A_ring_views_of.mono (by decide)), g_ring_views, FunD.kp F_ring_views, FunD.bindsN F_ring_views fun _ _ _ _ _ _ us hl => match us, hl with | [_, _], _ => rfl⟩
  have A_ring_tells : Fd P w K mg base 4 "ring_tells" ["row", "mask"] (spR K R_ring_tells) := ⟨_, _, fd_ring_tells (k := 3) F_ring_tells G (A_need_ring.mono (by decide)) (A_need_mask.mono (by decide)) (A_ring_views_of.mono (by decide)), g_ring_tells, FunD.kp F_ring_tells, FunD.bindsN F_ring_tells fun _ _ _ _ _ _ us hl => match us, hl with | [_, _], _ => rfl⟩
  have A_power : Fd P w K mg base 1 "power" ["base", "many"] (spR K R_power) := ⟨_, _, fd_power (k := 0) F_power G, g_power, FunD.kp F_power, FunD.bindsN F_power fun _ _ _ _ _ _ us hl => match us, hl with | [_, _], _ => rfl⟩
  have A_all_rings : Fd P w K mg base 4 "all_rings" ["mask", "letters", "length"] (spR K R_all_rings) := ⟨_, _, fd_all_rings (k := 3) F_all_rings G (A_longer.mono (by decide)) (A_ring_views_of.mono (by decide)), g_all_rings, FunD.kp F_all_rings, FunD.bindsN F_all_rings fun _ _ _ _ _ _ us hl => match us, hl with | [_, _, _], _ => rfl⟩
  have A_longest_ring : Fd P w K mg base 5 "longest_ring" ["mask", "letters"] (spR K R_longest_ring) := ⟨_, _, fd_longest_ring (k := 4) F_longest_ring G (A_need_small.mono (by decide)) (A_seen_by.mono (by decide)) (A_power.mono (by decide)) (A_all_rings.mono (by decide)), g_longest_ring, FunD.kp F_longest_ring, FunD.bindsN F_longest_ring fun _ _ _ _ _ _ us hl => match us, hl with | [_, _], _ => rfl⟩
  have A_full_rings : Fd P w K mg base 5 "full_rings" ["mask", "letters"] (spR K R_full_rings) := ⟨_, _, fd_full_rings (k := 4) F_full_rings G (A_need_small.mono (by decide)) (A_seen_by.mono (by decide)) (A_power.mono (by decide)) (A_all_rings.mono (by decide)), g_full_rings, FunD.kp F_full_rings, FunD.bindsN F_full_rings fun _ _ _ _ _ _ us hl => match us, hl with | [_, _], _ => rfl⟩
  have A_all_masks : Fd P w K mg base 1 "all_masks" ["width"] (spR K R_all_masks) := ⟨_, _, fd_all_masks (k := 0) F_all_masks G k_SEEN k_HOLE, g_all_masks, FunD.kp F_all_masks, FunD.bindsN F_all_masks fun _ _ _ _ _ _ us hl => match us, hl with | [_], _ => rfl⟩
  have A_best_masks : Fd P w K mg base 5 "best_masks" ["many", "width", "letters"] (spR K R_best_masks) := ⟨_, _, fd_best_masks (k := 4) F_best_masks G k_MOST_MASK k_MOST_WIDTHS k_MOST_SEEN (A_is_from.mono (by decide)) (A_need_letters.mono (by decide)) (A_all_masks.mono (by decide)) (A_seen_by.mono (by decide)) (A_levels_of.mono (by decide)), g_best_masks, FunD.kp F_best_masks, FunD.bindsN F_best_masks fun _ _ _ _ _ _ us hl => match us, hl with | [_, _, _], _ => rfl⟩
  have A_least_masks : Fd P w K mg base 5 "least_masks" ["row", "width"] (spR K R_least_masks) := ⟨_, _, fd_least_masks (k := 4) F_least_masks G k_MOST_ASKED (A_need_row.mono (by decide)) (A_is_from.mono (by decide)) (A_all_masks.mono (by decide)) (A_seen_by.mono (by decide)) (A_tells_by.mono (by decide)), g_least_masks, FunD.kp F_least_masks, FunD.bindsN F_least_masks fun _ _ _ _ _ _ us hl => match us, hl with | [_, _], _ => rfl⟩
  have A__law_long : Fd P w K mg base 6 "_law_long" [] (spR K R_long) := ⟨_, _, fd_law_long24 (k := 5) F__law_long G (A_longest.mono (by decide)) (A_longest_rows.mono (by decide)) (A_count_rows.mono (by decide)) (A_next_letters.mono (by decide)) (A_farthest.mono (by decide)) (A_ring_views.mono (by decide)) (A_ring_tells.mono (by decide)) (A_longest_ring.mono (by decide)) (A_full_rings.mono (by decide)) (A_best_masks.mono (by decide)) (A_least_masks.mono (by decide)), g__law_long, FunD.kp F__law_long, FunD.bindsN F__law_long fun _ _ _ _ _ _ us hl => match us, hl with | [], _ => rfl⟩
  have A_need_views : Fd P w K mg base 3 "need_views" ["mask", "views", "most"] (spR K R_need_views) := ⟨_, _, fd_need_views (k := 2) F_need_views G (A_is_view.mono (by decide)), g_need_views, FunD.kp F_need_views, FunD.bindsN F_need_views fun _ _ _ _ _ _ us hl => match us, hl with | [_, _, _], _ => rfl⟩
  have A_laid : Fd P w K mg base 2 "laid" ["mask", "found", "place", "view"] (spR K R_laid) := ⟨_, _, fd_laid (k := 1) F_laid G k_OPEN (A_seen_by.mono (by decide)), g_laid, FunD.kp F_laid, FunD.bindsN F_laid fun _ _ _ _ _ _ us hl => match us, hl with | [_, _, _, _], _ => rfl⟩
  have A_clash_of : Fd P w K mg base 3 "clash_of" ["mask", "views"] (spR K R_clash_of) := ⟨_, _, fd_clash_of (k := 2) F_clash_of G k_OPEN (A_laid.mono (by decide)), g_clash_of, FunD.kp F_clash_of, FunD.bindsN F_clash_of fun _ _ _ _ _ _ us hl => match us, hl with | [_, _], _ => rfl⟩
  have A_joined : Fd P w K mg base 4 "joined" ["mask", "views"] (spR K R_joined) := ⟨_, _, fd_joined (k := 3) F_joined G k_MOST_ROW (A_need_mask.mono (by decide)) (A_need_views.mono (by decide)) (A_clash_of.mono (by decide)), g_joined, FunD.kp F_joined, FunD.bindsN F_joined fun _ _ _ _ _ _ us hl => match us, hl with | [_, _], _ => rfl⟩
  have A_first_clash : Fd P w K mg base 4 "first_clash" ["mask", "views"] (spR K R_first_clash) := ⟨_, _, fd_first_clash (k := 3) F_first_clash G k_MOST_ROW (A_need_mask.mono (by decide)) (A_need_views.mono (by decide)) (A_clash_of.mono (by decide)), g_first_clash, FunD.kp F_first_clash, FunD.bindsN F_first_clash fun _ _ _ _ _ _ us hl => match us, hl with | [_, _], _ => rfl⟩
  have A_orders_of : Fd P w K mg base 3 "orders_of" ["mask", "views"] (spR K R_orders_of) := ⟨_, _, fd_orders_of (k := 2) F_orders_of G k_OPEN (A_laid.mono (by decide)), g_orders_of, FunD.kp F_orders_of, FunD.bindsN F_orders_of fun _ _ _ _ _ _ us hl => match us, hl with | [_, _], _ => rfl⟩
  have A_rows_from : Fd P w K mg base 4 "rows_from" ["mask", "views"] (spR K R_rows_from) := ⟨_, _, fd_rows_from (k := 3) F_rows_from G k_MOST_ROW k_MOST_VIEWS (A_need_mask.mono (by decide)) (A_need_views.mono (by decide)) (A_orders_of.mono (by decide)), g_rows_from, FunD.kp F_rows_from, FunD.bindsN F_rows_from fun _ _ _ _ _ _ us hl => match us, hl with | [_, _], _ => rfl⟩
  have A_sure_from : Fd P w K mg base 4 "sure_from" ["mask", "views"] (spR K R_sure_from) := ⟨_, _, fd_sure_from (k := 3) F_sure_from G k_OPEN k_MOST_ROW k_MOST_VIEWS (A_need_mask.mono (by decide)) (A_need_views.mono (by decide)) (A_orders_of.mono (by decide)), g_sure_from, FunD.kp F_sure_from, FunD.bindsN F_sure_from fun _ _ _ _ _ _ us hl => match us, hl with | [_, _], _ => rfl⟩
  have A_mend : Fd P w K mg base 5 "mend" ["row", "mask", "letters"] (spR K R_mend) := ⟨_, _, fd_mend (k := 4) F_mend G k_LETTERS k_MOST_MENDED (A_need_mask.mono (by decide)) (A_need_row_in.mono (by decide)) (A_tells_by.mono (by decide)) (A_unlike.mono (by decide)), g_mend, FunD.kp F_mend, FunD.bindsN F_mend fun _ _ _ _ _ _ us hl => match us, hl with | [_, _, _], _ => rfl⟩
  have A_weak_letters : Fd P w K mg base 5 "weak_letters" ["row", "mask", "letters"] (spR K R_weak) := ⟨_, _, fd_weak_letters (k := 4) F_weak_letters G k_LETTERS (A_need_mask.mono (by decide)) (A_need_row_in.mono (by decide)) (A_tells_by.mono (by decide)), g_weak_letters, FunD.kp F_weak_letters, FunD.bindsN F_weak_letters fun _ _ _ _ _ _ us hl => match us, hl with | [_, _, _], _ => rfl⟩
  have A_Tracker : MkT P w K mg base 4 (He.ga K "Tracker") "Tracker" ["self", "row", "mask"] (spT K (He.ga K "Tracker") pre_init post_init) := ⟨_, _, 3, by decide, g_Tracker, mk_Tracker, ft_init (k := 2) Fm_Tracker___init__ G cls_Tracker nf_Tracker_line nf_Tracker_shape nf_Tracker_told nf_Tracker_stood (A_need_row.mono (by decide)) (A_need_mask.mono (by decide)), FunD.bindsN Fm_Tracker___init__ fun _ _ _ _ _ _ us hl => match us, hl with | [_, _, _], _ => rfl⟩
  have A_Tracker_starts : FdM P w K mg base 1 (He.ga K "Tracker") "starts" ["self"] (spT K (He.ga K "Tracker") pre_t0 (post_t0 g_starts)) := ⟨_, _, ft_starts (k := 0) Fm_Tracker_starts G cls_Tracker nf_Tracker_stood, meth_Tracker_starts, FunD.bindsN Fm_Tracker_starts fun _ _ _ _ _ _ us hl => match us, hl with | [_], _ => rfl⟩
  have A_Tracker_places : FdM P w K mg base 1 (He.ga K "Tracker") "places" ["self"] (spT K (He.ga K "Tracker") pre_t0 (post_t0 g_places)) := ⟨_, _, ft_places (k := 0) Fm_Tracker_places G cls_Tracker nf_Tracker_told nf_Tracker_stood, meth_Tracker_places, FunD.bindsN Fm_Tracker_places fun _ _ _ _ _ _ us hl => match us, hl with | [_], _ => rfl⟩
  have A_Tracker_see : FdM P w K mg base 4 (He.ga K "Tracker") "see" ["self", "view"] (spT K (He.ga K "Tracker") pre_see post_see) := ⟨_, _, ft_see (k := 3) Fm_Tracker_see G cls_Tracker nf_Tracker_line nf_Tracker_shape nf_Tracker_told nf_Tracker_stood (A_is_view.mono (by decide)) (A_views_of.mono (by decide)) (A_misses.mono (by decide)), meth_Tracker_see, FunD.bindsN Fm_Tracker_see fun _ _ _ _ _ _ us hl => match us, hl with | [_, _], _ => rfl⟩
  have A_Tracker_undo : FdM P w K mg base 1 (He.ga K "Tracker") "undo" ["self"] (spT K (He.ga K "Tracker") pre_t0 post_undo) := ⟨_, _, ft_undo (k := 0) Fm_Tracker_undo G cls_Tracker nf_Tracker_told nf_Tracker_stood, meth_Tracker_undo, FunD.bindsN Fm_Tracker_undo fun _ _ _ _ _ _ us hl => match us, hl with | [_], _ => rfl⟩
  have A_Tracker___len__ : FdM P w K mg base 2 (He.ga K "Tracker") "__len__" ["self"] (spT K (He.ga K "Tracker") pre_t0 (post_t0 g_len)) := ⟨_, _, ft_len (k := 1) Fm_Tracker___len__ G cls_Tracker nf_Tracker_told, meth_Tracker___len__, FunD.bindsN Fm_Tracker___len__ fun _ _ _ _ _ _ us hl => match us, hl with | [_], _ => rfl⟩
  have A__law_joined : Fd P w K mg base 6 "_law_joined" ["_law_by"] (spR K R_by) := ⟨_, _, fd_law_joined24 (k := 5) F__law_joined rfl G cls_Tracker (A__law_turned.mono (by decide)) (A_joined.mono (by decide)) (A_first_clash.mono (by decide)) (A_rows_from.mono (by decide)) (A_sure_from.mono (by decide)) (A_mend.mono (by decide)) (A_weak_letters.mono (by decide)) (A_Tracker.mono (by decide)) (A_Tracker_starts.mono (by decide)) (A_Tracker_places.mono (by decide)) (A_Tracker_see.mono (by decide)) (A_Tracker_undo.mono (by decide)) (A_Tracker___len__.mono (by decide)), g__law_joined, FunD.kp F__law_joined, FunD.bindsN F__law_joined fun _ _ _ _ _ _ us hl => match us, hl with | [_], _ => rfl⟩
  exact fd_the_law (k := 6) F_law G (A__law_taken.mono (by decide)) (A__law_viewed.mono (by decide)) (A__law_long.mono (by decide)) (A__law_joined.mono (by decide))
end HW
open PySem PySem.W PySem.Calls PyProof.Rows
theorem PySem.Challenge.cw_holedwindows_k24_known_windows_holds : PySem.Challenge.rw_holedwindows_k24_known_windows.Holds := by
  w_on; o_law
  refine HandSHeadRun.head_any (r := OpenLaw.row PySem.Challenge.rw_holedwindows_k24_known_windows) (q := view (OpenLaw.row PySem.Challenge.rw_holedwindows_k24_known_windows).prog [95]) (H := Tx.hk) (ob := Tx.ob) (M := 9000) (loose := Tx.names) (d := HandSHeadRun.topDef (OpenLaw.row PySem.Challenge.rw_holedwindows_k24_known_windows).prog 95) (kwd := []) Tx.ob_eq
    (by kernel_rfl) (fun s => by kernel_rfl) Tx.run (by kernel_rfl) (by kernel_rfl) (by kernel_rfl) (by rfl) (by first | assumption | decide +kernel) (by decide +kernel) ⟨rfl, rfl, rfl, rfl, rfl, by decide +kernel⟩ ?hw ?hc
  case hw => w_witness2
  case hc =>
    refine L2.walk_ofE (l := PySem.Challenge.rw_holedwindows_k24_known_windows) (n := 63) (k := 7) (x := "_law_script") (CX := L2.CX0) rfl (by decide) (by kernel_rfl) ⟨rfl, by decide, by decide⟩ ?F (fun _ _ _ _ z => z)
    intro w mg fa h Y G hmg0
    obtain ⟨K, KX, c, cx⟩ := Y
    have hmg : mg ("law" : PySem.Str) = some (.ref fa) := by
      have e : (HandSHeadRun.topDef (OpenLaw.row PySem.Challenge.rw_holedwindows_k24_known_windows).prog 95).name = ("law" : PySem.Str) := by kernel_rfl
      rw [← e]
      exact hmg0
    obtain ⟨fd, hb, hF⟩ := HW.facts (P := (PySem.Challenge.rw_holedwindows_k24_known_windows).prog) (w := w) KX G hmg c cx
    exact ⟨K, fd, HW.spLaw K, KX, hb, fun H a ns hl _ hS => ⟨a, ns, rfl, hl, hS, fun _ => rfl⟩, hF⟩

