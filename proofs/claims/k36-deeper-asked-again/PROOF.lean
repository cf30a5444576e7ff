import PyProof.Rows.All
import Wide.All
import OpenK.AllK
import Wide.FinOn
import KE.KStateDown
import HandS.ForMost
import HandS.Head0
import HandS.Head1
import HandS.Head2
import HandS.HeadEnd
import HandS.HeadHook1
import HandS.HeadHook2
import HandS.Defaults
import HandS.Codes
import HandS.IsInst
import KE.GoesEnum
import HandS.Strs
import HandS.Zip
import HandS.TupAny
import HandS.TupMul
import PyProof.StrOps2
import HandS.NoneIn
import HandS.Style
import KE.KRevSl
import HandS.Replace
import KE.DataMinMax
import KE.SortData
import KE.DataCmp
import HandS.Flow
import HandS.Wide
import HandS.Set
import HandS.SetFor
import HandS.ExcInit
import HandS.ExcField
import HandS.TryOnly
import HandS.TryMany
import HandS.WordsExc
import HandS.ClsMeth
import HandS.Iter
import PyProof.SeqIndex
import HandS.TupSets
import PyProof.StrLawsChain
import HandS.Property
import KE.KAssignIn
import OpenK.KOps
import HandS.Conv
import KE.KExcIs
import PySem.Challenge.RW_holedwindows_k36_deeper_asked_again
set_option Elab.async false
set_option linter.all false
set_option maxRecDepth 100000
set_option maxHeartbeats 4000000
namespace HX
open PySem PySem.Spec PyProof.Rows L2 He
/-! the head's Hook with one more question ex -/
abbrev AlE : Type := AlD × Bool
/-- a constant that is a tuple of ints -/
def intV : Value → Option Int
  | .int i _ => some i
  | _ => none
def tupI (x : Str) (ns : List Int) (K : PySem.W.Frag) : Bool := match PySem.W.nsIn K mainGlobals x with
  | some (some (.ref a)) => match K.lookup a with
    | some ⟨.type T, _, .seq its _, _⟩ => decide (T = "tuple") && decide (its.toList.map intV = ns.map some) && decide (its.size ≤ 1000)
    | _ => false
  | _ => false
theorem vals_intV : ∀ {us : List Value} {ns : List Int}, us.map intV = ns.map some → Vals (ns.map V.int) us
  | [], [], _ => .nil
  | [], _ :: _, h => nomatch h
  | _ :: _, [], h => nomatch h
  | u :: us, n :: ns, h => by
    rw [List.map_cons, List.map_cons] at h
    have h1 := (List.cons.inj h).1
    have h2 := (List.cons.inj h).2
    refine .cons ?_ (vals_intV h2)
    cases u with
    | int i t =>
      have e : i = n := Option.some.inj h1
      subst e
      exact ⟨t, rfl⟩
    | _ => cases h1
abbrev gTup (K : PySem.W.Frag) (mg : Str → Option Value) (x : Str) (ns : List Int) : Prop := ∃ a, mg x = some (.ref a) ∧ ∀ H : Hp, SqT K H a (ns.map V.int)
theorem tupI_ok {K : PySem.W.Frag} {h : Heap} {mg : Str → Option Value} {x : Str} {ns : List Int} (X : K.In h) (G : h.Ns mainGlobals mg) (c : tupI x ns K = true) : gTup K mg x ns := by
  unfold tupI at c
  cases e : PySem.W.nsIn K mainGlobals x with
  | none => rw [e] at c; cases c
  | some o =>
    cases o with
    | none => rw [e] at c; cases c
    | some v =>
      cases v with
      | ref a =>
        rw [e] at c
        refine ⟨a, PySem.W.mg_of X G e, fun H => ?_⟩
        cases q : K.lookup a with
        | none =>
          simp only [q] at c
          cases c
        | some ob =>
          simp only [q] at c
          obtain ⟨cls, dd, dt, sl⟩ := ob
          cases cls with
          | type T =>
            cases dt with
            | seq its n =>
              simp only [Bool.and_eq_true, decide_eq_true_eq] at c
              obtain ⟨⟨c1, c2⟩, c3⟩ := c
              subst c1
              exact .inr ⟨_, its, n, q, rfl, rfl, Nat.le_trans c3 (by decide), vals_intV c2⟩
            | _ => cases c
          | _ => cases c
      | _ => rw [e] at c; cases c
end HX
set_option maxHeartbeats 4000000
/-! A layer of my own over HandS: expressions that evaluate to plain data, statements over a state of data. -/
namespace HW
open PySem PySem.Spec PyProof.Rows L2
/-! ### heaps -/
/-- the heap without the addresses of L -/
def off (L : List Addr) (H : Hp) : Hp := fun a => if a ∈ L then none else H a
theorem off_in {L : List Addr} {H : Hp} {a : Addr} (h : a ∈ L) : off L H a = none := if_pos h
theorem off_out {L : List Addr} {H : Hp} {a : Addr} (h : a ∉ L) : off L H a = H a := if_neg h
theorem off_some {L : List Addr} {H : Hp} {a : Addr} {o : HO} (h : off L H a = some o) : a ∉ L ∧ H a = some o := by
  by_cases q : a ∈ L
  · rw [off_in q] at h; cases h
  · rw [off_out q] at h; exact ⟨q, h⟩
/-- H' keeps all that H has but at L -/
def XT (L : List Addr) (H H' : Hp) : Prop := ∀ a o, off L H a = some o → off L H' a = some o
theorem XT.refl {L : List Addr} {H : Hp} : XT L H H := fun _ _ h => h
theorem XT.trans {L : List Addr} {H H1 H2 : Hp} (a : XT L H H1) (b : XT L H1 H2) : XT L H H2 := fun x o h => b x o (a x o h)
theorem XT.same {L : List Addr} {H H' : Hp} (e : Same H H') : XT L H H' := fun a o h => by
  obtain ⟨h1, h2⟩ := off_some h
  rw [off_out h1]
  exact e a o h2
theorem same_off {L : List Addr} {H : Hp} : Same (off L H) H := fun _ _ h => (off_some h).2
theorem same_offs {L L' : List Addr} {H : Hp} (h : ∀ a ∈ L', a ∈ L) : Same (off L H) (off L' H) := fun a o e => by
  obtain ⟨h1, h2⟩ := off_some e
  rw [off_out (fun q => h1 (h a q))]
  exact h2

/-! ### data -/
mutual
/-- no dict within -/
def nod : PyData → Bool
  | .dict _ => false
  | .list xs => nodAll xs
  | .tuple xs => nodAll xs
  | _ => true
def nodAll : List PyData → Bool
  | [] => true
  | x :: xs => nod x && nodAll xs
end
mutual
theorem nod_of_lay : ∀ {d : PyData}, d.canLay0 = true → nod d = true
  | .none, _ => rfl
  | .bool _, _ => rfl
  | .int _, _ => rfl
  | .str _, _ => rfl
  | .list xs, h => nodAll_of_lay (xs := xs) h
  | .tuple xs, h => nodAll_of_lay (xs := xs) h
  | .dict _, h => nomatch h
theorem nodAll_of_lay : ∀ {xs : List PyData}, PyData.canLayAll0 xs = true → nodAll xs = true
  | [], _ => rfl
  | x :: xs, h => by
    have q : x.canLay0 = true ∧ PyData.canLayAll0 xs = true := by simpa [PyData.canLayAll0] using h
    show (nod x && nodAll xs) = true
    rw [nod_of_lay q.1, nodAll_of_lay q.2]
    rfl
end
/-- an object of which only the place is told -/
abbrev ptD (a : Addr) : PyData := .dict [(.int a, .none)]
/-- a key as data -/
def kD : L2.Key → PyData
  | .inl i => .int i
  | .inr x => .str x
/-- a locked dict as data: its keys are numbers and texts, or tuples of them -/
abbrev dkD (kvs : List (PyData × PyData)) : PyData := .dict ((.none, .none) :: kvs)
abbrev dtD (kvs : List (PyData × PyData)) : PyData := .dict ((.bool true, .none) :: kvs)
mutual
/-- the value v is the data d -/
inductive Va (K : PySem.W.Frag) (H : Hp) : V → PyData → Prop
  | non : Va K H .non .none
  | bl (b : Bool) : Va K H (.bl b) (.bool b)
  | int (i : Int) : Va K H (.int i) (.int i)
  | str (x : Str) : Va K H (.str x) (.str x)
  | lst {a : Addr} {xs : List V} {ds : List PyData} : H a = some (.lst xs) → VaAll K H xs ds → Va K H (.ref a) (.list ds)
  | tup {a : Addr} {xs : List V} {ds : List PyData} : SqT K H a xs → VaAll K H xs ds → Va K H (.ref a) (.tuple ds)
  | dct {a : Addr} : H a = some (.dK []) → Va K H (.ref a) (.dict [])
  | ptr (a : Addr) : Va K H (.ref a) (.dict [(.int a, .none)])
  | dcf {a : Addr} {o : Obj} {ks : List (Key × V)} {ds : List PyData} {kvs : List (PyData × PyData)} : H a = some (.frz o (.dK ks)) → VaAll K H (ks.map (·.2)) ds → kvs = (ks.map fun p => kD p.1).zip ds → Va K H (.ref a) (dkD kvs)
  | dtf {a : Addr} {o : Obj} {ks : List (List Key × V)} {ds : List PyData} {kvs : List (PyData × PyData)} : H a = some (.frz o (.dT ks)) → VaAll K H (ks.map (·.2)) ds → kvs = (ks.map fun p => PyData.tuple (p.1.map kD)).zip ds → Va K H (.ref a) (dtD kvs)
inductive VaAll (K : PySem.W.Frag) (H : Hp) : List V → List PyData → Prop
  | nil : VaAll K H [] []
  | cons {v : V} {vs : List V} {d : PyData} {ds : List PyData} : Va K H v d → VaAll K H vs ds → VaAll K H (v :: vs) (d :: ds)
end
section
variable {K : PySem.W.Frag} {H H' : Hp}
theorem SqT.up {a : Addr} {xs : List V} (e : Same H H') (h : SqT K H a xs) : SqT K H' a xs := by
  rcases h with (h | ⟨o, h⟩) | h
  · exact .inl (.inl (e _ _ h))
  · exact .inl (.inr ⟨o, e _ _ h⟩)
  · exact .inr h
mutual
theorem Va.up (e : Same H H') : ∀ {v : V} {d : PyData}, Va K H v d → Va K H' v d
  | _, _, .non => .non
  | _, _, .bl b => .bl b
  | _, _, .int i => .int i
  | _, _, .str x => .str x
  | _, _, .lst h hs => .lst (e _ _ h) (VaAll.up e hs)
  | _, _, .tup h hs => .tup (SqT.up e h) (VaAll.up e hs)
  | _, _, .dct h => .dct (e _ _ h)
  | _, _, .ptr a => .ptr a
  | _, _, .dcf h hs q => .dcf (e _ _ h) (VaAll.up e hs) q
  | _, _, .dtf h hs q => .dtf (e _ _ h) (VaAll.up e hs) q
theorem VaAll.up (e : Same H H') : ∀ {vs : List V} {ds : List PyData}, VaAll K H vs ds → VaAll K H' vs ds
  | _, _, .nil => .nil
  | _, _, .cons h hs => .cons (Va.up e h) (VaAll.up e hs)
end
mutual
theorem Va.dp : ∀ {v : V} {d : PyData}, Va K H v d → nod d = true → Dp K H v d
  | _, _, .non, _ => .non
  | _, _, .bl b, _ => .bl b
  | _, _, .int i, _ => .int i
  | _, _, .str x, _ => .str x
  | _, _, .lst h hs, n => .lst (SqL.of h) (VaAll.dp hs n)
  | _, _, .tup h hs, n => .tup h (VaAll.dp hs n)
  | _, _, .dct _, n => nomatch n
  | _, _, .ptr _, n => nomatch n
  | _, _, .dcf _ _ _, n => nomatch n
  | _, _, .dtf _ _ _, n => nomatch n
theorem VaAll.dp : ∀ {vs : List V} {ds : List PyData}, VaAll K H vs ds → nodAll ds = true → DpAll K H vs ds
  | _, _, .nil, _ => .nil
  | _, _, .cons h hs, n => by
    obtain ⟨n1, n2⟩ := Bool.and_eq_true_iff.mp n
    exact .cons (Va.dp h n1) (VaAll.dp hs n2)
end
theorem VaAll.length : ∀ {vs : List V} {ds : List PyData}, VaAll K H vs ds → vs.length = ds.length
  | _, _, .nil => rfl
  | _, _, .cons _ hs => by rw [List.length_cons, List.length_cons, VaAll.length hs]
theorem VaAll.get : ∀ {vs : List V} {ds : List PyData} {i : Nat} {v : V}, VaAll K H vs ds → vs[i]? = some v → ∃ d, ds[i]? = some d ∧ Va K H v d
  | _, _, i, _, .nil, e => by simp at e
  | _, _, 0, _, .cons h _, e => by
    have e : _ = _ := Option.some.inj e
    subst e
    exact ⟨_, rfl, h⟩
  | _, _, i + 1, v, .cons _ hs, e => by
    obtain ⟨d, h1, h2⟩ := VaAll.get (i := i) (v := v) hs (by simpa using e)
    exact ⟨d, by simpa using h1, h2⟩
theorem VaAll.at : ∀ {vs : List V} {ds : List PyData} {i : Nat} {d : PyData}, VaAll K H vs ds → ds[i]? = some d → ∃ v, vs[i]? = some v ∧ Va K H v d
  | _, _, i, _, .nil, e => by simp at e
  | _, _, 0, _, .cons h _, e => by
    have e : _ = _ := Option.some.inj e
    subst e
    exact ⟨_, rfl, h⟩
  | _, _, i + 1, d, .cons _ hs, e => by
    obtain ⟨v, h1, h2⟩ := VaAll.at (i := i) (d := d) hs (by simpa using e)
    exact ⟨v, by simpa using h1, h2⟩
theorem VaAll.app : ∀ {vs ws : List V} {ds es : List PyData}, VaAll K H vs ds → VaAll K H ws es → VaAll K H (vs ++ ws) (ds ++ es)
  | _, _, _, _, .nil, s => s
  | _, _, _, _, .cons h hs, s => .cons h (VaAll.app hs s)
theorem VaAll.take : ∀ {vs : List V} {ds : List PyData} (n : Nat), VaAll K H vs ds → VaAll K H (vs.take n) (ds.take n)
  | _, _, 0, _ => .nil
  | _, _, _ + 1, .nil => .nil
  | _, _, n + 1, .cons h hs => .cons h (VaAll.take n hs)
theorem VaAll.drop : ∀ {vs : List V} {ds : List PyData} (n : Nat), VaAll K H vs ds → VaAll K H (vs.drop n) (ds.drop n)
  | _, _, 0, r => r
  | _, _, _ + 1, .nil => .nil
  | _, _, n + 1, .cons _ hs => VaAll.drop n hs
theorem VaAll.ints : ∀ {vs : List V} {ns : List Int}, VaAll K H vs (ns.map PyData.int) → vs = ns.map V.int
  | _, [], h => by cases h; rfl
  | _, n :: ns, h => by
    cases h with
    | cons h hs => cases h; rw [VaAll.ints hs]; rfl
theorem VaAll.bls : ∀ {vs : List V} {bs : List Bool}, VaAll K H vs (bs.map PyData.bool) → vs = bs.map V.bl
  | _, [], h => by cases h; rfl
  | _, n :: ns, h => by
    cases h with
    | cons h hs => cases h; rw [VaAll.bls hs]; rfl
theorem VaAll.strs : ∀ {vs : List V} {xs : List Str}, VaAll K H vs (xs.map PyData.str) → vs = xs.map V.str
  | _, [], h => by cases h; rfl
  | _, n :: ns, h => by
    cases h with
    | cons h hs => cases h; rw [VaAll.strs hs]; rfl
end
/-! ### the state: slots of data, local mutable objects, the world around -/
inductive DV where
  | no | d (x : PyData) | r (a : Addr)
inductive MO where
  | lst (ds : List PyData) | dK (kvs : List (Key × PyData)) | dT (kvs : List (List Key × PyData)) | ins (C : Addr) (fs : List (Str × PyData))
abbrev Mu := List (Addr × MO)
/-- H0: all that must stay; M: hidden objects (the callers' mutable ones); row: the draws' row, its script -/
structure Wd where
  H0 : Hp
  M : List Addr
  row : Option (Addr × Addr × List Int)
def RowC (H : Hp) (r scr : Addr) : Prop := ∃ i s q : Int, H r = some (.lst [.ref scr, .int i, .int s, .int q]) ∧ 0 ≤ i
def Wd.isRow (W : Wd) (a : Addr) : Prop := ∃ scr ns, W.row = some (a, scr, ns)
structure Fr (W : Wd) (H : Hp) : Prop where
  keep : ∀ a o, ¬ W.isRow a → W.H0 a = some o → H a = some o
  row : ∀ r scr ns, W.row = some (r, scr, ns) → RowC H r scr
structure WdOk (K : PySem.W.Frag) (W : Wd) : Prop where
  hid : ∀ a ∈ W.M, W.H0 a ≠ none
  row : ∀ r scr ns, W.row = some (r, scr, ns) → r ∈ W.M ∧ SqL K W.H0 scr (ns.map V.int) ∧ scr ≠ r ∧ ns.length ≤ 63
def SltR (K : PySem.W.Frag) (H : Hp) : Option V → DV → Prop
  | _, .no => True
  | o, .d d => ∃ v, o = some v ∧ Va K H v d
  | o, .r a => o = some (.ref a)
structure Slots (K : PySem.W.Frag) (H : Hp) (σ : L2.St) (Γ : List DV) : Prop where
  len : σ.length = Γ.length
  at_ : ∀ (i : Nat) (dv : DV), Γ[i]? = some dv → ∃ o, σ[i]? = some o ∧ SltR K H o dv
def MOk (K : PySem.W.Frag) (Ho H : Hp) (a : Addr) : MO → Prop
  | .lst ds => ∃ xs, H a = some (.lst xs) ∧ VaAll K Ho xs ds
  | .dK kvs => ∃ ks : List (Key × V), H a = some (.dK ks) ∧ Paired (fun (p : Key × V) (q : Key × PyData) => p.1 = q.1 ∧ Va K Ho p.2 q.2) ks kvs
  | .dT kvs => ∃ ks : List (List Key × V), H a = some (.dT ks) ∧ Paired (fun (p : List Key × V) (q : List Key × PyData) => p.1 = q.1 ∧ Va K Ho p.2 q.2) ks kvs
  | .ins C fs => ∃ dx, ∃ gs : List (Str × V), H a = some (.ins C dx gs) ∧ Paired (fun (p : Str × V) (q : Str × PyData) => p.1 = q.1 ∧ Va K Ho p.2 q.2) gs fs
abbrev hd (W : Wd) (μ : Mu) : List Addr := W.M ++ μ.map (·.1)
structure Rep (K : PySem.W.Frag) (W : Wd) (Γ : List DV) (μ : Mu) (σ : L2.St) (H : Hp) : Prop where
  wd : WdOk K W
  fr : Fr W H
  sl : Slots K (off (hd W μ) H) σ Γ
  mu : ∀ p ∈ μ, W.H0 p.1 = none ∧ MOk K (off (hd W μ) H) H p.1 p.2
  nd : (μ.map (·.1)).Nodup
section
variable {K : PySem.W.Frag} {H H' Ho Ho' : Hp} {W : Wd} {Γ : List DV} {μ : Mu} {σ : L2.St}
theorem SltR.up (e : Same H H') {o : Option V} {dv : DV} (h : SltR K H o dv) : SltR K H' o dv := by
  cases dv with
  | no => trivial
  | d x => obtain ⟨v, e1, e2⟩ := h; exact ⟨v, e1, e2.up e⟩
  | r a => exact h
theorem Slots.up (e : Same H H') (h : Slots K H σ Γ) : Slots K H' σ Γ := ⟨h.len, fun i dv q => by
  obtain ⟨o, h1, h2⟩ := h.at_ i dv q
  exact ⟨o, h1, h2.up e⟩⟩
theorem Slots.set (h : Slots K H σ Γ) (i : Nat) {v : V} {d : PyData} (r : Va K H v d) : Slots K H (σ.set i (some v)) (Γ.set i (.d d)) := ⟨by rw [List.length_set, List.length_set, h.len], fun j dv q => by
  by_cases hj : j = i
  · subst hj
    have hl : j < Γ.length := by
      have := (List.getElem?_eq_some_iff.mp q).1
      simpa using this
    rw [List.getElem?_set_self hl] at q
    cases q
    exact ⟨_, List.getElem?_set_self (by rw [h.len]; exact hl), v, rfl, r⟩
  · rw [List.getElem?_set_ne (Ne.symm hj)] at q ⊢
    exact h.at_ j dv q⟩
theorem Slots.setr (h : Slots K H σ Γ) (i : Nat) {a : Addr} : Slots K H (σ.set i (some (.ref a))) (Γ.set i (.r a)) := ⟨by rw [List.length_set, List.length_set, h.len], fun j dv q => by
  by_cases hj : j = i
  · subst hj
    have hl : j < Γ.length := by
      have := (List.getElem?_eq_some_iff.mp q).1
      simpa using this
    rw [List.getElem?_set_self hl] at q
    cases q
    exact ⟨_, List.getElem?_set_self (by rw [h.len]; exact hl), rfl⟩
  · rw [List.getElem?_set_ne (Ne.symm hj)] at q ⊢
    exact h.at_ j dv q⟩
theorem Slots.no (h : Slots K H σ Γ) (i : Nat) {x : Option V} : Slots K H (σ.set i x) (Γ.set i .no) := ⟨by rw [List.length_set, List.length_set, h.len], fun j dv q => by
  by_cases hj : j = i
  · subst hj
    have hl : j < Γ.length := by
      have := (List.getElem?_eq_some_iff.mp q).1
      simpa using this
    rw [List.getElem?_set_self hl] at q
    cases q
    exact ⟨_, List.getElem?_set_self (by rw [h.len]; exact hl), trivial⟩
  · rw [List.getElem?_set_ne (Ne.symm hj)] at q ⊢
    exact h.at_ j dv q⟩
theorem pmp {α β : Type} {F G : α → β → Prop} : ∀ {l₁ : List α} {l₂ : List β}, Paired F l₁ l₂ → (∀ a b, F a b → G a b) → Paired G l₁ l₂
  | _, _, .nil, _ => .nil
  | _, _, .cons r t, f => .cons (f _ _ r) (pmp t f)
theorem MOk.up (e : Same Ho Ho') {a : Addr} (e2 : ∀ o, H a = some o → H' a = some o) {m : MO} (h : MOk K Ho H a m) : MOk K Ho' H' a m := by
  cases m with
  | lst ds => obtain ⟨xs, h1, h2⟩ := h; exact ⟨xs, e2 _ h1, h2.up e⟩
  | dK kvs => obtain ⟨xs, h1, h2⟩ := h; exact ⟨xs, e2 _ h1, pmp h2 fun _ _ z => ⟨z.1, z.2.up e⟩⟩
  | dT kvs => obtain ⟨xs, h1, h2⟩ := h; exact ⟨xs, e2 _ h1, pmp h2 fun _ _ z => ⟨z.1, z.2.up e⟩⟩
  | ins C fs => obtain ⟨dx, gs, h1, h2⟩ := h; exact ⟨dx, gs, e2 _ h1, pmp h2 fun _ _ z => ⟨z.1, z.2.up e⟩⟩
theorem MOk.ne {a : Addr} {m : MO} (h : MOk K Ho H a m) : H a ≠ none := by
  cases m with
  | lst ds => obtain ⟨xs, h1, h2⟩ := h; rw [h1]; simp
  | dK kvs => obtain ⟨xs, h1, h2⟩ := h; rw [h1]; simp
  | dT kvs => obtain ⟨xs, h1, h2⟩ := h; rw [h1]; simp
  | ins C fs => obtain ⟨dx, gs, h1, h2⟩ := h; rw [h1]; simp
theorem Fr.dom (h : Fr W H) {a : Addr} (q : W.H0 a ≠ none) : H a ≠ none := by
  by_cases hr : W.isRow a
  · obtain ⟨scr, ns, e⟩ := hr
    obtain ⟨i, s, q, e1, _⟩ := h.row _ _ _ e
    rw [e1]; simp
  · cases e : W.H0 a with
    | none => exact absurd e q
    | some o => rw [h.keep a o hr e]; simp
theorem Fr.same (h : Fr W H) (e : Same H H') : Fr W H' := ⟨fun a o n q => e a o (h.keep a o n q), fun r scr ns q => by
  obtain ⟨i, s, z, e1, e2⟩ := h.row r scr ns q
  exact ⟨i, s, z, e _ _ e1, e2⟩⟩
theorem Rep.ne (R : Rep K W Γ μ σ H) : ∀ a ∈ hd W μ, H a ≠ none := fun a ha => by
  rcases List.mem_append.mp ha with h | h
  · exact R.fr.dom (R.wd.hid a h)
  · obtain ⟨p, hp, rfl⟩ := List.mem_map.mp h
    exact (R.mu p hp).2.ne
/-- all is kept -/
theorem Rep.same (R : Rep K W Γ μ σ H) (e : Same H H') : Rep K W Γ μ σ H' :=
  ⟨R.wd, R.fr.same e, R.sl.up (XT.same e), fun p hp => ⟨(R.mu p hp).1, (R.mu p hp).2.up (XT.same e) (e _)⟩, R.nd⟩
/-- a new object is no hidden one -/
theorem new_out {L : List Addr} (hL : ∀ a ∈ L, H a ≠ none) {p : Addr} (hp : H p = none) : p ∉ L := fun q => hL p q hp
theorem same_new {p : Addr} {o : HO} (hp : H p = none) : Same H (upd H p o) := fun b u e => by
  rw [upd_ne (ne_of_none e hp)]
  exact e
theorem off_upd {L : List Addr} {p : Addr} {o : HO} (h : p ∉ L) : off L (upd H p o) p = some o := by rw [off_out h, upd_same]

/-- the world grows: what stands now must stay -/
structure Wle (W W' : Wd) : Prop where
  m : ∀ a ∈ W.M, a ∈ W'.M
  row : W'.row = W.row
  keep : ∀ a o, ¬ W.isRow a → W.H0 a = some o → W'.H0 a = some o
theorem Wle.refl {W : Wd} : Wle W W := ⟨fun _ h => h, rfl, fun _ _ _ h => h⟩
theorem Wle.isRow {W W' : Wd} (l : Wle W W') (a : Addr) : W'.isRow a ↔ W.isRow a := by
  unfold Wd.isRow
  rw [l.row]
theorem Wle.trans {W W1 W2 : Wd} (a : Wle W W1) (b : Wle W1 W2) : Wle W W2 :=
  ⟨fun x h => b.m x (a.m x h), b.row.trans a.row, fun x o n h => b.keep x o (fun q => n ((a.isRow x).mp q)) (a.keep x o n h)⟩
theorem Fr.down {W W' : Wd} (l : Wle W W') (h : Fr W' H) : Fr W H :=
  ⟨fun a o n q => h.keep a o (fun z => n ((l.isRow a).mp z)) (l.keep a o n q), fun r scr ns q => h.row r scr ns (l.row.trans q)⟩
/-- from the grown world back, where the local objects are new to the smaller one -/
theorem Rep.down {W W' : Wd} (l : Wle W W') (ok : WdOk K W) (hm : ∀ p ∈ μ, W.H0 p.1 = none) (R : Rep K W' Γ μ σ H) : Rep K W Γ μ σ H := by
  have e : Same (off (hd W' μ) H) (off (hd W μ) H) := same_offs fun a ha => by
    rcases List.mem_append.mp ha with h | h
    · exact List.mem_append_left _ (l.m a h)
    · exact List.mem_append_right _ h
  exact ⟨ok, R.fr.down l, R.sl.up e, fun p hp => ⟨hm p hp, (R.mu p hp).2.up e fun _ z => z⟩, R.nd⟩
/-- the world as it stands: everything but the local objects and the row must stay -/
def Wd.now (W : Wd) (μ : Mu) (H : Hp) : Wd := { W with H0 := off (μ.map (·.1)) H }
theorem Rep.mu_new (R : Rep K W Γ μ σ H) {a : Addr} (h : W.H0 a ≠ none) : a ∉ μ.map (·.1) := fun q => by
  obtain ⟨p, hp, rfl⟩ := List.mem_map.mp q
  exact h (R.mu p hp).1
theorem Rep.now_le (R : Rep K W Γ μ σ H) : Wle W (W.now μ H) := ⟨fun _ h => h, rfl, fun a o n h => by
  have q : a ∉ μ.map (·.1) := R.mu_new (by rw [h]; simp)
  show off (μ.map (·.1)) H a = some o
  rw [off_out q]
  exact R.fr.keep a o n h⟩
theorem SqL.up {a : Addr} {xs : List V} (e : ∀ o, H a = some o → H' a = some o) (h : SqL K H a xs) : SqL K H' a xs := by
  rcases h with (h | ⟨o, h⟩) | h
  · exact .inl (.inl (e _ h))
  · exact .inl (.inr ⟨o, e _ h⟩)
  · exact .inr h
theorem Rep.now_ok (R : Rep K W Γ μ σ H) : WdOk K (W.now μ H) := ⟨fun a ha => by
  show off (μ.map (·.1)) H a ≠ none
  rw [off_out (R.mu_new (R.wd.hid a ha))]
  exact R.fr.dom (R.wd.hid a ha), fun r scr ns q => by
  obtain ⟨h1, h2, h3, h4⟩ := R.wd.row r scr ns q
  refine ⟨h1, SqL.up (fun o e => ?_) h2, h3, h4⟩
  show off (μ.map (·.1)) H scr = some o
  rw [off_out (R.mu_new (by rw [e]; simp))]
  refine R.fr.keep scr o (fun ⟨s2, n2, z⟩ => ?_) e
  have q' : W.row = some (r, scr, ns) := q
  rw [q'] at z
  cases z
  exact h3 rfl⟩
theorem Rep.now (R : Rep K W Γ μ σ H) : Rep K (W.now μ H) Γ μ σ H :=
  ⟨R.now_ok, ⟨fun a o n q => (off_some q).2, R.fr.row⟩, R.sl, fun p hp => ⟨off_in (List.mem_map.mpr ⟨p, hp, rfl⟩), (R.mu p hp).2⟩, R.nd⟩
end
end HW
set_option maxHeartbeats 4000000
namespace HW
open PySem PySem.Spec PyProof.Rows L2
/-! ### judgements -/
/-- what e wants -/
def wE (X : Cx) (e : Expr) : TE := fun σ H Q => ∀ (pins : List (Addr × Obj)) (s : Shared), Inv X pins σ H s → wpAny (model X.prog X.w) X.A (eval e X.env) (EP X pins σ Q) X.xe s
theorem wE.pe {X : Cx} {e : Expr} : PE X e (wE X e) := ⟨fun pins s _ _ _ I h => h pins s I⟩
theorem _root_.L2.PE.w {X : Cx} {e : Expr} {t : TE} (h : PE X e t) {σ : L2.St} {H : Hp} {Q : VK} (q : t σ H Q) : wE X e σ H Q := fun pins s I => h.run pins s σ H Q I q
def wA (X : Cx) (es : List Expr) : TA := fun σ H Q => ∀ (pos : Pos) (pins : List (Addr × Obj)) (s : Shared), Inv X pins σ H s → wpAny (model X.prog X.w) X.A (spliced (backTo pos (starEach es X.env))) (AP X pins σ Q) X.xe s
theorem wA.pa {X : Cx} {es : List Expr} : PA X es (wA X es) := ⟨fun pos pins s _ _ _ I h => h pos pins s I⟩
theorem _root_.L2.PA.w {X : Cx} {es : List Expr} {t : TA} (h : PA X es t) {σ : L2.St} {H : Hp} {Q : List V → Hp → Prop} (q : t σ H Q) : wA X es σ H Q := fun pos pins s I => h.run pos pins s σ H Q I q
def wT (X : Cx) (e : Expr) : TT := fun σ H Q => ∀ (pins : List (Addr × Obj)) (s : Shared), Inv X pins σ H s → wpAny (model X.prog X.w) X.A (isTrue e X.env (eval e X.env)) (TP X pins σ Q) X.xe s
theorem wT.pt {X : Cx} {e : Expr} : PT X e (wT X e) := ⟨fun pins s _ _ _ I h => h pins s I⟩
theorem _root_.L2.PT.w {X : Cx} {e : Expr} {t : TT} (h : PT X e t) {σ : L2.St} {H : Hp} {Q : Bool → Hp → Prop} (q : t σ H Q) : wT X e σ H Q := fun pins s I => h.run pins s σ H Q I q
def wS (X : Cx) (st : Stmt) : TS := fun D σ H => ∀ (pins : List (Addr × Obj)) (s : Shared), Inv X pins σ H s → wpAny (model X.prog X.w) X.A (exec st X.env) (SP X pins D) X.xe s
theorem wS.ps {X : Cx} {st : Stmt} : PS X st (wS X st) := ⟨fun pins s _ _ _ I h => h pins s I⟩
theorem _root_.L2.PS.w {X : Cx} {st : Stmt} {t : TS} (h : PS X st t) {σ : L2.St} {H : Hp} {D : Ends} (q : t D σ H) : wS X st D σ H := fun pins s I => h.run pins s σ H D I q
def wSs (X : Cx) (sts : List Stmt) : TS := fun D σ H => ∀ (pins : List (Addr × Obj)) (s : Shared), Inv X pins σ H s → wpAny (model X.prog X.w) X.A (execs sts X.env) (SP X pins D) X.xe s
theorem wSs.ps {X : Cx} {sts : List Stmt} : PSs X sts (wSs X sts) := ⟨fun pins s _ _ _ I h => h pins s I⟩
theorem _root_.L2.PSs.w {X : Cx} {sts : List Stmt} {t : TS} (h : PSs X sts t) {σ : L2.St} {H : Hp} {D : Ends} (q : t D σ H) : wSs X sts D σ H := fun pins s I => h.run pins s σ H D I q
/-- one statement, then the rest -/
theorem wSs_cons {X : Cx} {st : Stmt} {rest : List Stmt} {σ : L2.St} {H : Hp} {D : Ends} (h : wS X st { D with nx := wSs X rest D } σ H) : wSs X (st :: rest) D σ H := (pss_cons wS.ps wSs.ps).w h

/-- e gives data with P -/
def Ev (X : Cx) (W : Wd) (Γ : List DV) (μ : Mu) (e : Expr) (P : PyData → Prop) : Prop :=
  ∀ σ H, Rep X.K W Γ μ σ H → ∀ Q : VK, (∀ v d H2, Rep X.K W Γ μ σ H2 → XT (hd W μ) H H2 → Va X.K (off (hd W μ) H2) v d → P d → Q v H2) → wE X e σ H Q
def Ed (X : Cx) (W : Wd) (Γ : List DV) (μ : Mu) (e : Expr) (d : PyData) : Prop :=
  ∀ σ H, Rep X.K W Γ μ σ H → ∀ Q : VK, (∀ v H2, Rep X.K W Γ μ σ H2 → XT (hd W μ) H H2 → Va X.K (off (hd W μ) H2) v d → Q v H2) → wE X e σ H Q
def EvA (X : Cx) (W : Wd) (Γ : List DV) (μ : Mu) (es : List Expr) (P : List PyData → Prop) : Prop :=
  ∀ σ H, Rep X.K W Γ μ σ H → ∀ Q : List V → Hp → Prop, (∀ vs ds H2, Rep X.K W Γ μ σ H2 → XT (hd W μ) H H2 → VaAll X.K (off (hd W μ) H2) vs ds → P ds → Q vs H2) → wA X es σ H Q
def EdA (X : Cx) (W : Wd) (Γ : List DV) (μ : Mu) (es : List Expr) (ds : List PyData) : Prop :=
  ∀ σ H, Rep X.K W Γ μ σ H → ∀ Q : List V → Hp → Prop, (∀ vs H2, Rep X.K W Γ μ σ H2 → XT (hd W μ) H H2 → VaAll X.K (off (hd W μ) H2) vs ds → Q vs H2) → wA X es σ H Q
/-- e as a test gives b; gives a b with P -/
def EdT (X : Cx) (W : Wd) (Γ : List DV) (μ : Mu) (e : Expr) (b : Bool) : Prop :=
  ∀ σ H, Rep X.K W Γ μ σ H → ∀ Q : Bool → Hp → Prop, (∀ H2, Rep X.K W Γ μ σ H2 → XT (hd W μ) H H2 → Q b H2) → wT X e σ H Q
def EvT (X : Cx) (W : Wd) (Γ : List DV) (μ : Mu) (e : Expr) (P : Bool → Prop) : Prop :=
  ∀ σ H, Rep X.K W Γ μ σ H → ∀ Q : Bool → Hp → Prop, (∀ b H2, Rep X.K W Γ μ σ H2 → XT (hd W μ) H H2 → P b → Q b H2) → wT X e σ H Q
/-- and, or: whatever the 'whole' is -/
def wW (X : Cx) (e : Expr) : TT := fun σ H Q => ∀ (whole : Sem Value) (pins : List (Addr × Obj)) (s : Shared), Inv X pins σ H s → wpAny (model X.prog X.w) X.A (isTrue e X.env whole) (TP X pins σ Q) X.xe s
theorem wW.pw {X : Cx} {e : Expr} : PW X e (wW X e) := ⟨fun whole pins s _ _ _ I h => h whole pins s I⟩
theorem _root_.L2.PW.w {X : Cx} {e : Expr} {t : TT} (h : PW X e t) {σ : L2.St} {H : Hp} {Q : Bool → Hp → Prop} (q : t σ H Q) : wW X e σ H Q := fun whole pins s I => h.run whole pins s σ H Q I q
def EdW (X : Cx) (W : Wd) (Γ : List DV) (μ : Mu) (e : Expr) (b : Bool) : Prop :=
  ∀ σ H, Rep X.K W Γ μ σ H → ∀ Q : Bool → Hp → Prop, (∀ H2, Rep X.K W Γ μ σ H2 → XT (hd W μ) H H2 → Q b H2) → wW X e σ H Q
def EvW (X : Cx) (W : Wd) (Γ : List DV) (μ : Mu) (e : Expr) (P : Bool → Prop) : Prop :=
  ∀ σ H, Rep X.K W Γ μ σ H → ∀ Q : Bool → Hp → Prop, (∀ b H2, Rep X.K W Γ μ σ H2 → XT (hd W μ) H H2 → P b → Q b H2) → wW X e σ H Q

section
variable {X : Cx} {W : Wd} {Γ : List DV} {μ : Mu} {e a b : Expr} {es : List Expr} {d x y z : PyData} {ds : List PyData} {P A B C : PyData → Prop} {pos : Pos}
theorem Ed.ev (h : Ed X W Γ μ e d) : Ev X W Γ μ e (fun z => z = d) := fun σ H R Q k => h σ H R Q fun v H2 R2 x2 r => k v d H2 R2 x2 r rfl
theorem Ed.evP (h : Ed X W Γ μ e d) (p : P d) : Ev X W Γ μ e P := fun σ H R Q k => h σ H R Q fun v H2 R2 x2 r => k v d H2 R2 x2 r p
theorem Ev.ed (h : Ev X W Γ μ e (fun z => z = d)) : Ed X W Γ μ e d := fun σ H R Q k => h σ H R Q fun v d' H2 R2 x2 r e => k v H2 R2 x2 (e ▸ r)
theorem Ev.imp (h : Ev X W Γ μ e A) (i : ∀ d, A d → B d) : Ev X W Γ μ e B := fun σ H R Q k => h σ H R Q fun v d H2 R2 x2 r p => k v d H2 R2 x2 r (i d p)
theorem Ed.to (h : Ed X W Γ μ e x) (q : x = y) : Ed X W Γ μ e y := q ▸ h
theorem EdA.ev {ds : List PyData} {P : List PyData → Prop} (h : EdA X W Γ μ es ds) (p : P ds) : EvA X W Γ μ es P := fun σ H R Q k => h σ H R Q fun v H2 R2 x2 r => k v ds H2 R2 x2 r p
theorem EdT.ev {b : Bool} {P : Bool → Prop} (h : EdT X W Γ μ e b) (p : P b) : EvT X W Γ μ e P := fun σ H R Q k => h σ H R Q fun H2 R2 x2 => k b H2 R2 x2 p
theorem EdT.to {b b' : Bool} (h : EdT X W Γ μ e b) (q : b = b') : EdT X W Γ μ e b' := q ▸ h
theorem EvT.imp {A B : Bool → Prop} (h : EvT X W Γ μ e A) (i : ∀ b, A b → B b) : EvT X W Γ μ e B := fun σ H R Q k => h σ H R Q fun b H2 R2 x2 p => k b H2 R2 x2 (i b p)

/-! ### names, constants -/
/-- a local name -/
theorem vr (i : Nat) {n : Str} (hd_ : Γ[i]? = some (.d d) := by rfl) (hN : X.N[i]? = some n := by rfl) (hv : Vis X.env.scope n := by first | exact Or.inl rfl | exact Or.inr (Or.inl rfl) | exact Or.inr (Or.inr rfl))
    (h1 : (n == ("__debug__" : Str)) = false := by decide) (h2 : (n == ("__classdict__" : Str)) = false := by decide) : Ed X W Γ μ (.Name n pos) d := fun σ H R Q k => by
  obtain ⟨o, e1, v, e2, r⟩ := R.sl.at_ i _ hd_
  subst e2
  exact (pe_var hN hv h1 h2).w ⟨v, e1, k v H R XT.refl r⟩
theorem ed_c {v : V} (h : PE X e (tC v)) (r : ∀ H, Va X.K H v d) : Ed X W Γ μ e d := fun σ H R Q k => h.w (k v H R XT.refl (r _))
theorem ed_int {i : Int} {j p} : Ed X W Γ μ (.Constant (.int i) j p) (.int i) := ed_c pe_int fun _ => .int i
theorem ed_bl {i : Bool} {j p} : Ed X W Γ μ (.Constant (.bool i) j p) (.bool i) := ed_c pe_bl fun _ => .bl i
theorem ed_non {j p} : Ed X W Γ μ (.Constant .none j p) .none := ed_c pe_non fun _ => .non
theorem ed_str {i : Str} {j p} : Ed X W Γ μ (.Constant (.str i) j p) (.str i) := ed_c pe_str fun _ => .str i
/-- a constant of the module -/
theorem ed_gstr {n z : Str} (hm : ∃ t, X.mg n = some (.str z t)) (hg : Gl X n := by rfl) (h1 : (n == ("__debug__" : Str)) = false := by decide) : Ed X W Γ μ (.Name n pos) (.str z) := by
  obtain ⟨t, hm⟩ := hm
  exact ed_c (pe_glob hg hm (v := .str z) ⟨t, rfl⟩ h1) fun _ => .str z
theorem ed_gint {n : Str} {z : Int} (hm : ∃ t, X.mg n = some (.int z t)) (hg : Gl X n := by rfl) (h1 : (n == ("__debug__" : Str)) = false := by decide) : Ed X W Γ μ (.Name n pos) (.int z) := by
  obtain ⟨t, hm⟩ := hm
  exact ed_c (pe_glob hg hm (v := .int z) ⟨t, rfl⟩ h1) fun _ => .int z

/-! ### two values -/
/-- on the data x and y, z comes -/
def rD (K : PySem.W.Frag) (x y z : PyData) : R2 := fun a b H Q => ∃ L : List Addr, (∀ l ∈ L, H l ≠ none) ∧ Va K (off L H) a x ∧ Va K (off L H) b y ∧ ∀ v H2, Same H H2 → Va K (off L H2) v z → Q v H2
def OpD (X : Cx) (f : Value → Value → Sem Value) (x y z : PyData) : Prop := OpR X f (rD X.K x y z)
theorem OpR.to {f : Value → Value → Sem Value} {r r' : R2} (h : OpR X f r) (i : ∀ a b H Q, r' a b H Q → r a b H Q) : OpR X f r' := fun pins s σ H x y v u Q I rx ry q => h pins s σ H x y v u Q I rx ry (i _ _ _ _ q)
theorem bin_ev {r : V → V → Hp → VK → Prop} (ha : Ev X W Γ μ a A) (hb : Ev X W Γ μ b B) (hz : ∀ x y, A x → B y → ∃ z, C z ∧ ∀ va vb H Q, rD X.K x y z va vb H Q → r va vb H Q) {σ : L2.St} {H : Hp} (R : Rep X.K W Γ μ σ H) {Q : VK}
    (k : ∀ v d H2, Rep X.K W Γ μ σ H2 → XT (hd W μ) H H2 → Va X.K (off (hd W μ) H2) v d → C d → Q v H2) :
    wE X a σ H fun va H1 => wE X b σ H1 fun vb H2 => r va vb H2 Q := by
  refine ha σ H R _ fun va x H1 R1 e1 r1 p1 => hb σ H1 R1 _ fun vb y H2 R2 e2 r2 p2 => ?_
  obtain ⟨z, pz, hr⟩ := hz x y p1 p2
  exact hr _ _ _ _ ⟨hd W μ, R2.ne, r1.up e2, r2, fun v H3 e3 r3 => k v z H3 (R2.same e3) ((e1.trans e2).trans (XT.same e3)) r3 pz⟩
def rAny (X : Cx) (f : Value → Value → Sem Value) : R2 := fun va vb H Q => ∃ x y z, OpD X f x y z ∧ rD X.K x y z va vb H Q
theorem rAny.ok {f : Value → Value → Sem Value} : OpR X f (rAny X f) := fun pins s σ H x y v u Q I rx ry ⟨_, _, _, o, q⟩ => o pins s σ H x y v u Q I rx ry q
def IxD (X : Cx) (x y z : PyData) : Prop := IxR X (rD X.K x y z)
def rAnyI (X : Cx) : R2 := fun va vb H Q => ∃ x y z, IxD X x y z ∧ rD X.K x y z va vb H Q
theorem rAnyI.ok : IxR X (rAnyI X) := fun e1 e2 pins s σ H x y v u Q I rx ry ⟨_, _, _, o, q⟩ hs => o e1 e2 pins s σ H x y v u Q I rx ry q hs
theorem ev_op {op : Operator} (ha : Ev X W Γ μ a A) (hb : Ev X W Γ μ b B) (hz : ∀ x y, A x → B y → ∃ z, C z ∧ OpD X (binaryOp op) x y z) : Ev X W Γ μ (.BinOp a op b pos) C := fun σ H R Q k => by
  refine (pe_op (rAny.ok (X := X)) wE.pe wE.pe).w ?_
  exact bin_ev (r := rAny X (binaryOp op)) ha hb (fun x y px py => (hz x y px py).imp fun z h => ⟨h.1, fun va vb H Q q => ⟨x, y, z, h.2, q⟩⟩) R k
theorem ed_op {op : Operator} (ha : Ed X W Γ μ a x) (hb : Ed X W Γ μ b y) (hz : OpD X (binaryOp op) x y z) : Ed X W Γ μ (.BinOp a op b pos) z :=
  (ev_op (C := fun w => w = z) ha.ev hb.ev fun _ _ e1 e2 => ⟨z, rfl, by rw [e1, e2]; exact hz⟩).ed
theorem ev_cmp {op : CmpOp} (ha : Ev X W Γ μ a A) (hb : Ev X W Γ μ b B) (hz : ∀ x y, A x → B y → ∃ z, C z ∧ OpD X (compareOp op) x y z) (hm : behindInMarks op b = false := by first | exact nomark _ | rfl) : Ev X W Γ μ (.Compare a [op] [b] pos) C := fun σ H R Q k => by
  refine (pe_cmpR (rAny.ok (X := X)) wE.pe wE.pe hm).w ?_
  exact bin_ev (r := rAny X (compareOp op)) ha hb (fun x y px py => (hz x y px py).imp fun z h => ⟨h.1, fun va vb H Q q => ⟨x, y, z, h.2, q⟩⟩) R k
theorem ed_cmp {op : CmpOp} (ha : Ed X W Γ μ a x) (hb : Ed X W Γ μ b y) (hz : OpD X (compareOp op) x y z) (hm : behindInMarks op b = false := by first | exact nomark _ | rfl) : Ed X W Γ μ (.Compare a [op] [b] pos) z :=
  (ev_cmp (C := fun w => w = z) ha.ev hb.ev (fun _ _ e1 e2 => ⟨z, rfl, by rw [e1, e2]; exact hz⟩) hm).ed
/-- a subscript -/
theorem ev_ix (ha : Ev X W Γ μ a A) (hb : Ev X W Γ μ b B) (hz : ∀ x y, A x → B y → ∃ z, C z ∧ IxD X x y z) (hs : PlainIx b := by exact fun _ _ => rfl) : Ev X W Γ μ (.Subscript a b pos) C := fun σ H R Q k => by
  refine (pe_ix (rAnyI.ok (X := X)) wE.pe wE.pe hs).w ?_
  exact bin_ev (r := rAnyI X) ha hb (fun x y px py => (hz x y px py).imp fun z h => ⟨h.1, fun va vb H Q q => ⟨x, y, z, h.2, q⟩⟩) R k
theorem ed_ix (ha : Ed X W Γ μ a x) (hb : Ed X W Γ μ b y) (hz : IxD X x y z) (hs : PlainIx b := by exact fun _ _ => rfl) : Ed X W Γ μ (.Subscript a b pos) z :=
  (ev_ix (C := fun w => w = z) ha.ev hb.ev (fun _ _ e1 e2 => ⟨z, rfl, by rw [e1, e2]; exact hz⟩) hs).ed

/-! ### tests -/
theorem et_val {k : Bool} (h : Ed X W Γ μ e (.bool k)) (he : ∀ whole, isTrue e X.env whole = (do let v ← whole; standAt e.pos; holding [v] (truthy v)) := by intro _; rfl) : EdT X W Γ μ e k := fun σ H R Q q => by
  refine (pt_val wE.pe he).w ?_
  refine h σ H R _ fun v H2 R2 e2 r => ?_
  cases r
  exact ⟨k, rfl, q H2 R2 e2⟩
end
section
variable {X : Cx} {W : Wd} {Γ : List DV} {μ : Mu} {e a b : Expr} {rest : List Expr} {pos : Pos} {x y z : PyData} {k l : Bool}
theorem tc_ev {e : Expr} {P : Bool → Prop} {A B : PyData → Prop} {op : CmpOp} (ha : Ev X W Γ μ a A) (hb : Ev X W Γ μ b B) (hz : ∀ x y, A x → B y → ∃ k, P k ∧ OpD X (compareOp op) x y (.bool k)) (hm : behindInMarks op b = false := by first | exact nomark _ | rfl) : EvT X W Γ μ (.Compare a [op] [b] pos) P := fun σ H R Q q => by
  refine (pt_cmpR (rAny.ok (X := X)) wE.pe wE.pe hm).w ?_
  refine bin_ev (r := rAny X (compareOp op)) (C := fun z => ∃ k, z = .bool k ∧ P k) ha hb (fun x y px py => ?_) R fun v d H2 R2 e2 r p => ?_
  · obtain ⟨k, pk, o⟩ := hz x y px py
    exact ⟨.bool k, ⟨k, rfl, pk⟩, fun va vb H Q q => ⟨x, y, _, o, q⟩⟩
  · obtain ⟨k, rfl, pk⟩ := p
    cases r
    exact ⟨k, rfl, q k H2 R2 e2 pk⟩
/-- a comparison as a test -/
theorem tc {op : CmpOp} (ha : Ed X W Γ μ a x) (hb : Ed X W Γ μ b y) (hz : OpD X (compareOp op) x y (.bool k)) (hm : behindInMarks op b = false := by first | exact nomark _ | rfl) : EdT X W Γ μ (.Compare a [op] [b] pos) k := fun σ H R Q q =>
  tc_ev (e := a) (P := fun z => z = k) ha.ev hb.ev (fun _ _ e1 e2 => ⟨k, rfl, by rw [e1, e2]; exact hz⟩) hm σ H R Q fun b' H2 R2 e2 p => p ▸ q H2 R2 e2
theorem t_not (h : EdT X W Γ μ a k) : EdT X W Γ μ (.UnaryOp .Not a pos) (!k) := fun σ H R Q q => (pt_not wT.pt).w (h σ H R _ fun H2 R2 e2 => q H2 R2 e2)
theorem tw_and1 (h : EdT X W Γ μ a k) : EdW X W Γ μ (.BoolOp .And [a] pos) k := fun σ H R Q q => (pw_and1 wT.pt).w (h σ H R Q q)
theorem tw_or1 (h : EdT X W Γ μ a k) : EdW X W Γ μ (.BoolOp .Or [a] pos) k := fun σ H R Q q => (pw_or1 wT.pt).w (h σ H R Q q)
theorem tw_and (h : EdT X W Γ μ a k) (h2 : k = true → EdW X W Γ μ (.BoolOp .And (b :: rest) pos) l) : EdW X W Γ μ (.BoolOp .And (a :: b :: rest) pos) (k && l) := fun σ H R Q q => (pw_and wT.pt wW.pw).w (h σ H R _ fun H2 R2 e2 => by
  cases k with
  | true => exact iteT (h2 rfl σ H2 R2 Q fun H3 R3 e3 => q H3 R3 (e2.trans e3))
  | false => exact iteF (q H2 R2 e2))
theorem tw_or (h : EdT X W Γ μ a k) (h2 : k = false → EdW X W Γ μ (.BoolOp .Or (b :: rest) pos) l) : EdW X W Γ μ (.BoolOp .Or (a :: b :: rest) pos) (k || l) := fun σ H R Q q => (pw_or wT.pt wW.pw).w (h σ H R _ fun H2 R2 e2 => by
  cases k with
  | true => exact iteT (q H2 R2 e2)
  | false => exact iteF (h2 rfl σ H2 R2 Q fun H3 R3 e3 => q H3 R3 (e2.trans e3)))
theorem EdW.t (h : EdW X W Γ μ e k) : EdT X W Γ μ e k := fun σ H R Q q => wW.pw.pt.w (h σ H R Q q)
theorem t_and (h : EdT X W Γ μ a k) (h2 : k = true → EdT X W Γ μ b l) : EdT X W Γ μ (.BoolOp .And [a, b] pos) (k && l) := (tw_and h fun e => tw_and1 (h2 e)).t
theorem t_or (h : EdT X W Γ μ a k) (h2 : k = false → EdT X W Γ μ b l) : EdT X W Γ μ (.BoolOp .Or [a, b] pos) (k || l) := (tw_or h fun e => tw_or1 (h2 e)).t
/-- with open answers -/
theorem tvw_and1 {P : Bool → Prop} (h : EvT X W Γ μ a P) : EvW X W Γ μ (.BoolOp .And [a] pos) P := fun σ H R Q q => (pw_and1 wT.pt).w (h σ H R Q q)
theorem tvw_and {A P : Bool → Prop} (h : EvT X W Γ μ a A) (h2 : A true → EvW X W Γ μ (.BoolOp .And (b :: rest) pos) P) (h3 : A false → P false) : EvW X W Γ μ (.BoolOp .And (a :: b :: rest) pos) P := fun σ H R Q q => (pw_and wT.pt wW.pw).w (h σ H R _ fun k H2 R2 e2 p => by
  cases k with
  | true => exact iteT (h2 p σ H2 R2 Q fun b H3 R3 e3 p3 => q b H3 R3 (e2.trans e3) p3)
  | false => exact iteF (q false H2 R2 e2 (h3 p)))
theorem EvW.t {P : Bool → Prop} (h : EvW X W Γ μ e P) : EvT X W Γ μ e P := fun σ H R Q q => wW.pw.pt.w (h σ H R Q q)
/-- .. as values -/
theorem ed_one {op} (h : Ed X W Γ μ a x) : Ed X W Γ μ (.BoolOp op [a] pos) x := fun σ H R Q q => (pe_one wE.pe).w (h σ H R Q q)
theorem ed_and (h : Ed X W Γ μ a (.bool k)) (h2 : k = true → Ed X W Γ μ (.BoolOp .And (b :: rest) pos) (.bool l)) : Ed X W Γ μ (.BoolOp .And (a :: b :: rest) pos) (.bool (k && l)) := fun σ H R Q q => (pe_and wE.pe wE.pe).w (h σ H R _ fun v H2 R2 e2 r => by
  cases r
  refine ⟨k, rfl, ?_⟩
  cases k with
  | true => exact iteT (h2 rfl σ H2 R2 Q fun v H3 R3 e3 r3 => q v H3 R3 (e2.trans e3) r3)
  | false => exact iteF (q _ H2 R2 e2 (.bl false)))
theorem ed_not (h : Ed X W Γ μ a (.bool k)) : Ed X W Γ μ (.UnaryOp .Not a pos) (.bool (!k)) := fun σ H R Q q => (pe_not wE.pe).w (h σ H R _ fun v H2 R2 e2 r => by
  cases r
  exact ⟨k, rfl, q _ H2 R2 e2 (.bl _)⟩)
theorem ed_if {c : Expr} (h : EdT X W Γ μ c k) (h1 : k = true → Ed X W Γ μ a x) (h2 : k = false → Ed X W Γ μ b y) : Ed X W Γ μ (.IfExp c a b pos) (if k = true then x else y) := fun σ H R Q q => (pe_ifExp wT.pt wE.pe wE.pe).w (h σ H R _ fun H2 R2 e2 => by
  cases k with
  | true =>
    rw [if_pos rfl] at q
    exact iteT (h1 rfl σ H2 R2 Q fun v H3 R3 e3 r3 => q v H3 R3 (e2.trans e3) r3)
  | false =>
    rw [if_neg Bool.false_ne_true] at q
    exact iteF (h2 rfl σ H2 R2 Q fun v H3 R3 e3 r3 => q v H3 R3 (e2.trans e3) r3))
theorem ed_chain {c : Expr} {op op' : CmpOp} {w : PyData} (ha : Ed X W Γ μ a x) (hb : Ed X W Γ μ b y) (hc : k = true → Ed X W Γ μ c w) (hz : OpD X (compareOp op) x y (.bool k)) (hz' : OpD X (compareOp op') y w (.bool l)) (hm : lastMarks [op, op'] [b, c] = false := by with_unfolding_all rfl) :
    Ed X W Γ μ (.Compare a [op, op'] [b, c] pos) (.bool (k && l)) := fun σ H R Q q => (pe_chain hz hz' wE.pe wE.pe wE.pe hm).w (ha σ H R _ fun v H2 R2 e2 r2 => hb σ H2 R2 _ fun u H3 R3 e3 r3 => ⟨hd W μ, R3.ne, r2.up e3, r3, fun t H4 e4 r4 => by
  cases r4
  refine ⟨k, rfl, ?_⟩
  have R4 := R3.same e4
  cases k with
  | true =>
    refine iteT (hc rfl σ H4 R4 _ fun t H5 R5 e5 r5 => ⟨hd W μ, R5.ne, (r3.up (XT.same e4)).up e5, r5, fun t' H6 e6 r6 => q t' H6 (R5.same e6) ((((e2.trans e3).trans (XT.same e4)).trans e5).trans (XT.same e6)) r6⟩)
  | false => exact iteF (q _ H4 R4 ((e2.trans e3).trans (XT.same e4)) (.bl false))⟩)

theorem tc_chain {c : Expr} {op op' : CmpOp} {w : PyData} (ha : Ed X W Γ μ a x) (hb : Ed X W Γ μ b y) (hc : k = true → Ed X W Γ μ c w) (hz : OpD X (compareOp op) x y (.bool k)) (hz' : OpD X (compareOp op') y w (.bool l)) (hm : lastMarks [op, op'] [b, c] = false := by with_unfolding_all rfl) :
    EdT X W Γ μ (.Compare a [op, op'] [b, c] pos) (k && l) := fun σ H R Q q => (pt_chain hz hz' wE.pe wE.pe wE.pe hm).w (ha σ H R _ fun v H2 R2 e2 r2 => hb σ H2 R2 _ fun u H3 R3 e3 r3 => ⟨hd W μ, R3.ne, r2.up e3, r3, fun t H4 e4 r4 => by
  cases r4
  refine ⟨k, rfl, ?_⟩
  have R4 := R3.same e4
  cases k with
  | true =>
    refine iteT (hc rfl σ H4 R4 _ fun t H5 R5 e5 r5 => ⟨hd W μ, R5.ne, (r3.up (XT.same e4)).up e5, r5, fun t' H6 e6 r6 => ?_⟩)
    cases r6
    exact ⟨l, rfl, q H6 (R5.same e6) ((((e2.trans e3).trans (XT.same e4)).trans e5).trans (XT.same e6))⟩
  | false => exact iteF ⟨false, rfl, q H4 R4 ((e2.trans e3).trans (XT.same e4))⟩⟩)

/-! ### arguments, calls -/
theorem ea_nil : EdA X W Γ μ [] [] := fun σ H R Q q => pa_nil.w (q [] H R XT.refl .nil)
theorem ea_cons {es : List Expr} {ds : List PyData} (h : Ed X W Γ μ e x) (hr : EdA X W Γ μ es ds) (hs : starEach (e :: es) X.env = (false, eval e X.env) :: starEach es X.env := by rfl) : EdA X W Γ μ (e :: es) (x :: ds) := fun σ H R Q q =>
  (pa_cons wE.pe wA.pa hs).w (h σ H R _ fun v H2 R2 e2 r2 => hr σ H2 R2 _ fun vs H3 R3 e3 r3 => q _ H3 R3 (e2.trans e3) (.cons (r2.up e3) r3))
theorem eva_cons {es : List Expr} {A : PyData → Prop} {As : List PyData → Prop} (h : Ev X W Γ μ e A) (hr : EvA X W Γ μ es As) (hs : starEach (e :: es) X.env = (false, eval e X.env) :: starEach es X.env := by rfl) : EvA X W Γ μ (e :: es) (fun l => ∃ x r, l = x :: r ∧ A x ∧ As r) := fun σ H R Q q =>
  (pa_cons wE.pe wA.pa hs).w (h σ H R _ fun v d H2 R2 e2 r2 p2 => hr σ H2 R2 _ fun vs ds H3 R3 e3 r3 p3 => q _ _ H3 R3 (e2.trans e3) (.cons (r2.up e3) r3) ⟨_, _, rfl, p2, p3⟩)
theorem eva_nil : EvA X W Γ μ [] (fun l => l = []) := fun σ H R Q q => pa_nil.w (q [] [] H R XT.refl .nil rfl)
/-- a tuple, a list displayed -/
theorem ed_tup {es : List Expr} {ds : List PyData} {x1} (h : EdA X W Γ μ es ds) (hl : ds.length ≤ 1000) : Ed X W Γ μ (.Tuple es x1 pos) (.tuple ds) := fun σ H R Q q =>
  (pe_tup wA.pa).w (h σ H R _ fun vs H2 R2 e2 r2 => ⟨by rw [r2.length]; exact Nat.le_trans hl (by decide), fun p hp => by
    have s := same_new (o := .tup vs) hp
    exact q _ _ (R2.same s) (e2.trans (XT.same s)) (.tup (.inl (.inl (off_upd (new_out R2.ne hp)))) (r2.up (XT.same s)))⟩)
theorem ed_lst {es : List Expr} {ds : List PyData} (h : EdA X W Γ μ es ds) (hl : ds.length ≤ 1000) : Ed X W Γ μ (.List es pos) (.list ds) := fun σ H R Q q =>
  (pe_lst wA.pa).w (h σ H R _ fun vs H2 R2 e2 r2 => ⟨by rw [r2.length]; exact Nat.le_trans hl (by decide), fun p hp => by
    have s := same_new (o := .lst vs) hp
    exact q _ _ (R2.same s) (e2.trans (XT.same s)) (.lst (off_upd (new_out R2.ne hp)) (r2.up (XT.same s)))⟩)
/-- a built-in function on data -/
def rDc (K : PySem.W.Frag) (ds : List PyData) (z : PyData) : List V → Hp → VK → Prop := fun vs H Q => ∃ L : List Addr, (∀ l ∈ L, H l ≠ none) ∧ VaAll K (off L H) vs ds ∧ ∀ v H2, Same H H2 → Va K (off L H2) v z → Q v H2
def CallD (X : Cx) (f : Value) (ds : List PyData) (z : PyData) : Prop := CallR X f (rDc X.K ds z)
theorem CallR.to {f : Value} {r r' : List V → Hp → VK → Prop} (h : CallR X f r) (i : ∀ vs H Q, r' vs H Q → r vs H Q) : CallR X f r' := fun pins s σ H vs us Q I rv q => h pins s σ H vs us Q I rv (i _ _ _ q)
theorem ev_callB {n : Str} {id : String} {es : List Expr} {As : List PyData → Prop} {C : PyData → Prop} {p : Pos} (hm : X.mg n = none) (hv : bootBuiltins n = some (.builtin id)) (ha : EvA X W Γ μ (e :: es) As) (hz : ∀ ds, As ds → ∃ z, C z ∧ CallD X (.builtin id) ds z) (hg : Gl X n := by rfl)
    (hn : n ≠ "__name__" := by decide) (hdb : (n == ("__debug__" : Str)) = false := by decide)
    (he : starEach (e :: es) X.env = (false, eval e X.env) :: starEach es X.env := by rfl) (hpl : (backTo pos (starEach es X.env)).any (·.1) = false := by rfl) : Ev X W Γ μ (.Call (.Name n p) (e :: es) [] pos) C := fun σ H R Q q =>
  (pe_callB (r := fun vs H Q => ∃ ds z, CallD X (.builtin id) ds z ∧ rDc X.K ds z vs H Q) (fun pins s σ H vs us Q I rv ⟨_, _, o, q⟩ => o pins s σ H vs us Q I rv q) hg hm hv wA.pa hn hdb he hpl).w
    (ha σ H R _ fun vs ds H2 R2 e2 r2 p2 => by
      obtain ⟨z, pz, o⟩ := hz ds p2
      exact ⟨ds, z, o, hd W μ, R2.ne, r2, fun v H3 e3 r3 => q v z H3 (R2.same e3) (e2.trans (XT.same e3)) r3 pz⟩)
theorem ed_callB {n : Str} {id : String} {es : List Expr} {ds : List PyData} {p : Pos} (hm : X.mg n = none) (hv : bootBuiltins n = some (.builtin id)) (ha : EdA X W Γ μ (e :: es) ds) (hz : CallD X (.builtin id) ds z) (hg : Gl X n := by rfl)
    (hn : n ≠ "__name__" := by decide) (hdb : (n == ("__debug__" : Str)) = false := by decide)
    (he : starEach (e :: es) X.env = (false, eval e X.env) :: starEach es X.env := by rfl) (hpl : (backTo pos (starEach es X.env)).any (·.1) = false := by rfl) : Ed X W Γ μ (.Call (.Name n p) (e :: es) [] pos) z :=
  (ev_callB (C := fun w => w = z) hm hv (ha.ev (P := fun l => l = ds) rfl) (fun _ e => ⟨z, rfl, e ▸ hz⟩) hg hn hdb he hpl).ed
theorem ev_callT {n : Str} {id : String} {es : List Expr} {As : List PyData → Prop} {C : PyData → Prop} {p : Pos} (hm : X.mg n = none) (hv : bootBuiltins n = some (.type id)) (ha : EvA X W Γ μ (e :: es) As) (hz : ∀ ds, As ds → ∃ z, C z ∧ CallD X (.type id) ds z) (hg : Gl X n := by rfl)
    (hn : n ≠ "__name__" := by decide) (hdb : (n == ("__debug__" : Str)) = false := by decide)
    (he : starEach (e :: es) X.env = (false, eval e X.env) :: starEach es X.env := by rfl) (hpl : (backTo pos (starEach es X.env)).any (·.1) = false := by rfl) : Ev X W Γ μ (.Call (.Name n p) (e :: es) [] pos) C := fun σ H R Q q =>
  (pe_callTy (r := fun vs H Q => ∃ ds z, CallD X (.type id) ds z ∧ rDc X.K ds z vs H Q) (fun pins s σ H vs us Q I rv ⟨_, _, o, q⟩ => o pins s σ H vs us Q I rv q) hg hm hv wA.pa hn hdb he hpl).w
    (ha σ H R _ fun vs ds H2 R2 e2 r2 p2 => by
      obtain ⟨z, pz, o⟩ := hz ds p2
      exact ⟨ds, z, o, hd W μ, R2.ne, r2, fun v H3 e3 r3 => q v z H3 (R2.same e3) (e2.trans (XT.same e3)) r3 pz⟩)
theorem ed_callT {n : Str} {id : String} {es : List Expr} {ds : List PyData} {p : Pos} (hm : X.mg n = none) (hv : bootBuiltins n = some (.type id)) (ha : EdA X W Γ μ (e :: es) ds) (hz : CallD X (.type id) ds z) (hg : Gl X n := by rfl)
    (hn : n ≠ "__name__" := by decide) (hdb : (n == ("__debug__" : Str)) = false := by decide)
    (he : starEach (e :: es) X.env = (false, eval e X.env) :: starEach es X.env := by rfl) (hpl : (backTo pos (starEach es X.env)).any (·.1) = false := by rfl) : Ed X W Γ μ (.Call (.Name n p) (e :: es) [] pos) z :=
  (ev_callT (C := fun w => w = z) hm hv (ha.ev (P := fun l => l = ds) rfl) (fun _ e => ⟨z, rfl, e ▸ hz⟩) hg hn hdb he hpl).ed

end
end HW
set_option maxHeartbeats 4000000
namespace HW
open PySem PySem.Spec PyProof.Rows L2
/-! ### a local object is hidden, and told again -/
section
variable {K : PySem.W.Frag} {H H' : Hp} {W W' : Wd} {Γ Γ' : List DV} {μ : Mu} {σ σ' : L2.St} {D : Addr} {m : MO}
def Wd.park (W : Wd) (μ : Mu) (D : Addr) (H : Hp) : Wd := ⟨off (μ.map (·.1)) H, D :: W.M, W.row⟩
theorem mem_park {a : Addr} : a ∈ hd (W.park μ D H) μ ↔ a ∈ hd W ((D, m) :: μ) := by
  unfold Wd.park hd
  simp only [List.mem_append, List.mem_cons, List.map_cons]
  constructor
  · rintro ((h | h) | h)
    · exact .inr (.inl h)
    · exact .inl h
    · exact .inr (.inr h)
  · rintro (h | h | h)
    · exact .inl (.inr h)
    · exact .inl (.inl h)
    · exact .inr h
theorem off_cong {L L' : List Addr} (h : ∀ a, a ∈ L ↔ a ∈ L') : off L H = off L' H := by
  funext a
  unfold off
  by_cases q : a ∈ L
  · rw [if_pos q, if_pos ((h a).mp q)]
  · rw [if_neg q, if_neg (fun z => q ((h a).mpr z))]
theorem Rep.isRow_M (wd : WdOk K W) {a : Addr} (h : W.isRow a) : a ∈ W.M := by
  obtain ⟨scr, ns, e⟩ := h
  exact (wd.row _ _ _ e).1
theorem Rep.park (R : Rep K W Γ ((D, m) :: μ) σ H) : Rep K (W.park μ D H) Γ μ σ H := by
  have hD : W.H0 D = none ∧ MOk K (off (hd W ((D, m) :: μ)) H) H D m := R.mu (D, m) List.mem_cons_self
  have nd : D ∉ μ.map (·.1) ∧ (μ.map (·.1)).Nodup := by
    have := R.nd
    rw [List.map_cons] at this
    exact List.nodup_cons.mp this
  have nmu : ∀ a, W.H0 a ≠ none → a ∉ μ.map (·.1) := fun a h q => by
    obtain ⟨p, hp, rfl⟩ := List.mem_map.mp q
    exact h (R.mu p (List.mem_cons_of_mem _ hp)).1
  have oc : off (hd W ((D, m) :: μ)) H = off (hd (W.park μ D H) μ) H := off_cong fun a => (mem_park (m := m)).symm
  refine ⟨⟨fun a ha => ?_, fun r scr ns q => ?_⟩, ⟨fun a o n q => (off_some q).2, R.fr.row⟩, oc ▸ R.sl, fun p hp => ⟨off_in (List.mem_map.mpr ⟨p, hp, rfl⟩), oc ▸ (R.mu p (List.mem_cons_of_mem _ hp)).2⟩, nd.2⟩
  · show off (μ.map (·.1)) H a ≠ none
    rcases List.mem_cons.mp ha with h | h
    · rw [h, off_out nd.1]
      exact hD.2.ne
    · rw [off_out (nmu a (R.wd.hid a h))]
      exact R.fr.dom (R.wd.hid a h)
  · obtain ⟨h1, h2, h3, h4⟩ := R.wd.row r scr ns q
    refine ⟨List.mem_cons_of_mem _ h1, SqL.up (fun o e => ?_) h2, h3, h4⟩
    show off (μ.map (·.1)) H scr = some o
    rw [off_out (nmu scr (by rw [e]; simp))]
    refine R.fr.keep scr o (fun ⟨s2, n2, z⟩ => ?_) e
    have q' : W.row = some (r, scr, ns) := q
    rw [q'] at z
    cases z
    exact h3 rfl
/-- what stood off the hidden objects stands -/
theorem park_xt (R : Rep K W Γ ((D, m) :: μ) σ H) (R' : Rep K (W.park μ D H) Γ' μ σ' H') : XT (hd W ((D, m) :: μ)) H H' := fun a o e => by
  obtain ⟨h1, h2⟩ := off_some e
  rw [off_out h1]
  refine R'.fr.keep a o (fun q => h1 ((mem_park (m := m)).mp (List.mem_append_left _ (Rep.isRow_M R'.wd q)))) ?_
  show off (μ.map (·.1)) H a = some o
  rw [off_out (fun q => h1 (List.mem_append_right _ (by rw [List.map_cons]; exact List.mem_cons_of_mem _ q)))]
  exact h2
theorem Rep.unpark (R : Rep K W Γ ((D, m) :: μ) σ H) (R' : Rep K (W.park μ D H) Γ' μ σ' H') : Rep K W Γ' ((D, m) :: μ) σ' H' := by
  have hD : W.H0 D = none ∧ MOk K (off (hd W ((D, m) :: μ)) H) H D m := R.mu (D, m) List.mem_cons_self
  have oc : off (hd (W.park μ D H) μ) H' = off (hd W ((D, m) :: μ)) H' := off_cong fun a => mem_park (m := m)
  have xt := park_xt R R'
  have nd : D ∉ μ.map (·.1) ∧ (μ.map (·.1)).Nodup := by
    have := R.nd
    rw [List.map_cons] at this
    exact List.nodup_cons.mp this
  have nrow : ¬ (W.park μ D H).isRow D := fun ⟨scr, ns, e⟩ => (R.wd.hid D (R.wd.row _ _ _ e).1) hD.1
  have keepD : ∀ o, H D = some o → H' D = some o := fun o e => R'.fr.keep D o nrow (by
    show off (μ.map (·.1)) H D = some o
    rw [off_out nd.1]
    exact e)
  have nmu : ∀ a, W.H0 a ≠ none → a ∉ μ.map (·.1) := fun a h q => by
    obtain ⟨p, hp, rfl⟩ := List.mem_map.mp q
    exact h (R.mu p (List.mem_cons_of_mem _ hp)).1
  refine ⟨R.wd, ⟨fun a o n q => ?_, R'.fr.row⟩, oc ▸ R'.sl, fun p hp => ?_, R.nd⟩
  · refine R'.fr.keep a o n ?_
    show off (μ.map (·.1)) H a = some o
    rw [off_out (nmu a (by rw [q]; simp))]
    exact R.fr.keep a o n q
  · rcases List.mem_cons.mp hp with h | h
    · rw [h]
      exact ⟨hD.1, hD.2.up xt keepD⟩
    · exact ⟨(R.mu p hp).1, oc ▸ (R'.mu p h).2⟩
theorem park_le (R : Rep K W Γ ((D, m) :: μ) σ H) : Wle W (W.park μ D H) := ⟨fun a h => List.mem_cons_of_mem _ h, rfl, fun a o n h => by
  show off (μ.map (·.1)) H a = some o
  rw [off_out fun q => by
    obtain ⟨p, hp, z⟩ := List.mem_map.mp q
    have := (R.mu p (List.mem_cons_of_mem _ hp)).1
    rw [z, h] at this
    cases this]
  exact R.fr.keep a o n h⟩
/-- a new local object -/
theorem Rep.born (R : Rep K W Γ μ σ H) {o : HO} (hp : H D = none) (hm : MOk K (off (hd W μ) H) (upd H D o) D m) : Rep K W Γ ((D, m) :: μ) σ (upd H D o) := by
  have s := same_new (o := o) hp
  have nD : D ∉ hd W μ := new_out R.ne hp
  have sub : Same (off (hd W μ) H) (off (hd W ((D, m) :: μ)) (upd H D o)) := fun a u e => by
    obtain ⟨h1, h2⟩ := off_some e
    have na : a ≠ D := fun q => by rw [q, hp] at h2; cases h2
    rw [off_out (fun q => by
      rcases List.mem_append.mp q with z | z
      · exact h1 (List.mem_append_left _ z)
      · rw [List.map_cons] at z
        rcases List.mem_cons.mp z with z | z
        · exact na z
        · exact h1 (List.mem_append_right _ z)), upd_ne na]
    exact h2
  have h0 : W.H0 D = none := by
    cases e : W.H0 D with
    | none => rfl
    | some u => exact absurd hp (R.fr.dom (by rw [e]; simp))
  refine ⟨R.wd, R.fr.same s, R.sl.up sub, fun p hp' => ?_, ?_⟩
  · rcases List.mem_cons.mp hp' with h | h
    · rw [h]
      exact ⟨h0, hm.up sub fun _ z => z⟩
    · exact ⟨(R.mu p h).1, (R.mu p h).2.up sub fun u e => s _ _ e⟩
  · rw [List.map_cons]
    exact List.nodup_cons.mpr ⟨fun q => nD (List.mem_append_right _ q), R.nd⟩
/-- a local object changes -/
theorem Rep.chg {j : Nat} {m' : MO} (R : Rep K W Γ μ σ H) {o : HO} (hj : μ[j]? = some (D, m)) (hm : MOk K (off (hd W μ) H) (upd H D o) D m') : Rep K W Γ (μ.set j (D, m')) σ (upd H D o) := by
  have hmem : (D, m) ∈ μ := List.mem_of_getElem? hj
  have h0 : W.H0 D = none := (R.mu _ hmem).1
  have keys : (μ.set j (D, m')).map (·.1) = μ.map (·.1) := by
    rw [List.map_set]
    obtain ⟨hl, he⟩ := List.getElem?_eq_some_iff.mp hj
    apply List.ext_getElem (by simp)
    intro i h1 h2
    by_cases q : i = j
    · subst q
      simp [he]
    · rw [List.getElem_set_ne (Ne.symm q)]
  have hh : hd W (μ.set j (D, m')) = hd W μ := by unfold hd; rw [keys]
  have inD : D ∈ hd W μ := List.mem_append_right _ (List.mem_map.mpr ⟨_, hmem, rfl⟩)
  have oe : off (hd W μ) (upd H D o) = off (hd W μ) H := by
    funext a
    unfold off
    by_cases q : a ∈ hd W μ
    · rw [if_pos q, if_pos q]
    · rw [if_neg q, if_neg q, upd_ne (fun (z : a = D) => q (by rw [z]; exact inD))]
  have nrow : ¬ W.isRow D := fun ⟨scr, ns, e⟩ => (R.wd.hid D (R.wd.row _ _ _ e).1) h0
  refine ⟨R.wd, ⟨fun a u n e => ?_, fun r scr ns e => ?_⟩, ?_, fun p hp => ?_, by rw [keys]; exact R.nd⟩
  · rw [upd_ne (fun z => by rw [z, h0] at e; cases e)]
    exact R.fr.keep a u n e
  · obtain ⟨i, s, q, e1, e2⟩ := R.fr.row r scr ns e
    refine ⟨i, s, q, ?_, e2⟩
    rw [upd_ne (fun (z : r = D) => nrow ⟨scr, ns, by rw [← z]; exact e⟩)]
    exact e1
  · rw [hh, oe]
    exact R.sl
  · rw [hh, oe]
    obtain ⟨i, hi⟩ := List.getElem?_of_mem hp
    by_cases q : i = j
    · subst q
      rw [List.getElem?_set_self (List.getElem?_eq_some_iff.mp hj).1] at hi
      cases hi
      exact ⟨h0, hm⟩
    · rw [List.getElem?_set_ne (Ne.symm q)] at hi
      have hp' : p ∈ μ := List.mem_of_getElem? hi
      have ne : p.1 ≠ D := fun z => by
        have n := R.nd
        have e1 : (μ.map (·.1))[i]? = some D := by rw [List.getElem?_map, hi]; exact congrArg some z
        have e2 : (μ.map (·.1))[j]? = some D := by rw [List.getElem?_map, hj]; rfl
        exact q (nd_ix n e1 e2)
      refine ⟨(R.mu p hp').1, (R.mu p hp').2.up (Same.refl _) fun u e => ?_⟩
      rw [upd_ne ne]
      exact e
end
/-! ### statements -/
/-- the state is one of Φ, in the world W -/
def StP (K : PySem.W.Frag) (W : Wd) (Φ : List DV → Mu → Prop) : L2.St → Hp → Prop := fun σ H => ∃ Γ μ, Φ Γ μ ∧ Rep K W Γ μ σ H
def Run (X : Cx) (W : Wd) (Γ : List DV) (μ : Mu) (sts : List Stmt) (D : Ends) : Prop := ∀ σ H, Rep X.K W Γ μ σ H → wSs X sts D σ H
/-- what a def hands back: data with P, all else as it was -/
def RetP (K : PySem.W.Frag) (W : Wd) (P : PyData → Prop) : VK := fun v H => Fr W H ∧ ∃ d, P d ∧ Va K (off W.M H) v d
section
variable {X : Cx} {W W0 : Wd} {Γ : List DV} {μ : Mu} {e c : Expr} {rest sts a b : List Stmt} {D : Ends} {d : PyData} {P : PyData → Prop} {pos p : Pos}
theorem run_nil (h : ∀ σ H, Rep X.K W Γ μ σ H → D.nx σ H) : Run X W Γ μ [] D := fun σ H R => pss_nil.w (h σ H R)
/-- x = e -/
theorem run_setP (i : Nat) {n : Str} (he : Ev X W Γ μ e P) (h : ∀ d, P d → Run X W (Γ.set i (.d d)) μ rest D) (nd : X.N.Nodup) (hN : X.N[i]? = some n := by rfl) (hx : Loc X.env.scope n := by first | exact Or.inl rfl | exact Or.inr rfl)
    (hs : swapsWith e (some (.Name n p)) pos.line X.env = pure false := by rfl) (hf : X.fn n = true ∨ X.env.scope.names.lookup n = some .local := by first | exact .inr rfl | exact .inl rfl) : Run X W Γ μ (.Assign [.Name n p] e pos :: rest) D := fun σ H R =>
  wSs_cons ((ps_set nd hN hx wE.pe hs hf).w (he σ H R _ fun v d H2 R2 e2 r p => h d p _ _ ⟨R2.wd, R2.fr, R2.sl.set i r, R2.mu, R2.nd⟩))
theorem run_set (i : Nat) {n : Str} (he : Ed X W Γ μ e d) (h : Run X W (Γ.set i (.d d)) μ rest D) (nd : X.N.Nodup) (hN : X.N[i]? = some n := by rfl) (hx : Loc X.env.scope n := by first | exact Or.inl rfl | exact Or.inr rfl)
    (hs : swapsWith e (some (.Name n p)) pos.line X.env = pure false := by rfl) (hf : X.fn n = true ∨ X.env.scope.names.lookup n = some .local := by first | exact .inr rfl | exact .inl rfl) : Run X W Γ μ (.Assign [.Name n p] e pos :: rest) D :=
  run_setP i he.ev (fun _ q => q ▸ h) nd hN hx hs hf
/-- x = [] : a local list -/
theorem run_newL (i : Nat) {n : Str} {p2 : Pos} (h : ∀ l, Run X W (Γ.set i (.r l)) ((l, .lst []) :: μ) rest D) (nd : X.N.Nodup) (hN : X.N[i]? = some n := by rfl) (hx : Loc X.env.scope n := by first | exact Or.inl rfl | exact Or.inr rfl)
    (hs : swapsWith (.List [] p2) (some (.Name n p)) pos.line X.env = pure false := by rfl) (hf : X.fn n = true ∨ X.env.scope.names.lookup n = some .local := by first | exact .inr rfl | exact .inl rfl) : Run X W Γ μ (.Assign [.Name n p] (.List [] p2) pos :: rest) D := fun σ H R =>
  wSs_cons ((ps_set nd hN hx (pe_lst pa_nil) hs hf).w ⟨Nat.zero_le _, fun l hl => h l _ _ (by
    have R1 := R.born (m := .lst []) (o := .lst []) hl ⟨[], upd_same, .nil⟩
    exact ⟨R1.wd, R1.fr, R1.sl.setr i, R1.mu, R1.nd⟩)⟩)
/-- l.append(e) -/
theorem run_appP (i j : Nat) {n : Str} {l : Addr} {ys : List PyData} {p1 p2 p3 : Pos} (he : Ev X W Γ μ e P) (hl : ys.length < 16777216) (h : ∀ d, P d → Run X W Γ (μ.set j (l, .lst (ys ++ [d]))) rest D)
    (hi : Γ[i]? = some (.r l) := by rfl) (hj : μ[j]? = some (l, .lst ys) := by rfl) (hN : X.N[i]? = some n := by rfl) (hv : Vis X.env.scope n := by first | exact Or.inl rfl | exact Or.inr (Or.inl rfl) | exact Or.inr (Or.inr rfl))
    (h1 : (n == ("__debug__" : Str)) = false := by decide) (h2 : (n == ("__classdict__" : Str)) = false := by decide)
    (hbase : attributeBase (.Name n p1) "append" X.env (eval (.Name n p1) X.env) = eval (.Name n p1) X.env := by rfl)
    (hfew : ((backTo p3 (starEach [e] X.env)).all (fun x => !x.1) && (backToKw p3 (keywordEach [] X.env)).all (fun x => x.1.isSome)
      && decide ([e].length + ([] : List Keyword).length + (if ([] : List Keyword).isEmpty then 0 else 1) < 30)) = true := by rfl)
    (hline : (p2.endLine == p3.line) = true := by rfl) (hs : starEach [e] X.env = (false, eval e X.env) :: starEach [] X.env := by rfl) (hplain : (backTo p3 (starEach [] X.env)).any (·.1) = false := by rfl)
    (hsw : swapsWith (.Call (.Attribute (.Name n p1) "append" p2) [e] [] p3) none pos.line X.env = pure false := by rfl) :
    Run X W Γ μ (.Expr (.Call (.Attribute (.Name n p1) "append" p2) [e] [] p3) pos :: rest) D := fun σ H R => by
  refine wSs_cons ((ps_expr (pe_bm PySem.F.plainAttrs_list PySem.F.slot_list_append PySem.F.type_list_append mt_append (pe_var hN hv h1 h2) (pa_cons wE.pe pa_nil hs) hbase hfew hline hs hplain) hsw).w ?_)
  obtain ⟨o, e1, e2⟩ := R.sl.at_ i _ hi
  have e2' : o = some (.ref l) := e2
  subst e2'
  have hmem : (l, MO.lst ys) ∈ μ := List.mem_of_getElem? hj
  obtain ⟨xs, hx, _⟩ := (R.mu _ hmem).2
  refine ⟨_, e1, .inl ⟨rfl, _, SqL.of hx⟩, ?_⟩
  refine he σ H R _ fun v d H2 R2 e2 r p => ?_
  obtain ⟨xs2, hx2, hv2⟩ := (R2.mu _ hmem).2
  refine ⟨l, xs2, v, rfl, rfl, hx2, by rw [hv2.length]; exact hl, ?_⟩
  exact h d p _ _ (R2.chg hj ⟨xs2 ++ [v], upd_same, hv2.app (.cons r .nil)⟩)
theorem run_app (i j : Nat) {n : Str} {l : Addr} {ys : List PyData} {p1 p2 p3 : Pos} (he : Ed X W Γ μ e d) (hl : ys.length < 16777216) (h : Run X W Γ (μ.set j (l, .lst (ys ++ [d]))) rest D)
    (hi : Γ[i]? = some (.r l) := by rfl) (hj : μ[j]? = some (l, .lst ys) := by rfl) (hN : X.N[i]? = some n := by rfl) (hv : Vis X.env.scope n := by first | exact Or.inl rfl | exact Or.inr (Or.inl rfl) | exact Or.inr (Or.inr rfl))
    (h1 : (n == ("__debug__" : Str)) = false := by decide) (h2 : (n == ("__classdict__" : Str)) = false := by decide)
    (hbase : attributeBase (.Name n p1) "append" X.env (eval (.Name n p1) X.env) = eval (.Name n p1) X.env := by rfl)
    (hfew : ((backTo p3 (starEach [e] X.env)).all (fun x => !x.1) && (backToKw p3 (keywordEach [] X.env)).all (fun x => x.1.isSome)
      && decide ([e].length + ([] : List Keyword).length + (if ([] : List Keyword).isEmpty then 0 else 1) < 30)) = true := by rfl)
    (hline : (p2.endLine == p3.line) = true := by rfl) (hs : starEach [e] X.env = (false, eval e X.env) :: starEach [] X.env := by rfl) (hplain : (backTo p3 (starEach [] X.env)).any (·.1) = false := by rfl)
    (hsw : swapsWith (.Call (.Attribute (.Name n p1) "append" p2) [e] [] p3) none pos.line X.env = pure false := by rfl) :
    Run X W Γ μ (.Expr (.Call (.Attribute (.Name n p1) "append" p2) [e] [] p3) pos :: rest) D :=
  run_appP i j he.ev hl (fun _ q => q ▸ h) hi hj hN hv h1 h2 hbase hfew hline hs hplain hsw
/-- a local list is from now on data -/
theorem Rep.freeze {K : PySem.W.Frag} {H : Hp} {σ : L2.St} {l : Addr} {ys : List PyData} (R : Rep K W Γ ((l, .lst ys) :: μ) σ H) : ∃ xs, H l = some (.lst xs) ∧ VaAll K (off (hd W μ) H) xs ys ∧ l ∉ hd W μ ∧ Slots K (off (hd W μ) H) σ Γ := by
  obtain ⟨h0, xs, hx, hv⟩ := R.mu _ List.mem_cons_self
  have sub : Same (off (hd W ((l, .lst ys) :: μ)) H) (off (hd W μ) H) := same_offs fun a ha => by
    rcases List.mem_append.mp ha with z | z
    · exact List.mem_append_left _ z
    · exact List.mem_append_right _ (by rw [List.map_cons]; exact List.mem_cons_of_mem _ z)
  have nd := R.nd
  rw [List.map_cons] at nd
  refine ⟨xs, hx, hv.up sub, fun q => ?_, R.sl.up sub⟩
  rcases List.mem_append.mp q with z | z
  · exact R.wd.hid l z h0
  · exact (List.nodup_cons.mp nd).1 z
/-- the i-th slot's local list becomes data -/
theorem run_fix (i : Nat) {l : Addr} {ys : List PyData} (h : Run X W (Γ.set i (.d (.list ys))) μ sts D) (hi : Γ[i]? = some (.r l) := by rfl) : Run X W Γ ((l, .lst ys) :: μ) sts D := fun σ H R => by
  obtain ⟨xs, hx, hv, nl, sl⟩ := R.freeze
  obtain ⟨o, e1, e2⟩ := R.sl.at_ i _ hi
  have e2' : o = some (.ref l) := e2
  subst e2'
  have s2 := sl.set i (Va.lst (off_out nl |>.trans hx) hv)
  have es : σ.set i (some (.ref l)) = σ := by
    apply List.ext_getElem? 
    intro k
    by_cases q : k = i
    · subst q
      have hl := (List.getElem?_eq_some_iff.mp e1).1
      rw [List.getElem?_set_self hl, e1]
    · rw [List.getElem?_set_ne (Ne.symm q)]
  rw [es] at s2
  have nd := R.nd
  rw [List.map_cons] at nd
  refine h σ H ⟨R.wd, R.fr, s2, fun p hp => ⟨(R.mu p (List.mem_cons_of_mem _ hp)).1, (R.mu p (List.mem_cons_of_mem _ hp)).2.up (same_offs fun a ha => ?_) fun _ z => z⟩, (List.nodup_cons.mp nd).2⟩
  rcases List.mem_append.mp ha with z | z
  · exact List.mem_append_left _ z
  · exact List.mem_append_right _ (by rw [List.map_cons]; exact List.mem_cons_of_mem _ z)
/-- return e -/
theorem run_retP (he : Ev X W Γ μ e P) (hD : ∀ v d H, P d → Fr W H → Va X.K (off W.M H) v d → D.rt v H) : Run X W Γ μ (.Return (some e) pos :: rest) D := fun σ H R =>
  wSs_cons ((ps_ret wE.pe).w (he σ H R _ fun v d H2 R2 e2 r p => hD v d H2 p R2.fr (r.up (same_offs fun a ha => List.mem_append_left _ ha))))
theorem run_ret {P : PyData → Prop} {nx bk ct : L2.St → Hp → Prop} (he : Ed X W Γ μ e d) (hp : P d) (hW : Wle W0 W := by first | exact Wle.refl | assumption) : Run X W Γ μ (.Return (some e) pos :: rest) ⟨nx, RetP X.K W0 P, bk, ct⟩ :=
  run_retP he.ev fun v d' H p f r => ⟨f.down hW, d', by rw [p]; exact hp, r.up (same_offs fun a ha => hW.m a ha)⟩
theorem run_retV {P A : PyData → Prop} {nx bk ct : L2.St → Hp → Prop} (he : Ev X W Γ μ e A) (hp : ∀ d, A d → P d) (hW : Wle W0 W := by first | exact Wle.refl | assumption) : Run X W Γ μ (.Return (some e) pos :: rest) ⟨nx, RetP X.K W0 P, bk, ct⟩ :=
  run_retP he fun v d' H p f r => ⟨f.down hW, d', hp _ p, r.up (same_offs fun a ha => hW.m a ha)⟩
/-- return a local list -/
theorem run_retL {P : PyData → Prop} {nx bk ct : L2.St → Hp → Prop} (i : Nat) {n : Str} {l : Addr} {ys : List PyData} (hp : P (.list ys)) (hW : Wle W0 W := by first | exact Wle.refl | assumption)
    (hi : Γ[i]? = some (.r l) := by rfl) (hN : X.N[i]? = some n := by rfl) (hv : Vis X.env.scope n := by first | exact Or.inl rfl | exact Or.inr (Or.inl rfl) | exact Or.inr (Or.inr rfl))
    (h1 : (n == ("__debug__" : Str)) = false := by decide) (h2 : (n == ("__classdict__" : Str)) = false := by decide) (hl : i < Γ.length := by decide) : Run X W Γ ((l, .lst ys) :: μ) (.Return (some (.Name n p)) pos :: rest) ⟨nx, RetP X.K W0 P, bk, ct⟩ :=
  run_fix i (run_ret (P := P) (vr i (by rw [List.getElem?_set_self hl]) hN hv h1 h2) hp hW) hi
/-- if -/
theorem run_ifV {A : Bool → Prop} (hc : EvT X W Γ μ c A) (h1 : A true → Run X W Γ μ a { D with nx := wSs X rest D }) (h2 : A false → Run X W Γ μ b { D with nx := wSs X rest D }) : Run X W Γ μ (.If c a b pos :: rest) D := fun σ H R =>
  wSs_cons ((ps_if wT.pt wSs.ps wSs.ps).w (hc σ H R _ fun k H2 R2 e2 p => by
    cases k with
    | true => exact iteT (h1 p σ H2 R2)
    | false => exact iteF (h2 p σ H2 R2)))
theorem run_if {k : Bool} (hc : EdT X W Γ μ c k) (h1 : k = true → Run X W Γ μ a { D with nx := wSs X rest D }) (h2 : k = false → Run X W Γ μ b { D with nx := wSs X rest D }) : Run X W Γ μ (.If c a b pos :: rest) D :=
  run_ifV (hc.ev (P := fun z => z = k) rfl) (fun q => h1 q.symm) (fun q => h2 q.symm)
/-- the else that is not there: on with the rest -/
theorem run_skip (h : Run X W Γ μ rest D) : Run X W Γ μ [] { D with nx := wSs X rest D } := run_nil fun σ H R => h σ H R
/-- an expression alone -/
theorem run_exprP (he : Ev X W Γ μ e P) (h : ∀ d, P d → Run X W Γ μ rest D) (hs : swapsWith e none pos.line X.env = pure false := by rfl) : Run X W Γ μ (.Expr e pos :: rest) D := fun σ H R =>
  wSs_cons ((ps_expr wE.pe hs).w (he σ H R _ fun v d H2 R2 e2 r p => h d p σ H2 R2))
theorem run_expr (he : Ed X W Γ μ e d) (h : Run X W Γ μ rest D) (hs : swapsWith e none pos.line X.env = pure false := by rfl) : Run X W Γ μ (.Expr e pos :: rest) D := run_exprP he.ev (fun _ _ => h) hs
end
end HW
set_option maxHeartbeats 4000000
namespace HW
open PySem PySem.Spec PyProof.Rows L2
/-! ### walks -/
/-- J walks over the data ds, as long as the pool stands -/
structure WalkD (K : PySem.W.Frag) (pool : Hp) (J : It) (ds : List PyData) : Prop where
  go : ∀ (i : Nat) (H : Hp), i < ds.length → Same pool H → J.go i H
  yld : ∀ (i : Nat) (d : PyData) (H : Hp) (v : V) (H' : Hp) (L : List Addr), ds[i]? = some d → (∀ l ∈ L, H l ≠ none) → Same pool (off L H) → J.yld i H v H' → Same H H' ∧ Va K (off L H') v d
  stop : ∀ (H : Hp), Same pool H → J.stop ds.length H
def IterV (X : Cx) (W : Wd) (Γ : List DV) (μ : Mu) {α : Type} (tg iter : Expr) (enc : α → PyData) (P : List α → Prop) : Prop :=
  ∃ wi : TI, PI X tg iter wi ∧ ∀ σ H, Rep X.K W Γ μ σ H → ∀ R : It → Hp → Prop, (∀ xs J H1, P xs → Rep X.K W Γ μ σ H1 → XT (hd W μ) H H1 → WalkD X.K (off (hd W μ) H1) J (xs.map enc) → R J H1) → wi σ H R
/-- the target takes the data d: put d at its slots ks -/
structure TgR (K : PySem.W.Frag) (g : TG) (ok : PyData → Prop) (put : PyData → List DV → List DV) (ks : List Nat) : Prop where
  run : ∀ (L : List Addr) (v : V) (d : PyData) (σ : L2.St) (H : Hp) (Γ : List DV) (Q : L2.St → Hp → Prop), Va K (off L H) v d → ok d → Slots K (off L H) σ Γ →
    (∀ σ', Slots K (off L H) σ' (put d Γ) → σ'.length = σ.length → (∀ i, i ∉ ks → σ'[i]? = σ[i]?) → Q σ' H) → g v σ H Q
theorem tg_name {K : PySem.W.Frag} (k : Nat) : TgR K (gName k) (fun _ => True) (fun d Γ => Γ.set k (.d d)) [k] := ⟨fun L v d σ H Γ Q r _ s q => q _ (s.set k r) (List.length_set ..) fun i hi => List.getElem?_set_ne (fun e => hi (by rw [e]; exact List.mem_cons_self))⟩
theorem tg_pair {K : PySem.W.Frag} {g1 g2 : TG} {ok1 ok2 : PyData → Prop} {put1 put2 : PyData → List DV → List DV} {k1 k2 : List Nat} (h1 : TgR K g1 ok1 put1 k1) (h2 : TgR K g2 ok2 put2 k2) :
    TgR K (gTup K 2 (gCons g1 (gCons g2 gNil))) (fun d => ∃ x y, d = .tuple [x, y] ∧ ok1 x ∧ ok2 y) (fun d Γ => match d with
      | .tuple [x, y] => put2 y (put1 x Γ)
      | _ => Γ) (k1 ++ k2) := ⟨fun L v d σ H Γ Q r o s q => by
  obtain ⟨x, y, rfl, o1, o2⟩ := o
  cases r with
  | tup hs hv =>
    cases hv with
    | cons r1 hv =>
      cases hv with
      | cons r2 hv =>
        cases hv
        refine ⟨_, _, rfl, SqT.up same_off hs, rfl, _, _, rfl, ?_⟩
        refine h1.run L _ x σ H Γ _ r1 o1 s fun σ1 s1 l1 e1 => ?_
        refine ⟨_, _, rfl, ?_⟩
        refine h2.run L _ y σ1 H _ _ r2 o2 s1 fun σ2 s2 l2 e2 => ?_
        refine ⟨rfl, q σ2 s2 (l2.trans l1) fun i hi => ?_⟩
        rw [e2 i (fun z => hi (List.mem_append_right _ z)), e1 i (fun z => hi (List.mem_append_left _ z))]⟩

/-! ### comprehensions -/
def wipeD (vs : List Nat) (Γ : List DV) : List DV := match vs with
  | [] => Γ
  | v :: vs => (wipeD vs Γ).set v .no
theorem Slots.wipe {K : PySem.W.Frag} {H : Hp} {σ : L2.St} {Γ : List DV} (h : Slots K H σ Γ) : ∀ vs : List Nat, Slots K H (wipe σ vs) (wipeD vs Γ)
  | [] => h
  | v :: vs => (Slots.wipe h vs).no v
theorem wipe_get {σ : L2.St} {i : Nat} : ∀ {vs : List Nat}, (wipe σ vs)[i]? = if i ∈ vs then (if i < σ.length then some none else none) else σ[i]?
  | [] => by simp [L2.wipe]
  | v :: vs => by
    show ((wipe σ vs).set v none)[i]? = _
    by_cases q : i = v
    · subst q
      by_cases hl : i < σ.length
      · rw [List.getElem?_set_self (by rw [wipe_length]; exact hl), if_pos List.mem_cons_self, if_pos hl]
      · rw [if_pos List.mem_cons_self, if_neg hl]
        exact List.getElem?_eq_none (by rw [List.length_set, wipe_length]; omega)
    · rw [List.getElem?_set_ne (Ne.symm q), wipe_get]
      by_cases m : i ∈ vs
      · rw [if_pos m, if_pos (List.mem_cons_of_mem _ m)]
      · rw [if_neg m, if_neg (fun z => (List.mem_cons.mp z).elim q m)]
theorem wipe_eq {σ σ' : L2.St} {vs ks : List Nat} (hk : ∀ k ∈ ks, k ∈ vs) (hl : σ'.length = (wipe σ vs).length) (h : ∀ i, i ∉ ks → σ'[i]? = (wipe σ vs)[i]?) : wipe σ' vs = wipe σ vs := by
  apply List.ext_getElem?
  intro i
  rw [wipe_get, wipe_get]
  rw [wipe_length] at hl
  by_cases m : i ∈ vs
  · rw [if_pos m, if_pos m, hl]
  · rw [if_neg m, if_neg m, h i (fun z => m (hk i z)), wipe_get, if_neg m]
abbrev blkOf (X : Cx) (scope : Scope) (s : Shared) (H : Hp) (C : Addr) (cl : List (Str × Addr)) (fp : List Addr) : Cx := X.blk s H scope (compEnvC scope cl C X.env) fp
/-- e in whatever block -/
def wEb (X : Cx) (scope : Scope) (e : Expr) : TE := fun σ H Q => ∀ s H0 C cl fp, wE (blkOf X scope s H0 C cl fp) e σ H Q
theorem wEb.pe {X : Cx} {scope : Scope} {e : Expr} (s : Shared) (H : Hp) (C : Addr) (cl : List (Str × Addr)) (fp : List Addr) : PE (blkOf X scope s H C cl fp) e (wEb X scope e) := ⟨fun pins st _ _ _ I h => h s H C cl fp pins st I⟩
def wTb (X : Cx) (scope : Scope) (e : Expr) : TT := fun σ H Q => ∀ s H0 C cl fp, wT (blkOf X scope s H0 C cl fp) e σ H Q
theorem wTb.pt {X : Cx} {scope : Scope} {e : Expr} (s : Shared) (H : Hp) (C : Addr) (cl : List (Str × Addr)) (fp : List Addr) : PT (blkOf X scope s H C cl fp) e (wTb X scope e) := ⟨fun pins st _ _ _ I h => h s H C cl fp pins st I⟩
section
variable {X : Cx} {W : Wd} {Γ : List DV} {μ : Mu} {α : Type} {tg iter elt t : Expr} {ifs : List Expr} {scope : Scope} {own : List (Str × Nat)} {pos : Pos} {enc : α → PyData} {P : List α → Prop} {g : TG} {ok : PyData → Prop} {put : PyData → List DV → List DV} {ks : List Nat} {c : α → Bool} {E : α → PyData → Prop}
theorem psnoc {α β : Type} {F : α → β → Prop} {a : α} {b : β} : ∀ {l₁ : List α} {l₂ : List β}, Paired F l₁ l₂ → F a b → Paired F (l₁ ++ [a]) (l₂ ++ [b])
  | _, _, .nil, h => .cons h .nil
  | _, _, .cons r t, h => .cons r (psnoc t h)
theorem plen {α β : Type} {F : α → β → Prop} : ∀ {l₁ : List α} {l₂ : List β}, Paired F l₁ l₂ → l₁.length = l₂.length
  | _, _, .nil => rfl
  | _, _, .cons _ t => congrArg (· + 1) (plen t)
theorem take_succ_filter {xs : List α} {i : Nat} {x : α} (h : xs[i]? = some x) : (xs.take (i + 1)).filter c = (xs.take i).filter c ++ (if c x = true then [x] else []) := by
  rw [List.take_add_one, h]
  show (xs.take i ++ [x]).filter c = _
  rw [List.filter_append]
  by_cases q : c x = true
  · rw [if_pos q, List.filter_cons_of_pos q]; rfl
  · rw [if_neg q, List.filter_cons_of_neg q]; rfl
/-- the reading of a comprehension: a list whose items are E of the items kept -/
theorem lc_read {tt : TT} {wi : TI} (hi : ∀ σ H, Rep X.K W Γ μ σ H → ∀ R : It → Hp → Prop, (∀ xs J H1, P xs → Rep X.K W Γ μ σ H1 → XT (hd W μ) H H1 → WalkD X.K (off (hd W μ) H1) J (xs.map enc) → R J H1) → wi σ H R)
    (hg : TgR X.K g ok put ks) (hk : ∀ k ∈ ks, k ∈ own.map (·.2)) (hok : ∀ xs, P xs → ∀ x ∈ xs, ok (enc x)) (hz : ∀ xs, P xs → xs.length ≤ 16777216)
    (ht : ∀ xs, P xs → ∀ x ∈ xs, ∀ W1, Wle W W1 → ∀ σ H, Rep X.K W1 (put (enc x) (wipeD (own.map (·.2)) Γ)) μ σ H → ∀ Q : Bool → Hp → Prop, (∀ H2, Rep X.K W1 (put (enc x) (wipeD (own.map (·.2)) Γ)) μ σ H2 → Q (c x) H2) → tt σ H Q)
    (he : ∀ xs, P xs → ∀ x ∈ xs, c x = true → ∀ W1, Wle W W1 → ∀ s H C cl fp, Ev (blkOf X scope s H C cl fp) W1 (put (enc x) (wipeD (own.map (·.2)) Γ)) μ elt (E x))
    {σ : L2.St} {H : Hp} (R : Rep X.K W Γ μ σ H) {Q : VK} (q : ∀ xs ys v H2, P xs → Paired E (xs.filter c) ys → Rep X.K W Γ μ σ H2 → XT (hd W μ) H H2 → Va X.K (off (hd W μ) H2) v (.list ys) → (∃ D, v = .ref D ∧ Rep X.K W Γ ((D, .lst ys) :: μ) σ H2 ∧ Same (off (hd W μ) H) (off (hd W ((D, .lst ys) :: μ)) H2)) → Q v H2) :
    tLc wi g tt (wEb X scope elt) (own.map (·.2)) σ H Q := by
  refine hi σ H R _ fun xs J H1 px R1 e1 wk D hD => ?_
  -- the invariant
  let vs := own.map (·.2)
  let Pv : Nat → Hp → Prop := fun i H' => ∃ ys, Paired E ((xs.take i).filter c) ys ∧ Rep X.K (W.now μ H1) (wipeD vs Γ) ((D, .lst ys) :: μ) (wipe σ vs) H'
  have R1n := R1.now
  have Rw : Rep X.K (W.now μ H1) (wipeD vs Γ) μ (wipe σ vs) H1 := ⟨R1n.wd, R1n.fr, R1n.sl.wipe vs, R1n.mu, R1n.nd⟩
  have h0 : Pv 0 (upd H1 D (.lst [])) := ⟨[], by simp only [List.take_zero, List.filter_nil]; exact .nil, Rw.born hD ⟨[], upd_same, .nil⟩⟩
  have nDmu : ∀ {i H'}, Pv i H' → Same (off (hd W μ) H1) H' := fun ⟨ys, _, Rp⟩ a o e => by
    obtain ⟨h1, h2⟩ := off_some e
    refine Rp.fr.keep a o (fun z => h1 (List.mem_append_left _ (Rep.isRow_M Rp.wd z))) ?_
    show off (μ.map (·.1)) H1 a = some o
    rw [off_out (fun z => h1 (List.mem_append_right _ z))]
    exact h2
  refine ⟨fun i m H' => m = xs.length - i ∧ i ≤ xs.length ∧ Pv i H', ⟨xs.length, by simp, Nat.zero_le _, h0⟩, ?_⟩
  rintro i m H' ⟨rfl, hile, p⟩
  by_cases hlt : i < xs.length
  · refine .inr ⟨wk.go i H' (by simpa using hlt) (nDmu p), Pv (i + 1), fun H2 p' => ⟨xs.length - (i + 1), by omega, rfl, hlt, p'⟩, fun v H2 y => ?_⟩
    obtain ⟨ys, hys, Rp⟩ := p
    obtain ⟨x, hx⟩ : ∃ x, xs[i]? = some x := ⟨xs[i], by simp [hlt]⟩
    have xin : x ∈ xs := List.mem_of_getElem? hx
    have dx : (xs.map enc)[i]? = some (enc x) := by rw [List.getElem?_map, hx]; rfl
    -- the pool off the hidden objects
    have pool : Same (off (hd W μ) H1) (off (hd (W.now μ H1) ((D, .lst ys) :: μ)) H') := fun a o e => by
      obtain ⟨h1, h2⟩ := off_some e
      have na : a ≠ D := fun z => by rw [z, hD] at h2; cases h2
      rw [off_out (fun z => by
        rcases List.mem_append.mp z with z | z
        · exact h1 (List.mem_append_left _ z)
        · rw [List.map_cons] at z
          rcases List.mem_cons.mp z with z | z
          · exact na z
          · exact h1 (List.mem_append_right _ z))]
      exact nDmu ⟨ys, hys, Rp⟩ a o e
    obtain ⟨s2, r2⟩ := wk.yld i (enc x) H' v H2 _ dx Rp.ne pool y
    have Rp2 := Rp.same s2
    refine hg.run _ v (enc x) (wipe σ vs) H2 _ _ r2 (hok xs px x xin) Rp2.sl fun σ3 sl3 l3 u3 => ?_
    refine ⟨wipe_eq hk l3 u3, ?_⟩
    have R3 : Rep X.K (W.now μ H1) (put (enc x) (wipeD vs Γ)) ((D, .lst ys) :: μ) σ3 H2 := ⟨Rp2.wd, Rp2.fr, sl3, Rp2.mu, Rp2.nd⟩
    have le3 : Wle W ((W.now μ H1).park μ D H2) := R1.now_le.trans (park_le R3)
    have back : ∀ {H4 : Hp} {ys' : List PyData}, Rep X.K (W.now μ H1) (put (enc x) (wipeD vs Γ)) ((D, .lst ys') :: μ) σ3 H4 → XT (hd (W.now μ H1) ((D, .lst ys) :: μ)) H2 H4 → Rep X.K (W.now μ H1) (wipeD vs Γ) ((D, .lst ys') :: μ) (wipe σ vs) H4 := fun R4 x4 =>
      ⟨R4.wd, R4.fr, (Rp2.sl.up x4 : _), R4.mu, R4.nd⟩
    refine ht xs px x xin _ le3 σ3 H2 R3.park _ fun H4 R4 => ?_
    have x4 := park_xt R3 R4
    have R4' := R3.unpark R4
    by_cases hc : c x = true
    · rw [hc]
      refine iteT fun s H0 C cl fp => ?_
      refine he xs px x xin hc _ (R1.now_le.trans (park_le R4')) s H0 C cl fp σ3 H4 R4'.park _ fun v5 d5 H5 R5 x5 r5 p5 => ?_
      have x5' := park_xt R4' R5
      have R5' := R4'.unpark R5
      obtain ⟨acc, ha, hv⟩ := (R5'.mu _ List.mem_cons_self).2
      refine ⟨acc, ha, ?_, ys ++ [d5], ?_, ?_⟩
      · rw [hv.length, ← plen hys]
        have l1 : ((xs.take i).filter c).length ≤ (xs.take i).length := List.length_filter_le ..
        rw [List.length_take] at l1
        have l2 := hz xs px
        show _ < 16777216
        omega
      · rw [take_succ_filter hx, if_pos hc]
        exact psnoc hys p5
      · have oc : off (hd ((W.now μ H1).park μ D H4) μ) H5 = off (hd (W.now μ H1) ((D, .lst ys) :: μ)) H5 := off_cong fun a => mem_park
        have z := back R5' (x4.trans x5')
        exact z.chg (j := 0) (m' := .lst (ys ++ [d5])) rfl ⟨acc ++ [v5], upd_same, hv.app (.cons (oc ▸ r5) .nil)⟩
    · have hc' : c x = false := by simpa using hc
      rw [hc']
      refine iteF ⟨ys, ?_, back R4' x4⟩
      rw [take_succ_filter hx, if_neg hc, List.append_nil]
      exact hys
  · have e : i = xs.length := by omega
    subst e
    refine .inl ⟨by have := wk.stop H' (nDmu p); simpa using this, ?_⟩
    have sm := nDmu p
    obtain ⟨ys, hys, Rp⟩ := p
    rw [List.take_length] at hys
    obtain ⟨acc, ha, hv, nl, sl⟩ := Rp.freeze
    have up : XT (hd W μ) H1 H' := fun a o e => by
      rw [off_out (off_some e).1]
      exact sm a o e
    have le1 : Wle W (W.now μ H1) := R1.now_le
    have up2 : Same (off (hd W μ) H1) (off (hd W ((D, .lst ys) :: μ)) H') := fun a o e => by
      obtain ⟨h1, h2⟩ := off_some e
      have na : a ≠ D := fun z => by rw [z, hD] at h2; cases h2
      rw [off_out (fun z => by
        rcases List.mem_append.mp z with z | z
        · exact h1 (List.mem_append_left _ z)
        · rw [List.map_cons] at z
          rcases List.mem_cons.mp z with z | z
          · exact na z
          · exact h1 (List.mem_append_right _ z))]
      exact sm a o e
    have RN : Rep X.K W Γ ((D, .lst ys) :: μ) σ H' := ⟨R.wd, Rp.fr.down le1, R1.sl.up up2, fun p hp => ⟨by
      rcases List.mem_cons.mp hp with e | e
      · rw [e]
        exact ((R1.born hD (m := .lst []) (o := .lst []) ⟨[], upd_same, .nil⟩).mu _ List.mem_cons_self).1
      · exact (R1.mu p e).1, (Rp.mu p hp).2⟩, Rp.nd⟩
    refine q xs ys (.ref D) H' px hys ⟨R.wd, Rp.fr.down le1, R1.sl.up up, fun p hp => ⟨(R1.mu p hp).1, (Rp.mu p (List.mem_cons_of_mem _ hp)).2.up (same_offs fun a ha => ?_) fun _ z => z⟩, R.nd⟩ (e1.trans up) (.lst (off_out nl |>.trans ha) hv) ⟨D, rfl, RN, fun a o e => by
      by_cases hx : a ∈ hd W μ
      · rw [off_in hx] at e
        cases e
      · refine up2 a o ?_
        rw [off_out hx]
        exact (off_some (e1 a o e)).2⟩
    rcases List.mem_append.mp ha with z | z
    · exact List.mem_append_left _ z
    · exact List.mem_append_right _ (by rw [List.map_cons]; exact List.mem_cons_of_mem _ z)
/-- a comprehension's judgement: the list's data with Z -/
structure LcEv (X : Cx) (W : Wd) (Γ : List DV) (μ : Mu) (elt tg iter : Expr) (ifs : List Expr) (scope : Scope) (Z : List PyData → Prop) : Prop where
  ex : ∃ (wi : TI) (g : TG) (tt : TT) (te : TE) (own : List (Str × Nat)), PI X tg iter wi ∧ BlkOk X.N X.env.scope scope own ∧ (∀ s H C cl fp, PG (blkOf X scope s H C cl fp) tg g) ∧ (∀ s H C cl fp, PTs (blkOf X scope s H C cl fp) ifs tt) ∧
    (∀ s H C cl fp, PE (blkOf X scope s H C cl fp) elt te) ∧ ∀ σ H, Rep X.K W Γ μ σ H → ∀ Q : VK, (∀ ys v H2, Z ys → Rep X.K W Γ μ σ H2 → XT (hd W μ) H H2 → Va X.K (off (hd W μ) H2) v (.list ys) → (∃ D, v = .ref D ∧ Rep X.K W Γ ((D, .lst ys) :: μ) σ H2 ∧ Same (off (hd W μ) H) (off (hd W ((D, .lst ys) :: μ)) H2)) → Q v H2) → tLc wi g tt te (own.map (·.2)) σ H Q
theorem LcEv.ev {Z : List PyData → Prop} (h : LcEv X W Γ μ elt tg iter ifs scope Z) (hN : X.N.Nodup) (hc : X.calm = true := by rfl) (hs : ∀ x, foldedSetIterable iter X.env x = pure x := by intro _; rfl) :
    Ev X W Γ μ (.ListComp elt [⟨tg, iter, ifs, 0⟩] scope pos) (fun z => ∃ ys, z = .list ys ∧ Z ys) := fun σ H R Q k => by
  obtain ⟨wi, g, tt, te, own, h1, h2, h3, h4, h5, h6⟩ := h.ex
  exact (pe_lc hc hN h1 h2 h3 h4 h5 hs).w (h6 σ H R Q fun ys v H2 z R2 x2 r _ => k v _ H2 R2 x2 r ⟨ys, rfl, z⟩)
theorem LcEv.ed {ys : List PyData} (h : LcEv X W Γ μ elt tg iter ifs scope (fun z => z = ys)) (hN : X.N.Nodup) (hc : X.calm = true := by rfl) (hs : ∀ x, foldedSetIterable iter X.env x = pure x := by intro _; rfl) :
    Ed X W Γ μ (.ListComp elt [⟨tg, iter, ifs, 0⟩] scope pos) (.list ys) := (h.ev (pos := pos) hN hc hs |>.imp (B := fun z => z = .list ys) fun d ⟨l, e1, e2⟩ => by rw [e1, e2]).ed
/-- x = [..] -/
theorem run_setLcP {Z : List PyData → Prop} {D : Ends} {rest : List Stmt} {spos py : Pos} (i : Nat) {n : Str} (h : LcEv X W Γ μ elt tg iter ifs scope Z) (hr : ∀ ys, Z ys → Run X W (Γ.set i (.d (.list ys))) μ rest D) (hN : X.N.Nodup) (hn : X.N[i]? = some n := by rfl) (hl : X.env.scope.names.lookup n = some .local := by rfl)
    (hsw : swapsWith (.ListComp elt [⟨tg, iter, ifs, 0⟩] scope pos) (some (.Name n py)) spos.line X.env = pure true := by exact (sw_true rfl rfl rfl (by decide +kernel))) (hc : X.calm = true := by rfl) (hs : ∀ x, foldedSetIterable iter X.env x = pure x := by intro _; rfl) :
    Run X W Γ μ (.Assign [.Name n py] (.ListComp elt [⟨tg, iter, ifs, 0⟩] scope pos) spos :: rest) D := fun σ H R => by
  obtain ⟨wi, g, tt, te, own, h1, h2, h3, h4, h5, h6⟩ := h.ex
  refine wSs_cons ((ps_setLc hc hN hn hl hsw h1 h2 h3 h4 h5 hs).w ?_)
  exact h6 σ H R _ fun ys v H2 z R2 x2 r _ => hr ys z _ _ ⟨R2.wd, R2.fr, R2.sl.set i r, R2.mu, R2.nd⟩
theorem run_setLc {ys : List PyData} {D : Ends} {rest : List Stmt} {spos py : Pos} (i : Nat) {n : Str} (h : LcEv X W Γ μ elt tg iter ifs scope (fun z => z = ys)) (hr : Run X W (Γ.set i (.d (.list ys))) μ rest D) (hN : X.N.Nodup) (hn : X.N[i]? = some n := by rfl) (hl : X.env.scope.names.lookup n = some .local := by rfl)
    (hsw : swapsWith (.ListComp elt [⟨tg, iter, ifs, 0⟩] scope pos) (some (.Name n py)) spos.line X.env = pure true := by exact (sw_true rfl rfl rfl (by decide +kernel))) (hc : X.calm = true := by rfl) (hs : ∀ x, foldedSetIterable iter X.env x = pure x := by intro _; rfl) :
    Run X W Γ μ (.Assign [.Name n py] (.ListComp elt [⟨tg, iter, ifs, 0⟩] scope pos) spos :: rest) D := run_setLcP i h (fun _ z => z ▸ hr) hN hn hl hsw hc hs
/-- builders: over any target, without a test -/
theorem lc0 (own : List (Str × Nat)) (hi : IterV X W Γ μ tg iter enc P) (hg : TgR X.K g ok put ks) (hpg : ∀ s H C cl fp, PG (blkOf X scope s H C cl fp) tg g) (hok : ∀ xs, P xs → ∀ x ∈ xs, ok (enc x)) (hz : ∀ xs, P xs → xs.length ≤ 16777216)
    (he : ∀ xs, P xs → ∀ x ∈ xs, ∀ W1, Wle W W1 → ∀ s H C cl fp, Ev (blkOf X scope s H C cl fp) W1 (put (enc x) (wipeD (own.map (·.2)) Γ)) μ elt (E x)) (hb : BlkOk X.N X.env.scope scope own := by exact blkOk_by (by kernel_rfl)) (hk : ∀ k ∈ ks, k ∈ own.map (·.2) := by decide) :
    LcEv X W Γ μ elt tg iter [] scope (fun ys => ∃ xs, P xs ∧ Paired E xs ys) := ⟨by
  obtain ⟨wi, h1, h2⟩ := hi
  refine ⟨wi, g, tYes, wEb X scope elt, own, h1, hb, hpg, fun _ _ _ _ _ => pts_nil, wEb.pe, fun σ H R Q k => ?_⟩
  refine lc_read (c := fun _ => true) (E := E) h2 hg hk hok hz (fun _ _ _ _ _ _ σ H R Q q => q H R) (fun xs px x hx _ W1 l s H C cl fp => he xs px x hx W1 l s H C cl fp) R fun xs ys v H2 px hp R2 x2 r rn => k ys v H2 ⟨xs, px, ?_⟩ R2 x2 r rn
  have e : xs.filter (fun _ => true) = xs := List.filter_eq_self.mpr fun _ _ => rfl
  rw [e] at hp
  exact hp⟩
/-- .. with one -/
theorem lc1 (own : List (Str × Nat)) (hi : IterV X W Γ μ tg iter enc P) (hg : TgR X.K g ok put ks) (hpg : ∀ s H C cl fp, PG (blkOf X scope s H C cl fp) tg g) (hok : ∀ xs, P xs → ∀ x ∈ xs, ok (enc x)) (hz : ∀ xs, P xs → xs.length ≤ 16777216)
    (ht : ∀ xs, P xs → ∀ x ∈ xs, ∀ W1, Wle W W1 → ∀ s H C cl fp, EdT (blkOf X scope s H C cl fp) W1 (put (enc x) (wipeD (own.map (·.2)) Γ)) μ t (c x))
    (he : ∀ xs, P xs → ∀ x ∈ xs, c x = true → ∀ W1, Wle W W1 → ∀ s H C cl fp, Ev (blkOf X scope s H C cl fp) W1 (put (enc x) (wipeD (own.map (·.2)) Γ)) μ elt (E x)) (hb : BlkOk X.N X.env.scope scope own := by exact blkOk_by (by kernel_rfl)) (hk : ∀ k ∈ ks, k ∈ own.map (·.2) := by decide) :
    LcEv X W Γ μ elt tg iter [t] scope (fun ys => ∃ xs, P xs ∧ Paired E (xs.filter c) ys) := ⟨by
  obtain ⟨wi, h1, h2⟩ := hi
  refine ⟨wi, g, wTb X scope t, wEb X scope elt, own, h1, hb, hpg, fun s H C cl fp => pts_one (wTb.pt s H C cl fp), wEb.pe, fun σ H R Q k => ?_⟩
  exact lc_read (c := c) (E := E) h2 hg hk hok hz (fun xs px x hx W1 l σ H R Q q s H0 C cl fp => ht xs px x hx W1 l s H0 C cl fp σ H R Q fun H2 R2 _ => q H2 R2) he R fun xs ys v H2 px hp R2 x2 r rn => k ys v H2 ⟨xs, px, hp⟩ R2 x2 r rn⟩
end
/-- the walked thing, told -/
abbrev IterD (X : Cx) (W : Wd) (Γ : List DV) (μ : Mu) {α : Type} (tg iter : Expr) (enc : α → PyData) (xs : List α) : Prop := IterV X W Γ μ tg iter enc (fun l => l = xs)
theorem paired_map {α : Type} {f : α → PyData} : ∀ {xs : List α} {ys : List PyData}, Paired (fun x y => y = f x) xs ys → ys = xs.map f
  | _, _, .nil => rfl
  | _, _, .cons r t => by rw [r, paired_map t]; rfl
section
variable {X : Cx} {W : Wd} {Γ : List DV} {μ : Mu} {α : Type} {tg iter elt t : Expr} {ifs : List Expr} {scope : Scope} {pos p : Pos} {enc : α → PyData} {xs : List α} {c : α → Bool} {f : α → PyData} {n : Str}
/-- [elt for n in iter] -/
theorem lcN0 (k : Nat) (hi : IterD X W Γ μ (.Name n p) iter enc xs) (hz : xs.length ≤ 16777216) (f : α → PyData)
    (he : ∀ x ∈ xs, ∀ W1, Wle W W1 → ∀ s H C cl fp, Ed (blkOf X scope s H C cl fp) W1 ((wipeD [k] Γ).set k (.d (enc x))) μ elt (f x)) (hN : X.N.Nodup) (hn : X.N[k]? = some n := by rfl)
    (hv : ∀ s H C cl fp, Loc (blkOf X scope s H C cl fp).env.scope n := by intro _ _ _ _ _; first | exact Or.inl rfl | exact Or.inr rfl) (hf : ∀ s H C cl fp, (blkOf X scope s H C cl fp).fn n = true ∨ (blkOf X scope s H C cl fp).env.scope.names.lookup n = some .local := by intro _ _ _ _ _; first | exact .inr rfl | exact .inl rfl) (hb : BlkOk X.N X.env.scope scope [(n, k)] := by exact blkOk_by (by kernel_rfl)) :
    LcEv X W Γ μ elt (.Name n p) iter [] scope (fun ys => ys = xs.map f) := by
  have h := lc0 (E := fun x y => y = f x) (elt := elt) (scope := scope) [(n, k)] hi (tg_name (K := X.K) k) (fun s H C cl fp => pg_name hN hn (hv s H C cl fp) (hf s H C cl fp)) (fun _ _ _ _ => trivial) (fun _ e => e ▸ hz) (fun _ e x hx W1 l s H C cl fp => (he x (e ▸ hx) W1 l s H C cl fp).ev) hb (by simp)
  obtain ⟨wi, g, tt, te, own, h1, h2, h3, h4, h5, h6⟩ := h.ex
  exact ⟨wi, g, tt, te, own, h1, h2, h3, h4, h5, fun σ H R Q k => h6 σ H R Q fun ys v H2 ⟨l, e, hp⟩ => k ys v H2 (by rw [← e]; exact paired_map hp)⟩
/-- [elt for n in iter if t] -/
theorem lcN1 (k : Nat) (hi : IterD X W Γ μ (.Name n p) iter enc xs) (hz : xs.length ≤ 16777216) (c : α → Bool) (f : α → PyData)
    (ht : ∀ x ∈ xs, ∀ W1, Wle W W1 → ∀ s H C cl fp, EdT (blkOf X scope s H C cl fp) W1 ((wipeD [k] Γ).set k (.d (enc x))) μ t (c x))
    (he : ∀ x ∈ xs, c x = true → ∀ W1, Wle W W1 → ∀ s H C cl fp, Ed (blkOf X scope s H C cl fp) W1 ((wipeD [k] Γ).set k (.d (enc x))) μ elt (f x)) (hN : X.N.Nodup) (hn : X.N[k]? = some n := by rfl)
    (hv : ∀ s H C cl fp, Loc (blkOf X scope s H C cl fp).env.scope n := by intro _ _ _ _ _; first | exact Or.inl rfl | exact Or.inr rfl) (hf : ∀ s H C cl fp, (blkOf X scope s H C cl fp).fn n = true ∨ (blkOf X scope s H C cl fp).env.scope.names.lookup n = some .local := by intro _ _ _ _ _; first | exact .inr rfl | exact .inl rfl) (hb : BlkOk X.N X.env.scope scope [(n, k)] := by exact blkOk_by (by kernel_rfl)) :
    LcEv X W Γ μ elt (.Name n p) iter [t] scope (fun ys => ys = (xs.filter c).map f) := by
  have h := lc1 (E := fun x y => y = f x) (c := c) (t := t) (elt := elt) (scope := scope) [(n, k)] hi (tg_name (K := X.K) k) (fun s H C cl fp => pg_name hN hn (hv s H C cl fp) (hf s H C cl fp)) (fun _ _ _ _ => trivial) (fun _ e => e ▸ hz) (fun _ e x hx W1 l s H C cl fp => ht x (e ▸ hx) W1 l s H C cl fp) (fun _ e x hx hc W1 l s H C cl fp => (he x (e ▸ hx) hc W1 l s H C cl fp).ev) hb (by simp)
  obtain ⟨wi, g, tt, te, own, h1, h2, h3, h4, h5, h6⟩ := h.ex
  exact ⟨wi, g, tt, te, own, h1, h2, h3, h4, h5, fun σ H R Q k => h6 σ H R Q fun ys v H2 ⟨l, e, hp⟩ => k ys v H2 (by rw [← e]; exact paired_map hp)⟩
end
end HW
set_option maxHeartbeats 4000000
namespace HW
open PySem PySem.Spec PyProof.Rows L2
section
variable {X : Cx} {W : Wd} {Γ : List DV} {μ : Mu} {α : Type} {tg iter e a b : Expr} {pos p : Pos} {enc : α → PyData} {P : List α → Prop} {xs : List α}
theorem IterV.imp {Q' : List α → Prop} (h : IterV X W Γ μ tg iter enc P) (i : ∀ xs, P xs → Q' xs) : IterV X W Γ μ tg iter enc Q' := by
  obtain ⟨wi, h1, h2⟩ := h
  exact ⟨wi, h1, fun σ H R R' k => h2 σ H R R' fun xs J H1 px => k xs J H1 (i xs px)⟩
theorem walk_list {K : PySem.W.Frag} {pool : Hp} {a : Addr} {vs : List V} {ds : List PyData} (h : pool a = some (.lst vs)) (hv : VaAll K pool vs ds) : WalkD K pool (Itl K a) ds where
  go := fun i H hi s => by
    have hl : i < vs.length := by rw [hv.length]; exact hi
    exact ⟨vs, vs[i], SqL.of (s a _ h), by simp [hl]⟩
  yld := fun i d H v H' L hd _ s y => by
    obtain ⟨rfl, y⟩ := y
    refine ⟨Same.refl _, ?_⟩
    obtain ⟨v2, e, r⟩ := hv.at hd
    have := y vs (SqL.of ((off_some (s a _ h)).2))
    rw [e] at this
    cases this
    exact r.up s
  stop := fun H s => ⟨vs, SqL.of (s a _ h), by rw [hv.length]; exact Nat.le_refl _⟩
theorem walk_tup {K : PySem.W.Frag} {pool : Hp} {a : Addr} {vs : List V} {ds : List PyData} (h : SqT K pool a vs) (hv : VaAll K pool vs ds) : WalkD K pool (Itt K a) ds where
  go := fun i H hi s => by
    have hl : i < vs.length := by rw [hv.length]; exact hi
    exact ⟨vs, vs[i], SqT.up s h, by simp [hl]⟩
  yld := fun i d H v H' L hd _ s y => by
    obtain ⟨rfl, y⟩ := y
    refine ⟨Same.refl _, ?_⟩
    obtain ⟨v2, e, r⟩ := hv.at hd
    have := y vs (SqT.up same_off (SqT.up s h))
    rw [e] at this
    cases this
    exact r.up s
  stop := fun H s => ⟨vs, SqT.up s h, by rw [hv.length]; exact Nat.le_refl _⟩
theorem it_listV (h : Ev X W Γ μ iter (fun z => ∃ xs, z = .list (xs.map enc) ∧ P xs)) : IterV X W Γ μ tg iter enc P := ⟨_, pi_list wE.pe, fun σ H R R' k => h σ H R _ fun v d H1 R1 e1 r ⟨xs, e, px⟩ => by
  subst e
  cases r with
  | lst ha hv => exact ⟨_, rfl, ⟨_, SqL.of (off_some ha).2⟩, k xs _ H1 px R1 e1 (walk_list ha hv)⟩⟩
theorem it_list {ds : List PyData} (h : Ed X W Γ μ iter (.list ds)) (e : ds = xs.map enc := by rfl) : IterD X W Γ μ tg iter enc xs := it_listV (h.evP ⟨xs, by rw [e], rfl⟩)
theorem it_tupV (h : Ev X W Γ μ iter (fun z => ∃ xs, z = .tuple (xs.map enc) ∧ P xs)) : IterV X W Γ μ tg iter enc P := ⟨_, pi_tup wE.pe, fun σ H R R' k => h σ H R _ fun v d H1 R1 e1 r ⟨xs, e, px⟩ => by
  subst e
  cases r with
  | tup ha hv => exact ⟨_, rfl, ⟨_, SqT.up same_off ha⟩, k xs _ H1 px R1 e1 (walk_tup ha hv)⟩⟩
theorem it_tup {ds : List PyData} (h : Ed X W Γ μ iter (.tuple ds)) (e : ds = xs.map enc := by rfl) : IterD X W Γ μ tg iter enc xs := it_tupV (h.evP ⟨xs, by rw [e], rfl⟩)
/-- a sign as a text -/
abbrev sg (c : Nat) : PyData := .str ⟨#[c]⟩
theorem it_strV {P : List Nat → Prop} (h : Ev X W Γ μ iter (fun z => ∃ cs : List Nat, z = .str ⟨cs.toArray⟩ ∧ P cs)) : IterV X W Γ μ tg iter sg P := ⟨_, pi_str wE.pe, fun σ H R R' k => h σ H R _ fun v d H1 R1 e1 r ⟨cs, e, px⟩ => by
  subst e
  cases r
  refine ⟨_, rfl, k cs _ H1 px R1 e1 ⟨fun i H hi s => ?_, fun i d H v H' L hd _ s y => ?_, fun H s => ?_⟩⟩
  · show i < cs.toArray.size
    simpa using hi
  · obtain ⟨rfl, c, hc, rfl⟩ := y
    refine ⟨Same.refl _, ?_⟩
    have hc' : cs[i]? = some c := by simpa using hc
    rw [List.getElem?_map, hc'] at hd
    cases hd
    exact .str _
  · show cs.toArray.size ≤ _
    simp⟩
theorem it_str {cs : List Nat} {x : Str} (h : Ed X W Γ μ iter (.str x)) (e : x = ⟨cs.toArray⟩ := by rfl) : IterD X W Γ μ tg iter sg cs := it_strV (h.evP ⟨cs, by rw [e], rfl⟩)
/-- range(n), range(a, b) -/
abbrev nn (i : Nat) : PyData := .int (i : Int)
theorem walk_range {K : PySem.W.Frag} {pool : Hp} {lo : Int} {n : Nat} : WalkD K pool (Itr lo n) ((List.range n).map fun (i : Nat) => PyData.int (lo + (i : Int))) where
  go := fun i H hi s => by show i < n; simpa using hi
  yld := fun i d H v H' L hd _ s y => by
    obtain ⟨rfl, rfl⟩ := y
    refine ⟨Same.refl _, ?_⟩
    rw [List.getElem?_map] at hd
    obtain ⟨j, hj, rfl⟩ := Option.map_eq_some_iff.mp hd
    have hl : i < n := by
      have := (List.getElem?_eq_some_iff.mp hj).1
      simpa using this
    rw [List.getElem?_range hl] at hj
    cases hj
    exact .int _
  stop := fun H s => by show n ≤ _; simp
theorem it_rangeV {P : Nat → Prop} (h : EvA X W Γ μ [a] (fun ds => ∃ n : Int, ds = [.int n] ∧ -(2 ^ 62) ≤ n ∧ n < 2 ^ 62 ∧ P n.toNat)) (hm : X.mg "range" = none) (hg : Gl X "range" := by rfl) (hs : starEach [a] X.env = [(false, eval a X.env)] := by rfl) :
    IterV X W Γ μ tg (.Call (.Name "range" p) [a] [] pos) (fun i : Nat => PyData.int ((0 : Int) + (i : Int))) (fun l => ∃ n, l = List.range n ∧ P n) := ⟨_, pi_range1 hg hm wA.pa hs, fun σ H R R' k => h σ H R _ fun vs ds H1 R1 e1 r ⟨n, e, h1, h2, pn⟩ => by
  subst e
  cases r with
  | cons r rr =>
    cases rr
    cases r
    exact ⟨n, rfl, h1, h2, k _ _ H1 ⟨_, rfl, pn⟩ R1 e1 walk_range⟩⟩
theorem it_range {n : Nat} {z : Int} (h : Ed X W Γ μ a (.int z)) (hm : X.mg "range" = none) (e : z.toNat = n := by omega) (hz : -1000000000 ≤ z ∧ z ≤ 1000000000 := by omega) (hg : Gl X "range" := by rfl) (hs : starEach [a] X.env = [(false, eval a X.env)] := by rfl) :
    IterD X W Γ μ tg (.Call (.Name "range" p) [a] [] pos) nn (List.range n) := by
  have := it_rangeV (tg := tg) (p := p) (pos := pos) (P := fun m => m = n) ((ea_cons h ea_nil (by rw [hs]; rfl)).ev ⟨z, rfl, by omega, by omega, e⟩) hm hg hs
  obtain ⟨wi, h1, h2⟩ := this
  refine ⟨wi, h1, fun σ H R R' k => h2 σ H R R' fun xs J H1 px R1 e1 wk => ?_⟩
  obtain ⟨m, e, e3⟩ := px
  subst e
  subst e3
  refine k _ J H1 rfl R1 e1 ?_
  have e : (fun i : Nat => PyData.int ((0 : Int) + (i : Int))) = nn := by funext i; show PyData.int _ = PyData.int _; rw [Int.zero_add]
  rw [e] at wk
  exact wk
end
/-! ### for -/
section
variable {X : Cx} {W : Wd} {Γ : List DV} {μ : Mu} {α : Type} {tg iter : Expr} {body rest : List Stmt} {pos p : Pos} {enc : α → PyData} {P : List α → Prop} {g : TG} {ok : PyData → Prop} {put : PyData → List DV → List DV} {ks : List Nat} {D : Ends}
theorem Rep.wdown {K : PySem.W.Frag} {W W' : Wd} {Γ : List DV} {μ : Mu} {σ : L2.St} {H : Hp} (l : Wle W W') (ok : WdOk K W) (R : Rep K W' Γ μ σ H) : Rep K W Γ μ σ H := by
  refine Rep.down l ok (fun p hp => ?_) R
  cases e : W.H0 p.1 with
  | none => rfl
  | some o =>
    have h := (R.mu p hp).1
    by_cases q : W.isRow p.1
    · have hM := l.m _ (Rep.isRow_M ok q)
      exact absurd h (R.wd.hid _ hM)
    · rw [l.keep _ o q e] at h
      cases h
theorem run_forG (hi : IterV X W Γ μ tg iter enc P) (hg : TgR X.K g ok put ks) (hpg : PG X tg g) (hok : ∀ xs, P xs → ∀ x ∈ xs, ok (enc x)) (J : List α → Nat → List DV → Mu → Prop) (h0 : ∀ xs, P xs → J xs 0 Γ μ)
    (hs : ∀ xs, P xs → ∀ W1, Wle W W1 → ∀ i x Γ' μ', xs[i]? = some x → J xs i Γ' μ' → Run X W1 (put (enc x) Γ') μ' body { D with nx := StP X.K W1 (J xs (i + 1)), ct := StP X.K W1 (J xs (i + 1)), bk := wSs X rest D })
    (hd' : ∀ xs, P xs → ∀ Γ' μ', J xs xs.length Γ' μ' → Run X W Γ' μ' rest D) (hp : PassesOwn (model X.prog X.w) X.A X.env X.xe := by exact PassesOwn.never) (hc : X.calm = true := by rfl) (hf : ∀ x, foldedSetIterable iter X.env x = pure x := by intro _; rfl) :
    Run X W Γ μ (.For tg iter body [] pos :: rest) D := fun σ H R => by
  obtain ⟨wi, h1, h2⟩ := hi
  refine wSs_cons ((ps_for hp hc h1 hpg wSs.ps hf).w ?_)
  refine h2 σ H R _ fun xs J' H1 px R1 e1 wk => ?_
  have le1 : Wle W (W.now μ H1) := R1.now_le
  refine ⟨fun i m σ H => m = xs.length - i ∧ i ≤ xs.length ∧ StP X.K (W.now μ H1) (J xs i) σ H, ⟨xs.length, by simp, Nat.zero_le _, Γ, μ, h0 xs px, R1.now⟩, ?_⟩
  rintro i m σ' H' ⟨rfl, hile, Γ', μ', j, R'⟩
  have pool : Same (off (hd W μ) H1) (off (hd (W.now μ H1) μ') H') := fun a o e => by
    obtain ⟨h1, h2⟩ := off_some e
    have z : (W.now μ H1).H0 a = some o := by
      show off (μ.map (·.1)) H1 a = some o
      rw [off_out (fun z => h1 (List.mem_append_right _ z))]
      exact h2
    rw [off_out (fun q => by
      rcases List.mem_append.mp q with q | q
      · exact h1 (List.mem_append_left _ q)
      · obtain ⟨p, hp, rfl⟩ := List.mem_map.mp q
        rw [(R'.mu p hp).1] at z
        cases z)]
    exact R'.fr.keep a o (fun q => h1 (List.mem_append_left _ (Rep.isRow_M R1.wd q))) z
  have pool0 : Same (off (hd W μ) H1) H' := fun a o e => (off_some (pool a o e)).2
  by_cases hlt : i < xs.length
  · refine .inr ⟨wk.go i H' (by simpa using hlt) pool0, StP X.K (W.now μ H1) (J xs (i + 1)), fun σ2 H2 q => ⟨xs.length - (i + 1), by omega, rfl, hlt, q⟩, fun v H2 y => ?_⟩
    obtain ⟨x, hx⟩ : ∃ x, xs[i]? = some x := ⟨xs[i], by simp [hlt]⟩
    obtain ⟨s2, r2⟩ := wk.yld i (enc x) H' v H2 _ (by rw [List.getElem?_map, hx]; rfl) R'.ne pool y
    have R2 := R'.same s2
    refine hg.run _ v (enc x) σ' H2 _ _ r2 (hok xs px x (List.mem_of_getElem? hx)) R2.sl fun σ3 sl3 _ _ => ?_
    exact hs xs px _ le1 i x Γ' μ' hx j σ3 H2 ⟨R2.wd, R2.fr, sl3, R2.mu, R2.nd⟩
  · have e : i = xs.length := by omega
    subst e
    refine .inl ⟨by have := wk.stop H' pool0; simpa using this, ?_⟩
    exact hd' xs px Γ' μ' j σ' H' (R'.wdown le1 R.wd)
/-- for n in iter -/
theorem run_for {xs : List α} {n : Str} (k : Nat) (hi : IterD X W Γ μ (.Name n p) iter enc xs) (J : Nat → List DV → Mu → Prop) (h0 : J 0 Γ μ)
    (hs : ∀ W1, Wle W W1 → ∀ i x Γ' μ', xs[i]? = some x → J i Γ' μ' → Run X W1 (Γ'.set k (.d (enc x))) μ' body { D with nx := StP X.K W1 (J (i + 1)), ct := StP X.K W1 (J (i + 1)), bk := wSs X rest D })
    (hd' : ∀ Γ' μ', J xs.length Γ' μ' → Run X W Γ' μ' rest D) (hN : X.N.Nodup) (hn : X.N[k]? = some n := by rfl) (hx : Loc X.env.scope n := by first | exact Or.inl rfl | exact Or.inr rfl) (hff : X.fn n = true ∨ X.env.scope.names.lookup n = some .local := by first | exact .inr rfl | exact .inl rfl)
    (hp : PassesOwn (model X.prog X.w) X.A X.env X.xe := by exact PassesOwn.never) (hc : X.calm = true := by rfl) (hf : ∀ x, foldedSetIterable iter X.env x = pure x := by intro _; rfl) :
    Run X W Γ μ (.For (.Name n p) iter body [] pos :: rest) D :=
  run_forG hi (tg_name k) (pg_name hN hn hx hff) (fun _ _ _ _ => trivial) (fun _ => J) (fun _ _ => h0) (fun _ e W1 l i x Γ' μ' h j => hs W1 l i x Γ' μ' (e ▸ h) j) (fun _ e Γ' μ' j => hd' Γ' μ' (e ▸ j)) hp hc hf
/-- the end of a turn -/
theorem run_turn {Φ : List DV → Mu → Prop} (hD : D.nx = StP X.K W Φ := by rfl) (h : Φ Γ μ) : Run X W Γ μ [] D := run_nil fun σ H R => by
  rw [hD]
  exact ⟨Γ, μ, h, R⟩
end
/-! ### defs -/
/-- a def of data: R tells what comes -/
def spR (K : PySem.W.Frag) (R : List PyData → PyData → Prop) : Sp := fun vs H Q _ => ∃ (L : List Addr) (ds : List PyData) (d : PyData), (∀ a ∈ L, H a ≠ none) ∧ VaAll K (off L H) vs ds ∧ R ds d ∧ ∀ v H', Same H H' → Va K (off L H') v d → Q v H'
/-- a def that draws from the row r (its first argument) -/
def spW (K : PySem.W.Frag) (pre : List PyData → Prop) (post : List PyData → PyData → Prop) : Sp := fun vs H Q _ => ∃ (M : List Addr) (r scr : Addr) (ns : List Int) (ws : List V) (ds : List PyData), vs = .ref r :: ws ∧ (∀ a ∈ M, H a ≠ none) ∧ r ∈ M ∧
  RowC H r scr ∧ SqL K H scr (ns.map V.int) ∧ scr ≠ r ∧ ns.length ≤ 63 ∧ VaAll K (off M H) ws ds ∧ pre ds ∧ ∀ v H' d, post ds d → (∀ a o, a ≠ r → H a = some o → H' a = some o) → RowC H' r scr → Va K (off M H') v d → Q v H'
/-- a def of the text, ready to be called -/
structure Fd (P : Program) (w : World) (K : PySem.W.Frag) (mg : Str → Option Value) (base : Heap) (k : Nat) (x : Str) (ps : List Str) (sp : Sp) : Prop where
  ex : ∃ (f : Addr) (fd : FuncData), FnOk P w K mg base CX0 k f fd ps sp ∧ mg x = some (.ref f) ∧ PySem.W.keepIn K (.ref f) = true ∧ Binds K fd ps []
section
variable {P : Program} {w : World} {K : PySem.W.Frag} {mg : Str → Option Value} {base : Heap} {x qual : Str} {params : Arguments} {body : List Stmt} {scope : Scope} {f : Addr} {fd : FuncData} {N ps : List Str} {k : Nat}
theorem slots_start {H : Hp} : ∀ {vs : List V} {ds : List PyData} (m : Nat), VaAll K H vs ds → Slots K H (vs.map some ++ List.replicate m none) (ds.map .d ++ List.replicate m .no) := fun {vs ds} m h => by
  refine ⟨by simp [h.length], fun i dv q => ?_⟩
  by_cases hl : i < ds.length
  · rw [List.getElem?_append_left (by simpa using hl), List.getElem?_map] at q
    obtain ⟨d, hd, rfl⟩ := Option.map_eq_some_iff.mp q
    obtain ⟨v, hv, r⟩ := h.at hd
    refine ⟨some v, ?_, v, rfl, r⟩
    rw [List.getElem?_append_left (by rw [List.length_map, h.length]; exact hl), List.getElem?_map, hv]
    rfl
  · rw [List.getElem?_append_right (by simp; omega), List.length_map] at q
    have hm : i - ds.length < m := by
      have := (List.getElem?_eq_some_iff.mp q).1
      simpa using this
    rw [List.getElem?_replicate, if_pos hm] at q
    cases q
    refine ⟨none, ?_, trivial⟩
    rw [List.getElem?_append_right (by simp [h.length]; omega), List.length_map, h.length, List.getElem?_replicate, if_pos hm]
theorem fd_pure (F : FunD K x qual params body scope [] [] f fd) (S : FnScope N ps scope) (R : List PyData → PyData → Prop) (hlen : ∀ ds d, R ds d → ds.length = ps.length)
    (h : ∀ (cdv : Value) (A : Around) (outer : List Env) (s : Shared) (H : Hp) (E : XK), Room k (A.deeper (envOfC qual scope s.heap.objs.size f cdv)) → ∀ (W : Wd) (ds : List PyData) (d : PyData), W.row = none → R ds d →
      Run (cxOf CX0 P w K mg base N qual scope f cdv A outer s H E).nox W (ds.map .d ++ List.replicate (N.length - ps.length) .no) [] body { nx := fun _ H' => RetP K W (fun z => z = d) .non H', rt := RetP K W (fun z => z = d) }) :
    FnOk P w K mg base CX0 (k + 1) f fd ps (spR K R) := by
  refine F.ok S (fun vs H Q E ⟨L, ds, d, _, hv, r, _⟩ => by rw [hv.length]; exact hlen ds d r) fun cdv A outer s H vs Q E hr ⟨L, ds, d, hL, hv, r, q⟩ => ?_
  refine ⟨_, PSs.nox wSs.ps, ?_⟩
  let W : Wd := ⟨H, L, none⟩
  have ok : WdOk K W := ⟨hL, fun _ _ _ e => nomatch e⟩
  have nr : ∀ a, ¬ W.isRow a := fun a ⟨_, _, e⟩ => nomatch e
  have sl : Slots K (off (hd W []) H) (start N vs) (ds.map .d ++ List.replicate (N.length - ps.length) .no) := by
    show Slots K (off (L ++ []) H) (vs.map some ++ List.replicate (N.length - vs.length) none) _
    rw [List.append_nil, hv.length, hlen ds d r]
    exact slots_start _ hv
  have ret : ∀ v H', RetP K W (fun z => z = d) v H' → Q v H' := fun v H' ⟨fr, d', e, hv'⟩ => q v H' (fun a o e => fr.keep a o (nr a) e) (e ▸ hv')
  intro pins st I
  have z := h cdv A outer s H E hr W ds d rfl r (start N vs) H ⟨ok, ⟨fun _ _ _ e => e, fun _ _ _ e => nomatch e⟩, sl, fun _ z => (nomatch z), List.nodup_nil⟩ pins st I
  refine wpAny_mono z (fun fl s' hq => ?_) fun _ _ z => z
  cases fl with
  | next =>
    obtain ⟨σ', H', I', q'⟩ := hq
    exact ⟨σ', H', I', ret _ _ q'⟩
  | brk => exact hq
  | cont => exact hq
  | ret u =>
    obtain ⟨v, σ', H', I', r', q'⟩ := hq
    exact ⟨v, σ', H', I', r', ret _ _ q'⟩
theorem fd_row (F : FunD K x qual params body scope [] [] f fd) (S : FnScope N ps scope) (pre : List PyData → Prop) (post : List PyData → PyData → Prop) (hlen : ∀ ds, pre ds → ds.length + 1 = ps.length)
    (h : ∀ (cdv : Value) (A : Around) (outer : List Env) (s : Shared) (H : Hp) (E : XK), Room k (A.deeper (envOfC qual scope s.heap.objs.size f cdv)) → ∀ (W : Wd) (r scr : Addr) (ns : List Int) (ds : List PyData), W.row = some (r, scr, ns) → pre ds →
      Run (cxOf CX0 P w K mg base N qual scope f cdv A outer s H E).nox W (.r r :: (ds.map .d ++ List.replicate (N.length - ps.length) .no)) [] body { nx := fun _ H' => RetP K W (post ds) .non H', rt := RetP K W (post ds) }) :
    FnOk P w K mg base CX0 (k + 1) f fd ps (spW K pre post) := by
  refine F.ok S (fun vs H Q E ⟨M, r, scr, ns, ws, ds, e, _, _, _, _, _, _, hv, hpre, _⟩ => by rw [e, List.length_cons, hv.length]; exact hlen ds hpre) fun cdv A outer s H vs Q E hr ⟨M, r, scr, ns, ws, ds, e, hM, hrM, hR, hS, hne, hns, hv, hp, q⟩ => ?_
  refine ⟨_, PSs.nox wSs.ps, ?_⟩
  let W : Wd := ⟨H, M, some (r, scr, ns)⟩
  have ok : WdOk K W := ⟨hM, fun r' s' n' e => by cases e; exact ⟨hrM, hS, hne, hns⟩⟩
  have nr : ∀ a, a ≠ r → ¬ W.isRow a := fun a n ⟨_, _, e⟩ => by cases e; exact n rfl
  have sl : Slots K (off (hd W []) H) (start N vs) (.r r :: (ds.map .d ++ List.replicate (N.length - ps.length) .no)) := by
    show Slots K (off (M ++ []) H) (vs.map some ++ List.replicate (N.length - vs.length) none) _
    rw [List.append_nil, e, List.length_cons, hv.length, hlen ds hp]
    have z := slots_start (K := K) (N.length - ps.length) hv
    refine ⟨by simp [z.len, hv.length], fun i dv hi => ?_⟩
    cases i with
    | zero => cases hi; exact ⟨_, rfl, rfl⟩
    | succ i => exact z.at_ i dv hi
  have ret : ∀ v H', RetP K W (post ds) v H' → Q v H' := fun v H' ⟨fr, d', e, hv'⟩ => q v H' d' e (fun a o n e => fr.keep a o (nr a n) e) (fr.row _ _ _ rfl) hv'
  intro pins st I
  have z := h cdv A outer s H E hr W r scr ns ds rfl hp (start N vs) H ⟨ok, ⟨fun _ _ _ e => e, fun r' s' n' e => by cases e; exact hR⟩, sl, fun _ z => (nomatch z), List.nodup_nil⟩ pins st I
  refine wpAny_mono z (fun fl s' hq => ?_) fun _ _ z => z
  cases fl with
  | next =>
    obtain ⟨σ', H', I', q'⟩ := hq
    exact ⟨σ', H', I', ret _ _ q'⟩
  | brk => exact hq
  | cont => exact hq
  | ret u =>
    obtain ⟨v, σ', H', I', r', q'⟩ := hq
    exact ⟨v, σ', H', I', r', ret _ _ q'⟩
theorem Fd.mono {j : Nat} {sp : Sp} (F : Fd P w K mg base j x ps sp) (h : j ≤ k) : Fd P w K mg base k x ps sp := by
  obtain ⟨f, fd, h1, h2⟩ := F.ex
  exact ⟨f, fd, h1.mono h, h2⟩
end
/-! ### calls of defs -/
section
variable {X : Cx} {W : Wd} {Γ : List DV} {μ : Mu} {e : Expr} {es : List Expr} {pos p : Pos} {x : Str} {ps : List Str} {k : Nat} {d : PyData} {ds : List PyData}
theorem ev_call {R : List PyData → PyData → Prop} {A : List PyData → Prop} {B : PyData → Prop} (F : Fd X.prog X.w X.K X.mg X.base k x ps (spR X.K R)) (hr : Room k X.A) (ha : EvA X W Γ μ (e :: es) A) (hR : ∀ ds, A ds → ∃ d, R ds d ∧ B d) (hg : Gl X x := by rfl)
    (hdb : (x == ("__debug__" : Str)) = false := by decide) (he : starEach (e :: es) X.env = (false, eval e X.env) :: starEach es X.env := by rfl) (hpl : (backTo pos (starEach es X.env)).any (·.1) = false := by rfl) : Ev X W Γ μ (.Call (.Name x p) (e :: es) [] pos) B := fun σ H R Q q => by
  obtain ⟨f, fd, h1, h2, h3, h4⟩ := F.ex
  refine (pe_call h1 hr hg h2 h3 h4 .nil pass0 wA.pa hdb he hpl).w (ha σ H R _ fun vs ds H2 R2 e2 r2 pa => ?_)
  obtain ⟨d, hd, pb⟩ := hR ds pa
  refine ⟨HW.hd W μ, ds, d, R2.ne, by rw [List.append_nil]; exact r2, hd, fun v H3 s3 r3 => q v d H3 (R2.same s3) (e2.trans (XT.same s3)) r3 pb⟩
theorem ed_call {R : List PyData → PyData → Prop} (F : Fd X.prog X.w X.K X.mg X.base k x ps (spR X.K R)) (hr : Room k X.A) (ha : EdA X W Γ μ (e :: es) ds) (hR : R ds d) (hg : Gl X x := by rfl)
    (hdb : (x == ("__debug__" : Str)) = false := by decide) (he : starEach (e :: es) X.env = (false, eval e X.env) :: starEach es X.env := by rfl) (hpl : (backTo pos (starEach es X.env)).any (·.1) = false := by rfl) : Ed X W Γ μ (.Call (.Name x p) (e :: es) [] pos) d :=
  (ev_call (B := fun z => z = d) F hr (ha.ev (P := fun l => l = ds) rfl) (fun _ e => ⟨d, e ▸ hR, rfl⟩) hg hdb he hpl).ed
/-- f(row, ..), f a def that draws -/
theorem ev_draw {pre : List PyData → Prop} {post : List PyData → PyData → Prop} {A : List PyData → Prop} {n : Str} {p2 : Pos} {r scr : Addr} {ns : List Int} (F : Fd X.prog X.w X.K X.mg X.base k x ps (spW X.K pre post)) (hr : Room k X.A) (hrow : W.row = some (r, scr, ns)) (i : Nat) (ha : EvA X W Γ μ es A) (hR : ∀ ds, A ds → pre ds)
    (hi : Γ[i]? = some (.r r) := by rfl) (hN : X.N[i]? = some n := by rfl) (hv : Vis X.env.scope n := by first | exact Or.inl rfl | exact Or.inr (Or.inl rfl) | exact Or.inr (Or.inr rfl))
    (h1 : (n == ("__debug__" : Str)) = false := by decide) (h2 : (n == ("__classdict__" : Str)) = false := by decide) (hg : Gl X x := by rfl)
    (hdb : (x == ("__debug__" : Str)) = false := by decide) (he : starEach (.Name n p2 :: es) X.env = (false, eval (.Name n p2) X.env) :: starEach es X.env := by rfl) (hpl : (backTo pos (starEach es X.env)).any (·.1) = false := by rfl) :
    Ev X W Γ μ (.Call (.Name x p) (.Name n p2 :: es) [] pos) (fun d => ∃ ds, A ds ∧ post ds d) := fun σ H R Q q => by
  obtain ⟨f, fd, g1, g2, g3, g4⟩ := F.ex
  refine (pe_call g1 hr hg g2 g3 g4 .nil pass0 (pa_cons (pe_var hN hv h1 h2) wA.pa he) hdb he hpl).w ?_
  obtain ⟨o, e1, e2⟩ := R.sl.at_ i _ hi
  have e2' : o = some (.ref r) := e2
  subst e2'
  refine ⟨_, e1, ha σ H R _ fun vs ds H2 R2 e2 r2 pa => ?_⟩
  obtain ⟨w1, w2, w3, w4⟩ := R2.wd.row r scr ns hrow
  have isr : W.isRow r := ⟨scr, ns, hrow⟩
  have sq : SqL X.K H2 scr (ns.map V.int) := SqL.up (fun o e => R2.fr.keep scr o (fun ⟨s2, n2, z⟩ => by
    rw [hrow] at z
    cases z
    exact w3 rfl) e) w2
  refine ⟨hd W μ, r, scr, ns, vs, ds, by rw [List.append_nil], R2.ne, List.mem_append_left _ w1, R2.fr.row r scr ns hrow, sq, w3, w4, r2, hR ds pa, fun v H3 d pd keep rc r3 => ?_⟩
  have nor : ∀ a, ¬ W.isRow a → a ≠ r := fun a n z => n (z ▸ isr)
  have xt : XT (hd W μ) H2 H3 := fun a o e => by
    obtain ⟨h1, h2⟩ := off_some e
    rw [off_out h1]
    exact keep a o (fun z => h1 (List.mem_append_left _ (z ▸ w1))) h2
  have R3 : Rep X.K W Γ μ σ H3 := ⟨R2.wd, ⟨fun a o n e => keep a o (nor a n) (R2.fr.keep a o n e), fun r' s' n' e => by
    rw [hrow] at e
    cases e
    exact rc⟩, R2.sl.up xt, fun p hp => ⟨(R2.mu p hp).1, (R2.mu p hp).2.up xt fun o e => keep _ o (fun z => by
      have := (R2.mu p hp).1
      rw [z] at this
      exact R2.wd.hid r w1 this) e⟩, R2.nd⟩
  exact q v d H3 R3 (e2.trans xt) r3 ⟨ds, pa, pd⟩
end
end HW
set_option maxHeartbeats 4000000
namespace HW
open PySem PySem.Spec PyProof.Rows L2
open SX (S)
section
variable {X : Cx}
theorem IxR.to {r r' : R2} (h : IxR X r) (i : ∀ a b H Q, r' a b H Q → r a b H Q) : IxR X r' := fun e1 e2 pins s σ H x y v u Q I rx ry q hs => h e1 e2 pins s σ H x y v u Q I rx ry (i _ _ _ _ q) hs
theorem MtR.to {id : String} {r r' : V → List V → Hp → VK → Prop} (h : MtR X id r) (i : ∀ x vs H Q, r' x vs H Q → r x vs H Q) : MtR X id r' := fun pins s σ H x xs v us Q I rx rv q => h pins s σ H x xs v us Q I rx rv (i _ _ _ _ q)
/-! ### numbers -/
variable {i j : Int}
theorem o_add : OpD X (binaryOp .Add) (.int i) (.int j) (.int (i + j)) := OpR.to op_add fun a b H Q ⟨L, _, ha, hb, k⟩ => by cases ha; cases hb; exact ⟨i, j, rfl, rfl, k _ _ (Same.refl _) (.int _)⟩
theorem o_sub : OpD X (binaryOp .Sub) (.int i) (.int j) (.int (i - j)) := OpR.to op_sub fun a b H Q ⟨L, _, ha, hb, k⟩ => by cases ha; cases hb; exact ⟨i, j, rfl, rfl, k _ _ (Same.refl _) (.int _)⟩
theorem c_lt : OpD X (compareOp .Lt) (.int i) (.int j) (.bool (decide (i < j))) := OpR.to op_lt fun a b H Q ⟨L, _, ha, hb, k⟩ => by cases ha; cases hb; exact ⟨i, j, rfl, rfl, k _ _ (Same.refl _) (.bl _)⟩
theorem c_le : OpD X (compareOp .LtE) (.int i) (.int j) (.bool (decide (i ≤ j))) := OpR.to op_le fun a b H Q ⟨L, _, ha, hb, k⟩ => by cases ha; cases hb; exact ⟨i, j, rfl, rfl, k _ _ (Same.refl _) (.bl _)⟩
theorem c_gt : OpD X (compareOp .Gt) (.int i) (.int j) (.bool (decide (j < i))) := OpR.to op_gt fun a b H Q ⟨L, _, ha, hb, k⟩ => by cases ha; cases hb; exact ⟨i, j, rfl, rfl, k _ _ (Same.refl _) (.bl _)⟩
theorem c_ge : OpD X (compareOp .GtE) (.int i) (.int j) (.bool (decide (j ≤ i))) := OpR.to op_ge fun a b H Q ⟨L, _, ha, hb, k⟩ => by cases ha; cases hb; exact ⟨i, j, rfl, rfl, k _ _ (Same.refl _) (.bl _)⟩
theorem c_eqI : OpD X (compareOp .Eq) (.int i) (.int j) (.bool (decide (i = j))) := OpR.to op_eq fun a b H Q ⟨L, _, ha, hb, k⟩ => by
  cases ha; cases hb
  refine ⟨rfl, ?_⟩
  rw [dec_int, Bool.beq_eq_decide_eq]
  exact k _ _ (Same.refl _) (.bl _)
theorem c_neI : OpD X (compareOp .NotEq) (.int i) (.int j) (.bool (!decide (i = j))) := OpR.to op_ne fun a b H Q ⟨L, _, ha, hb, k⟩ => by
  cases ha; cases hb
  refine ⟨rfl, ?_⟩
  rw [dec_int, Bool.beq_eq_decide_eq]
  exact k _ _ (Same.refl _) (.bl _)
/-! ### any data -/
theorem c_neD {x y : PyData} (hu : X.A.units + 64 < cLine) (hx : SeqAt.shaped x = true) (hy : SeqAt.shaped y = true) : OpD X (compareOp .NotEq) x y (.bool (!PyData.eqv x y)) := OpR.to (op_neD hu) fun a b H Q ⟨L, _, ha, hb, k⟩ =>
  ⟨x, y, (ha.up same_off).dp (nod_of_lay (SeqAt.canLay_of_shaped hx)), (hb.up same_off).dp (nod_of_lay (SeqAt.canLay_of_shaped hy)), hx, hy, k _ _ (Same.refl _) (.bl _)⟩
theorem c_notN {x : PyData} : OpD X (compareOp .IsNot) x .none (.bool (match x with | .none => false | _ => true)) := OpR.to op_notN fun a b H Q ⟨L, _, ha, hb, k⟩ => by
  cases hb
  refine ⟨rfl, ?_⟩
  cases ha <;> exact k _ _ (Same.refl _) (.bl _)
/-! ### texts -/
variable {l m : List Nat}
theorem S_eq {a b : List Nat} : decide (V.str (S a) = V.str (S b)) = decide (a = b) := by rw [dec_str, SX.S_beq_eq]
theorem c_eqS : OpD X (compareOp .Eq) (.str (S l)) (.str (S m)) (.bool (decide (l = m))) := OpR.to op_eq fun a b H Q ⟨L, _, ha, hb, k⟩ => by
  cases ha; cases hb
  refine ⟨rfl, ?_⟩
  rw [S_eq]
  exact k _ _ (Same.refl _) (.bl _)
theorem c_neS : OpD X (compareOp .NotEq) (.str (S l)) (.str (S m)) (.bool (!decide (l = m))) := OpR.to op_ne fun a b H Q ⟨L, _, ha, hb, k⟩ => by
  cases ha; cases hb
  refine ⟨rfl, ?_⟩
  rw [S_eq]
  exact k _ _ (Same.refl _) (.bl _)
theorem o_adds (h : l.length + m.length ≤ 16777216) : OpD X (binaryOp .Add) (.str (S l)) (.str (S m)) (.str (S (l ++ m))) := OpR.to op_add_str fun a b H Q ⟨L, _, ha, hb, k⟩ => by
  cases ha; cases hb
  refine ⟨_, _, rfl, rfl, by rw [SX.S_len, SX.S_len]; exact h, ?_⟩
  rw [SX.S_cat]
  exact k _ _ (Same.refl _) (.str _)
/-- one sign in a text -/
theorem c_inS {c : Nat} : OpD X (compareOp .In) (sg c) (.str (S m)) (.bool (decide (c ∈ m))) := OpR.to op_in_sign fun a b H Q ⟨L, _, ha, hb, k⟩ => by
  cases ha; cases hb
  exact ⟨c, S m, rfl, rfl, k _ _ (Same.refl _) (.bl _)⟩
theorem at_nat {α : Type} {l : List α} {i : Int} {n : Nat} {c : α} (e : i = (n : Int)) (h : l[n]? = some c) : atI l i = some c := by
  rw [e]
  have hl := (List.getElem?_eq_some_iff.mp h).1
  unfold atI ixN
  rw [if_pos (Int.natCast_nonneg n), if_pos (by omega)]
  simpa using h
theorem i_str {c : Nat} {n : Nat} (hl : l.length ≤ 16777216) (hc : l[n]? = some c) (e : i = (n : Int) := by rfl) : IxD X (.str (S l)) (.int i) (sg c) := IxR.to ix_str fun a b H Q ⟨L, _, ha, hb, k⟩ => by
  cases ha; cases hb
  exact ⟨S l, i, c, rfl, rfl, by rw [SX.S_len]; exact hl, at_nat e hc, k _ _ (Same.refl _) (.str _)⟩
/-- s[-1] -/
theorem at_last {α : Type} {l : List α} {c : α} (h : l.getLast? = some c) : atI l (-1) = some c := by
  have hl : l ≠ [] := by rintro rfl; simp at h
  have hp : 0 < l.length := List.length_pos_iff.mpr hl
  unfold atI ixN
  rw [if_neg (by decide), if_pos (by omega)]
  have e : ((-1 : Int) + (l.length : Int)).toNat = l.length - 1 := by omega
  show l[((-1 : Int) + (l.length : Int)).toNat]? = some c
  rw [e, ← h, List.getLast?_eq_getElem?]
theorem i_strL {c : Nat} (hl : l.length ≤ 16777216) (hc : l.getLast? = some c) : IxD X (.str (S l)) (.int (-1)) (sg c) := IxR.to ix_str fun a b H Q ⟨L, _, ha, hb, k⟩ => by
  cases ha; cases hb
  exact ⟨S l, -1, c, rfl, rfl, by rw [SX.S_len]; exact hl, at_last hc, k _ _ (Same.refl _) (.str _)⟩
theorem c_lenS (h : l.length ≤ 16777216) : CallD X (.builtin "len") [.str (S l)] (nn l.length) := CallR.to call_len_str fun vs H Q ⟨L, _, hv, k⟩ => by
  cases hv with
  | cons h1 h2 =>
    cases h2; cases h1
    refine ⟨_, rfl, by rw [SX.S_len]; exact h, ?_⟩
    rw [SX.S_len]
    exact k _ _ (Same.refl _) (.int _)
/-! ### lists, tuples -/
variable {ds es : List PyData} {d : PyData}
theorem c_lenL : CallD X (.builtin "len") [.list ds] (nn ds.length) := CallR.to call_len_seq fun vs H Q ⟨L, _, hv, k⟩ => by
  cases hv with
  | cons h1 h2 =>
    cases h2
    cases h1 with
    | lst ha hs => exact ⟨_, _, rfl, .inl (SqL.of (off_some ha).2), by rw [hs.length]; exact k _ _ (Same.refl _) (.int _)⟩
theorem c_lenT : CallD X (.builtin "len") [.tuple ds] (nn ds.length) := CallR.to call_len_seq fun vs H Q ⟨L, _, hv, k⟩ => by
  cases hv with
  | cons h1 h2 =>
    cases h2
    cases h1 with
    | tup ha hs => exact ⟨_, _, rfl, .inr (SqT.up same_off ha), by rw [hs.length]; exact k _ _ (Same.refl _) (.int _)⟩
theorem i_list {n : Nat} (hd : ds[n]? = some d) (e : i = (n : Int) := by rfl) : IxD X (.list ds) (.int i) d := IxR.to ix_list fun a b H Q ⟨L, _, ha, hb, k⟩ => by
  cases hb
  cases ha with
  | lst ha hs =>
    obtain ⟨v, hv, r⟩ := hs.at hd
    exact ⟨_, _, i, v, rfl, rfl, SqL.of (off_some ha).2, at_nat e hv, k _ _ (Same.refl _) r⟩
theorem i_tup {n : Nat} (hd : ds[n]? = some d) (e : i = (n : Int) := by rfl) : IxD X (.tuple ds) (.int i) d := IxR.to ix_tup fun a b H Q ⟨L, _, ha, hb, k⟩ => by
  cases hb
  cases ha with
  | tup ha hs =>
    obtain ⟨v, hv, r⟩ := hs.at hd
    exact ⟨_, _, i, v, rfl, rfl, SqT.up same_off ha, at_nat e hv, k _ _ (Same.refl _) r⟩
theorem o_cat (h : ds.length + es.length ≤ 16777216) : OpD X (binaryOp .Add) (.list ds) (.list es) (.list (ds ++ es)) := OpR.to op_cat fun a b H Q ⟨L, hL, ha, hb, k⟩ => by
  cases ha with
  | lst ha hs =>
    cases hb with
    | lst hb ht =>
      refine ⟨_, _, _, _, rfl, rfl, (off_some ha).2, (off_some hb).2, by rw [hs.length, ht.length]; exact h, fun p hp => ?_⟩
      exact k _ _ (same_new hp) (.lst (off_upd (new_out hL hp)) ((hs.app ht).up (XT.same (same_new hp))))
theorem vaAll_rep {K : PySem.W.Frag} {H : Hp} {vs : List V} {ds : List PyData} (h : VaAll K H vs ds) : ∀ n : Nat, VaAll K H (List.replicate n vs).flatten (List.replicate n ds).flatten
  | 0 => .nil
  | n + 1 => by
    rw [List.replicate_succ, List.replicate_succ, List.flatten_cons, List.flatten_cons]
    exact h.app (vaAll_rep h n)
theorem o_rep (h : ds.length * j.toNat ≤ 16777216) (hj : -1000000000 ≤ j ∧ j ≤ 1000000000) : OpD X (binaryOp .Mult) (.list ds) (.int j) (.list (List.replicate j.toNat ds).flatten) := OpR.to op_rep fun a b H Q ⟨L, hL, ha, hb, k⟩ => by
  cases hb
  cases ha with
  | lst ha hs =>
    refine ⟨_, _, _, rfl, rfl, (off_some ha).2, by omega, by omega, by rw [hs.length]; exact h, fun p hp => ?_⟩
    exact k _ _ (same_new hp) (.lst (off_upd (new_out hL hp)) ((vaAll_rep hs _).up (XT.same (same_new hp))))
theorem c_all {bs : List Bool} (hc : X.calm = true) : CallD X (.builtin "all") [.list (bs.map .bool)] (.bool (bs.all id)) := CallR.to (cr_all hc) fun vs H Q ⟨L, _, hv, k⟩ => by
  cases hv with
  | cons h1 h2 =>
    cases h2
    cases h1 with
    | lst ha hs => exact ⟨_, bs, rfl, by rw [← hs.bls]; exact SqL.of (off_some ha).2, k _ _ (Same.refl _) (.bl _)⟩
end
/-! ### methods of texts: sep.join -/
section
variable {X : Cx} {W : Wd} {Γ : List DV} {μ : Mu} {e o : Expr} {pos apos p : Pos} {l : List Nat} {ws : List (List Nat)}
theorem flat_join : ∀ ws : List (List Nat), TL.joinL [] ws = ws.flatten
  | [] => rfl
  | [w] => by simp [TL.joinL]
  | w :: v :: r => by
    have ih := flat_join (v :: r)
    rw [List.flatten_cons, ← ih]
    simp [TL.joinL]
theorem vaAll_S {K : PySem.W.Frag} {H : Hp} {vs : List V} (h : VaAll K H vs (ws.map fun w => PyData.str (S w))) : vs = (ws.map S).map V.str := by
  have e : (ws.map fun w => PyData.str (S w)) = (ws.map S).map PyData.str := by rw [List.map_map]; rfl
  rw [e] at h
  exact h.strs
theorem ev_join {Ws : List (List Nat) → Prop} (ho : Ed X W Γ μ o (.str (S []))) (he : Ev X W Γ μ e (fun z => ∃ ws : List (List Nat), z = .list (ws.map fun w => .str (S w)) ∧ Ws ws)) (hz : ∀ ws, Ws ws → (ws.map List.length).sum ≤ 16777216)
    (hs : starEach [e] X.env = [(false, eval e X.env)] := by rfl) (hbase : attributeBase o "join" X.env (eval o X.env) = eval o X.env := by rfl) (hline : (apos.endLine == pos.line) = true := by rfl) :
    Ev X W Γ μ (.Call (.Attribute o "join" apos) [e] [] pos) (fun z => ∃ ws, z = .str (S ws.flatten) ∧ Ws ws) := fun σ H R Q q => by
  refine (pe_join wE.pe wE.pe hs hbase hline).w (ho σ H R _ fun v H2 R2 e2 r2 => ?_)
  cases r2
  refine ⟨⟨_, rfl⟩, he σ H2 R2 _ fun v d H3 R3 e3 r3 ⟨ws, ed, pw⟩ => ?_⟩
  subst ed
  cases r3 with
  | lst ha hv =>
    have ev := vaAll_S hv
    refine ⟨S [], _, ws.map S, rfl, rfl, .inl (by rw [← ev]; exact SqL.of (off_some ha).2), ?_, ?_⟩
    · rw [List.map_map]
      have z := hz ws pw
      have e1 : (ws.map ((fun x : Str => x.length) ∘ S)) = ws.map List.length := List.map_congr_left fun w _ => SX.S_len w
      rw [e1, SX.S_len]
      simpa using z
    · rw [SX.join_S, flat_join]
      exact q _ _ H3 R3 (e2.trans e3) (.str _) ⟨ws, rfl, pw⟩
/-! ### slices -/
theorem po_int {lo : Expr} {z : Int} (h : Ed X W Γ μ lo (.int z)) : ∀ σ H, Rep X.K W Γ μ σ H → ∀ Q : Option Int → Hp → Prop, (∀ H2, Rep X.K W Γ μ σ H2 → XT (hd W μ) H H2 → Q (some z) H2) → tPart (wE X lo) σ H Q := fun σ H R Q q => h σ H R _ fun v H2 R2 e2 r => by
  cases r
  exact ⟨z, rfl, q H2 R2 e2⟩
/-- a part of a slice -/
def EdO (X : Cx) (W : Wd) (Γ : List DV) (μ : Mu) (e : Option Expr) (o : Option Int) : Prop := ∃ t, PO X e t ∧ ∀ σ H, Rep X.K W Γ μ σ H → ∀ Q : Option Int → Hp → Prop, (∀ H2, Rep X.K W Γ μ σ H2 → XT (hd W μ) H H2 → Q o H2) → t σ H Q
theorem so_none : EdO X W Γ μ none none := ⟨_, po_none, fun σ H R Q q => q H R XT.refl⟩
theorem so_some {z : Int} (h : Ed X W Γ μ e (.int z)) : EdO X W Γ μ (some e) (some z) := ⟨_, po_some wE.pe, po_int h⟩
/-- a slice by values -/
def rDs (K : PySem.W.Frag) (d : PyData) (lo hi : Option Int) (z : PyData) : V → Option Int → Option Int → Hp → VK → Prop := fun v l h H Q => l = lo ∧ h = hi ∧ ∃ L : List Addr, (∀ a ∈ L, H a ≠ none) ∧ Va K (off L H) v d ∧ ∀ v' H2, Same H H2 → Va K (off L H2) v' z → Q v' H2
def SlD (X : Cx) (d : PyData) (lo hi : Option Int) (z : PyData) : Prop := L2.SlR X (rDs X.K d lo hi z)
theorem SlR.to {r r' : V → Option Int → Option Int → Hp → VK → Prop} (h : L2.SlR X r) (i : ∀ x l u H Q, r' x l u H Q → r x l u H Q) : L2.SlR X r' := fun pins s σ H x v vl vu lo hi sl Q I rx hs pl pu q => h pins s σ H x v vl vu lo hi sl Q I rx hs pl pu (i _ _ _ _ _ q)
theorem ed_sl {a : Expr} {lo hi : Option Expr} {l u : Option Int} {d z : PyData} {p2 : Pos} (ha : Ed X W Γ μ a d) (hl : EdO X W Γ μ lo l) (hu : EdO X W Γ μ hi u) (hs : SlD X d l u z) : Ed X W Γ μ (.Subscript a (.Slice lo hi none p2) pos) z := fun σ H R Q q => by
  obtain ⟨tl, l1, l2⟩ := hl
  obtain ⟨tu, u1, u2⟩ := hu
  refine (pe_slice (r := rDs X.K d l u z) hs wE.pe l1 u1).w (ha σ H R _ fun v H2 R2 e2 r2 => l2 σ H2 R2 _ fun H3 R3 e3 => u2 σ H3 R3 _ fun H4 R4 e4 => ?_)
  exact ⟨rfl, rfl, hd W μ, R4.ne, (r2.up e3).up e4, fun v' H5 s5 r5 => q v' H5 (R4.same s5) (((e2.trans e3).trans e4).trans (XT.same s5)) r5⟩
end
section
variable {X : Cx} {l : List Nat} {ds : List PyData} {n m : Nat}
theorem s_str {lo hi : Option Int} (h : l.length ≤ 16777216) : SlD X (.str (S l)) lo hi (.str (S ((l.drop (HT.sIx l.length 0 lo)).take (HT.sIx l.length l.length hi - HT.sIx l.length 0 lo)))) := SlR.to sl_str fun v l' u H Q ⟨e1, e2, L, hL, hv, k⟩ => by
  subst e1 e2
  cases hv
  refine ⟨_, rfl, by rw [SX.S_len]; exact h, ?_⟩
  unfold cutS
  rw [SX.S_len]
  exact k _ _ (Same.refl _) (.str _)
theorem s_strT (n : Nat) {z : Int} (hl : l.length ≤ 16777216) (e : z = (n : Int) := by rfl) : SlD X (.str (S l)) none (some z) (.str (S (l.take n))) := by
  have h := s_str (X := X) (l := l) (lo := none) (hi := some z) hl
  subst e
  rw [HT.sIx_none, HT.sIx_nat, List.drop_zero, Nat.sub_zero] at h
  have e2 : l.take (min n l.length) = l.take n := by
    rw [Nat.min_def]
    split
    · rfl
    · rw [List.take_of_length_le (by omega), List.take_of_length_le (by omega)]
  rw [e2] at h
  exact h
theorem s_strD (n : Nat) {z : Int} (hl : l.length ≤ 16777216) (e : z = (n : Int) := by rfl) : SlD X (.str (S l)) (some z) none (.str (S (l.drop n))) := by
  have h := s_str (X := X) (l := l) (lo := some z) (hi := none) hl
  subst e
  rw [HT.sIx_none, HT.sIx_nat] at h
  have e2 : (l.drop (min n l.length)).take (l.length - min n l.length) = l.drop n := by
    rw [Nat.min_def]
    split
    · rw [List.take_of_length_le (by simp)]
    · rw [List.drop_of_length_le (by omega), List.drop_of_length_le (by omega)]
      simp
  rw [e2] at h
  exact h
end
/-! ### isinstance -/
def tyD : PyData → String
  | .none => "NoneType"
  | .bool _ => "bool"
  | .int _ => "int"
  | .str _ => "str"
  | .list _ => "list"
  | .tuple _ => "tuple"
  | .dict _ => "dict"
def isPtr : PyData → Bool
  | .dict (_ :: _) => true
  | _ => false
theorem va_ty {K : PySem.W.Frag} {H : Hp} {L : List Addr} {v : V} {d : PyData} (h : Va K (off L H) v d) (hp : isPtr d = false) : TyX K H v (.type (tyD d)) := by
  cases h with
  | non => exact .base .non
  | bl b => exact .base (.bl b)
  | int i => exact .base (.int i)
  | str x => exact .base (.str x)
  | lst ha _ => exact .base (.lst (off_some ha).2)
  | tup ha _ =>
    rcases SqT.up same_off ha with (h | ⟨o, h⟩) | ⟨o, its, n, hk, hc, _⟩
    · exact .base (.tup h)
    · exact .fTuple h
    · exact .kTuple hk hc
  | dct ha => exact .base (.dK (off_some ha).2)
  | ptr a => cases hp
  | dcf _ _ _ => cases hp
  | dtf _ _ _ => cases hp
section
variable {X : Cx} {W : Wd} {Γ : List DV} {μ : Mu} {e : Expr} {d : PyData} {pos p p2 : Pos} {b : Bool}
theorem ed_isi {T : String} {n : Str} (he : Ed X W Γ μ e d) (hm : X.mg "isinstance" = none) (hmT : X.mg n = none) (hv : bootBuiltins n = some (.type T)) (hk : ∀ K, PySem.W.kitOne K (.type (tyD d)) (.type T) = some b := by intro K; rfl) (hp : isPtr d = false := by first | rfl | assumption) (hg : Gl X "isinstance" := by rfl) (hgT : Gl X n := by rfl)
    (hn : n ≠ "__name__" := by decide) (hdb : (n == ("__debug__" : Str)) = false := by decide)
    (hs : starEach [e, .Name n p2] X.env = (false, eval e X.env) :: starEach [.Name n p2] X.env := by rfl) (hs2 : starEach [.Name n p2] X.env = (false, eval (.Name n p2) X.env) :: starEach [] X.env := by rfl) (hpl : (backTo pos (starEach [.Name n p2] X.env)).any (·.1) = false := by rfl) :
    Ed X W Γ μ (.Call (.Name "isinstance" p) [e, .Name n p2] [] pos) (.bool b) := fun σ H R Q q => by
  refine (pe_callB call_isi hg hm boot_isinstance (pa_cons wE.pe (pa_cons (pe_bltn (v := .ty T) hgT hmT hv rfl hn hdb) pa_nil hs2) hs) (by decide) (by decide) hs hpl).w (he σ H R _ fun v H2 R2 e2 r2 => ?_)
  exact ⟨v, .ty T, _, _, b, rfl, .ty T, va_ty r2 hp, hk _, q _ H2 R2 e2 (.bl b)⟩
end
end HW
set_option maxHeartbeats 4000000
namespace HW
open PySem PySem.Spec PyProof.Rows L2
open SX (S)
/-! ### what is gone through, in one shape -/
inductive Sc where
  | txt (x : Str) | lst (a : Addr) | tup (a : Addr)
def Sc.v : Sc → V
  | .txt x => .str x
  | .lst a => .ref a
  | .tup a => .ref a
def signsV (x : Str) : List V := x.cps.toList.map fun c => .str ⟨#[c]⟩
def Sc.xs (K : PySem.W.Frag) (H : Hp) : Sc → List V → Prop
  | .txt x, xs => xs = signsV x
  | .lst a, xs => SqL K H a xs
  | .tup a, xs => SqT K H a xs
def Sc.fp : Sc → List Addr
  | .txt _ => []
  | .lst a => [a]
  | .tup a => [a]
def Sc.it : Sc → Tok → Addr → Nat → Heap → Prop
  | .txt x, t, it, i, h => h.IsStrIter it (strIterType x) x t i
  | .lst a, _, it, i, h => h.IsListIter it a i
  | .tup a, _, it, i, h => h.IsTupleIter it a i
theorem Sc.at {k : Sc} {t : Tok} {it : Addr} {i : Nat} {h h' : Heap} (s : k.it t it i h) (e : ∀ o, h.get? it = some o → h'.get? it = some o) : k.it t it i h' := by
  cases k with
  | txt x => let ⟨o, ho, r⟩ := s; exact ⟨o, e o ho, r⟩
  | lst a => exact Heap.IsListIter.at s e
  | tup a => exact Heap.IsTupleIter.at s e
theorem Sc.obj {k : Sc} {t : Tok} {it : Addr} {i : Nat} {h : Heap} (s : k.it t it i h) : ∃ o, h.get? it = some o ∧ ∀ v, o.data ≠ .cell v := by
  cases k with
  | txt x => obtain ⟨o, e, c, d⟩ := s; exact ⟨o, e, fun v z => by rw [d] at z; cases z⟩
  | lst a => obtain ⟨o, e, c, d⟩ := s; exact ⟨o, e, fun v z => by rw [d] at z; cases z⟩
  | tup a => obtain ⟨o, e, c, d⟩ := s; exact ⟨o, e, fun v z => by rw [d] at z; cases z⟩
theorem sc_draws {X : Cx} {pins : List (Addr × Obj)} {σ : L2.St} {H : Hp} {s : Shared} {k : Sc} {xs : List V} {t : Tok} {it : Addr} {i : Nat} (I : Inv X pins σ H s) (hc : X.calm = true) (hx : k.xs X.K H xs) (st : k.it t it i s.heap) (hne : ∀ a ∈ k.fp, a ≠ it) :
    ∃ (n : Nat) (P : Nat → Value → Prop) (St : Nat → Heap → Prop), Draws X.prog X.w X.A.in1 it (it :: k.fp) n P St ∧ St i s.heap ∧ n = xs.length ∧ (∀ j v, P j v → ∃ x, xs[j]? = some x ∧ RelV x v) ∧ ∀ j h, St j h → k.it t it j h := by
  have hh : X.A.in1.handled = none := I.ok.hd hc
  cases k with
  | txt x =>
    have e : xs = signsV x := hx
    subst e
    have D := Draws.text (prog := X.prog) (w := X.w) (A := X.A.in1) hh it x t
    refine ⟨_, _, _, D, st, by simp [signsV], fun j v ⟨c, u, h1, h2⟩ => ⟨.str ⟨#[c]⟩, ?_, u, h2⟩, fun j h q => q⟩
    simp [signsV, h1]
  | lst a =>
    obtain ⟨its, rv, p, _⟩ := I.list (show SqL X.K H a xs from hx)
    have D := Draws.list (prog := X.prog) (w := X.w) (A := X.A.in1) hh it a (hne a (by simp [Sc.fp])) its.toArray
    refine ⟨_, _, _, D, ⟨st, p.isList⟩, by simp [rv.length], fun j v hv => ?_, fun j h q => q.1⟩
    have hv' : its[j]? = some v := by simpa using hv
    have hl : j < xs.length := by
      have := (List.getElem?_eq_some_iff.mp hv').1
      rw [rv.length]
      exact this
    have hxj : xs[j]? = some xs[j] := List.getElem?_eq_getElem hl
    obtain ⟨u, hu, ru⟩ := rv.get hxj
    rw [hv'] at hu
    cases hu
    exact ⟨_, hxj, ru⟩
  | tup a =>
    obtain ⟨its, rv, p, _⟩ := I.tuple (show SqT X.K H a xs from hx)
    have D := Draws.tuple (prog := X.prog) (w := X.w) (A := X.A.in1) hh it a (hne a (by simp [Sc.fp])) its.toArray
    refine ⟨_, _, _, D, ⟨st, p⟩, by simp [rv.length], fun j v hv => ?_, fun j h q => q.1⟩
    have hv' : its[j]? = some v := by simpa using hv
    have hl : j < xs.length := by
      have := (List.getElem?_eq_some_iff.mp hv').1
      rw [rv.length]
      exact this
    have hxj : xs[j]? = some xs[j] := List.getElem?_eq_getElem hl
    obtain ⟨u, hu, ru⟩ := rv.get hxj
    rw [hv'] at hu
    cases hu
    exact ⟨_, hxj, ru⟩
theorem Sc.inj {X : Cx} {pins : List (Addr × Obj)} {σ : L2.St} {H : Hp} {s : Shared} {k : Sc} {xs ys : List V} (I : Inv X pins σ H s) (h : k.xs X.K H xs) (h' : k.xs X.K H ys) : xs = ys := by
  cases k with
  | txt x => exact Eq.trans (show xs = signsV x from h) (show ys = signsV x from h').symm
  | lst a => exact I.list_inj h h'
  | tup a => exact I.tuple_inj h h'
theorem sc_begins {X : Cx} {pins : List (Addr × Obj)} {σ : L2.St} {H : Hp} {s : Shared} {k : Sc} {xs : List V} {u : Value} (I : Inv X pins σ H s) (hx : k.xs X.K H xs) (r : RelV k.v u) :
    ∃ (t : Tok) (o : Obj) (G : Heap → Prop), Begins u o G ∧ G s.heap ∧ (∀ b ∈ k.fp, b < s.heap.objs.size) ∧ ∀ it h, h.get? it = some o → k.it t it 0 h := by
  cases k with
  | txt x =>
    obtain ⟨t, rfl⟩ := r
    exact ⟨t, _, _, begins_text x t, trivial, (by intro b hb; simp [Sc.fp] at hb), fun it h e => ⟨_, e, rfl, rfl⟩⟩
  | lst a =>
    obtain rfl : u = .ref a := r
    obtain ⟨its, rv, p, _⟩ := I.list (show SqL X.K H a xs from hx)
    refine ⟨0, _, _, begins_list a its.toArray, p.isList, fun b hb => ?_, fun it h e => ⟨_, e, rfl, rfl⟩⟩
    have e : b = a := by simpa [Sc.fp] using hb
    rw [e]
    exact p.lt
  | tup a =>
    obtain rfl : u = .ref a := r
    obtain ⟨its, rv, p, _⟩ := I.tuple (show SqT X.K H a xs from hx)
    refine ⟨0, _, _, begins_tuple a its.toArray, p, fun b hb => ?_, fun it h e => ⟨_, e, rfl, rfl⟩⟩
    have e : b = a := by simpa [Sc.fp] using hb
    rw [e]
    obtain ⟨o, ho, _⟩ := p
    exact Heap.lt_size ho

/-! ### zip -/
def ItzS (K : PySem.W.Frag) (a b : Sc) : It :=
  ⟨fun i H => ∃ (xs ys : List V), a.xs K H xs ∧ b.xs K H ys ∧ i < xs.length ∧ i < ys.length,
    fun i H v H' => ∃ T x y, v = .ref T ∧ H T = none ∧ H' = upd H T (.tup [x, y]) ∧ (∀ xs, a.xs K H xs → xs[i]? = some x) ∧ ∀ ys, b.xs K H ys → ys[i]? = some y,
    fun i H => ∃ xs ys : List V, a.xs K H xs ∧ b.xs K H ys ∧ i = min xs.length ys.length⟩
theorem turn_zipS {P : Program} {w : World} {K : PySem.W.Frag} {elts : List Expr} {kk : Nat} {tpos : Pos} {a b : Sc} {N : Nat} (t1 t2 : Tok) (ha : ∀ x ∈ a.fp, x < N) (hb : ∀ x ∈ b.fp, x < N) :
    Turn P w K (.Tuple elts kk tpos) (ItzS K a b) [N + 4, N + 2, N + 3, N, N + 1] (N + 4) (fun i h => IsZip h (N + 4) (N + 2) (N + 3) .none ∧ IsTupOf2 h (N + 2) (.ref N) (.ref (N + 1)) ∧ (∃ x y, IsTupOf2 h (N + 3) x y) ∧ a.it t1 N i h ∧ b.it t2 (N + 1) i h) where
  mem := by simp
  obj := fun i h st c hc => by
    obtain ⟨hz, hTI, ⟨x, y, hTO⟩, h1, h2⟩ := st
    have e' : c = N + 4 ∨ c = N + 2 ∨ c = N + 3 ∨ c = N ∨ c = N + 1 := by simpa using hc
    rcases e' with q | q | q | q | q
    · rw [q]; exact ⟨_, hz, fun v q => nomatch q⟩
    · rw [q]; exact ⟨_, hTI, fun v q => nomatch q⟩
    · rw [q]; exact ⟨_, hTO, fun v q => nomatch q⟩
    · rw [q]; exact Sc.obj h1
    · rw [q]; exact Sc.obj h2
  keep := fun i h h' st k => by
    obtain ⟨hz, hTI, ⟨x, y, hTO⟩, h1, h2⟩ := st
    exact ⟨k (N + 4) (by simp) _ hz, k (N + 2) (by simp) _ hTI, ⟨x, y, k (N + 3) (by simp) _ hTO⟩, Sc.at h1 (k N (by simp)), Sc.at h2 (k (N + 1) (by simp))⟩
  item := by
    intro X hP hw hK hc i pins s σ H E I hf st hg
    subst hP hw hK
    obtain ⟨hz, hTI, ⟨x0, y0, hTO⟩, h1, h2⟩ := st
    obtain ⟨xs, ys, hqx, hqy, hx, hy⟩ := hg
    obtain ⟨n1, P1, St1, D1, s1, e1, p1, b1⟩ := sc_draws I hc hqx h1 (fun x m => Nat.ne_of_lt (ha x m))
    obtain ⟨n2, P2, St2, D2, s2, e2, p2, b2⟩ := sc_draws I hc hqy h2 (fun x m => Nat.ne_of_lt (Nat.lt_succ_of_lt (hb x m)))
    have Z := zip_sep2 ha hb
    have hzl : N + 4 < s.heap.objs.size := Heap.lt_size hz
    refine wpAny_pyNext_zipD2_item Z D1 D2 hz hTI hTO s1 s2 (by omega) (by omega) fun x1 x2 h' tk hp1 hp2 z' TO' st1' st2' hT hsz hk => ?_
    refine ⟨_, rfl, wpAny_letOwnedTupleGo_zip (s := { s with heap := h', toks := tk }) z' fun h'' z'' sb => ?_⟩
    obtain ⟨v1, g1, r1⟩ := p1 i x1 hp1
    obtain ⟨v2, g2, r2⟩ := p2 i x2 hp2
    have hT2 : h''.get? s.heap.objs.size = some { cls := .type "tuple", data := .seq #[x1, x2] } := (sb.2 _ (Nat.ne_of_gt hzl)).trans hT
    have new : ObjOk X.prog X.w (upd H s.heap.objs.size (.tup [v1, v2])) h'' s.heap.objs.size (.tup [v1, v2]) :=
      ⟨by show 2 ≤ sizeLine; decide, [x1, x2], .cons r1 (.cons r2 .nil), ⟨_, hT2, rfl, _, rfl⟩⟩
    have I1 : Inv X pins σ (upd H s.heap.objs.size (.tup [v1, v2])) { s with heap := h'', toks := tk } :=
      I.turnedNew (t' := tk) (ch := [N + 4, N + 2, N + 3, N, N + 1]) (fun c o hb q => (sb.2 c (fun q' => hb (by simp [q']))).trans (hk c o (fun q' => hb (by simp [q'])) (fun q' => hb (by simp [q'])) (fun q' => hb (by simp [q'])) (fun q' => hb (by simp [q'])) q)) hf (Nat.le_refl _) new
    refine ⟨.ref s.heap.objs.size, _, I1, rfl, ⟨_, v1, v2, rfl, I.hok.fresh (Nat.le_refl _), rfl, fun l hl => by rw [Sc.inj I hl hqx]; exact g1, fun l hl => by rw [Sc.inj I hl hqy]; exact g2⟩, ⟨z'', ?_, ⟨x1, x2, ?_⟩, ?_, ?_⟩, fun c hcm => ?_⟩
    · exact (sb.2 _ Z.TIz).trans (hk _ _ Z.TIz Z.TITO Z.TIi1 Z.TIi2 hTI)
    · exact (sb.2 _ Z.TOz).trans TO'
    · exact Sc.at (b1 _ _ st1') fun o q => (sb.2 _ (Ne.symm Z.zi1)).trans q
    · exact Sc.at (b2 _ _ st2') fun o q => (sb.2 _ (Ne.symm Z.zi2)).trans q
    · have hlt : c < s.heap.objs.size := by
        have e' : c = N + 4 ∨ c = N + 2 ∨ c = N + 3 ∨ c = N ∨ c = N + 1 := by simpa using hcm
        have hzl' : N + 4 < s.heap.objs.size := hzl
        rcases e' with q | q | q | q | q <;> (have q' : c = _ := q; rw [q']; first | exact hzl | exact Nat.lt_trans (by simp [Nat.lt_succ_self] : _ < N + 4) hzl | (refine Nat.lt_of_le_of_lt ?_ hzl; simp))
      rw [upd_ne (Nat.ne_of_lt hlt)]
      exact (hf c hcm).1
  done := by
    intro X hP hw hK hc i pins s σ H E I hf st hg
    subst hP hw hK
    obtain ⟨hz, hTI, ⟨x0, y0, hTO⟩, h1, h2⟩ := st
    obtain ⟨xs, ys, hqx, hqy, hend⟩ := hg
    obtain ⟨n1, P1, St1, D1, s1, e1, p1, b1⟩ := sc_draws I hc hqx h1 (fun x m => Nat.ne_of_lt (ha x m))
    obtain ⟨n2, P2, St2, D2, s2, e2, p2, b2⟩ := sc_draws I hc hqy h2 (fun x m => Nat.ne_of_lt (Nat.lt_succ_of_lt (hb x m)))
    refine wpAny_pyNext_zipD2_end (zip_sep2 ha hb) D1 D2 hz hTI hTO s1 s2 (by omega) (by omega) (by omega) fun h' tk hk => ⟨rfl, I.turnedL (t' := tk) (ch := [N + 4, N + 2, N + 3, N, N + 1]) (fun c o hb q =>
      hk c o (fun q' => hb (by simp [q'])) (fun q' => hb (by simp [q'])) (fun q' => hb (by simp [q'])) (fun q' => hb (by simp [q'])) q) hf⟩
  self := fun A i s Q E st h => wpAny_pyIter_zip st.1 h
def iZipS (K : PySem.W.Frag) (ta : TA) : TI := fun σ H R => ta σ H fun vs H1 => ∃ a b xs ys, vs = [Sc.v a, Sc.v b] ∧ a.xs K H1 xs ∧ b.xs K H1 ys ∧ R (ItzS K a b) H1
theorem pi_zipS {X : Cx} {e e2 : Expr} {ta : TA} {p pos tpos : Pos} {elts : List Expr} {kk : Nat} (hg : Gl X "zip") (hm : X.mg "zip" = none) (ha : PA X [e, e2] ta)
    (hs : starEach [e, e2] X.env = (false, eval e X.env) :: starEach [e2] X.env := by rfl) (hpl : (backTo pos (starEach [e2] X.env)).any (·.1) = false := by rfl) :
    PI X (.Tuple elts kk tpos) (.Call (.Name "zip" p) [e, e2] [] pos) (iZipS X.K ta) := by
  refine ⟨fun pins s σ H R I h => ?_⟩
  refine Call_ (ld_blt I hg hm PyProof.Rows.boot_zip (PyProof.Rows.callWith_type1 (thn (ha.run pos pins s σ H _ I h) fun us s1 ⟨vs, H1, I1, r1, q1⟩ => ?_) hs hpl))
  obtain ⟨a, b, xs, ys, ex, hqx, hqy, q⟩ := q1
  subst ex
  cases r1 with
  | cons r rr =>
    cases rr with
    | cons r' rr =>
      cases rr
      obtain ⟨t1, o1, G1, B1, g1, f1, i1⟩ := sc_begins I1 hqx r
      obtain ⟨t2, o2, G2, B2, g2, f2, i2⟩ := sc_begins I1 hqy r'
      refine zip_begins2 B1 B2 g1 g2 fun h' hz hTI hTO h1 h2 hsz hk => wpAny_pyIter_zip hz ?_
      have I2 : Inv X pins σ H1 { s1 with heap := h' } := I1.kept (t' := s1.toks) hk
      refine ⟨s1.heap.objs.size + 4, [s1.heap.objs.size + 4, s1.heap.objs.size + 2, s1.heap.objs.size + 3, s1.heap.objs.size, s1.heap.objs.size + 1], _, _, H1, rfl, I2, turn_zipS t1 t2 f1 f2, ⟨hz, hTI, ⟨_, _, hTO⟩, i1 _ _ h1, i2 _ _ h2⟩, fun c hcm => ?_, q⟩
      have e' : c = s1.heap.objs.size + 4 ∨ c = s1.heap.objs.size + 2 ∨ c = s1.heap.objs.size + 3 ∨ c = s1.heap.objs.size ∨ c = s1.heap.objs.size + 1 := by simpa using hcm
      have hle : s1.heap.objs.size ≤ c := by
        rcases e' with z | z | z | z | z
        · rw [z]; exact Nat.le_add_right _ _
        · rw [z]; exact Nat.le_add_right _ _
        · rw [z]; exact Nat.le_add_right _ _
        · rw [z]; exact Nat.le_refl _
        · rw [z]; exact Nat.le_add_right _ _
      exact I1.fpOk hle (I1.hok.fresh hle)

/-! ### enumerate -/
def IteS (K : PySem.W.Frag) (a : Sc) : It :=
  ⟨fun i H => ∃ (xs : List V), a.xs K H xs ∧ i < xs.length, fun i H v H' => ∃ T x, v = .ref T ∧ H T = none ∧ H' = upd H T (.tup [.int (i : Nat), x]) ∧ ∀ xs, a.xs K H xs → xs[i]? = some x, fun i H => ∃ xs : List V, a.xs K H xs ∧ i = xs.length⟩
theorem turn_enumS {P : Program} {w : World} {K : PySem.W.Frag} {elts : List Expr} {kk : Nat} {tpos : Pos} {a : Sc} {N : Nat} (t : Tok) (ha : ∀ x ∈ a.fp, x < N) :
    Turn P w K (.Tuple elts kk tpos) (IteS K a) [N + 1, N] (N + 1) (fun i h => (∃ old, IsEnum h (N + 1) N ((i : Nat) : Int) old) ∧ a.it t N i h) where
  mem := by simp
  obj := fun i h st b hb => by
    obtain ⟨⟨old, he⟩, h1⟩ := st
    have e' : b = N + 1 ∨ b = N := by simpa using hb
    rcases e' with z | z
    · rw [z]; exact ⟨_, he, fun v q => nomatch q⟩
    · rw [z]; exact Sc.obj h1
  keep := fun i h h' st k => let ⟨⟨old, he⟩, hi⟩ := st; ⟨⟨old, k (N + 1) (by simp) _ he⟩, Sc.at hi (k N (by simp))⟩
  item := by
    intro X hP hw hK hc i pins s σ H E I hf st hg
    subst hP hw hK
    obtain ⟨⟨old, he⟩, hit⟩ := st
    obtain ⟨xs, hq, hx⟩ := hg
    obtain ⟨n1, P1, St1, D1, s1, e1, p1, b1⟩ := sc_draws I hc hq hit (fun x m => Nat.ne_of_lt (ha x m))
    have hel : N + 1 < s.heap.objs.size := Heap.lt_size he
    have hef : N + 1 ∉ N :: a.fp := fun m => by
      rcases List.mem_cons.mp m with z | z
      · exact Nat.succ_ne_self _ z
      · exact absurd (ha _ z) (by have : ¬ (N + 1 < N) := by omega
                                  exact this)
    refine wpAny_pyNext_enum_itemC D1 he s1 (by omega) (Nat.succ_ne_self _) hef fun x h' tk hp ho st' hT hsz hk => ?_
    refine ⟨_, rfl, wpAny_letOwnedTupleGo_enum (s := { s with heap := h', toks := tk + 1 }) ho fun h'' he' sb => ?_⟩
    obtain ⟨v1, g1, r1⟩ := p1 i x hp
    have hT2 : h''.get? s.heap.objs.size = some { cls := .type "tuple", data := .seq #[.int i tk, x] } := (sb.2 _ (Nat.ne_of_gt hel)).trans hT
    have new : ObjOk X.prog X.w (upd H s.heap.objs.size (.tup [.int (i : Nat), v1])) h'' s.heap.objs.size (.tup [.int (i : Nat), v1]) :=
      ⟨by show 2 ≤ sizeLine; decide, [.int i tk, x], .cons ⟨_, rfl⟩ (.cons r1 .nil), ⟨_, hT2, rfl, _, rfl⟩⟩
    have I1 : Inv X pins σ (upd H s.heap.objs.size (.tup [.int (i : Nat), v1])) { s with heap := h'', toks := tk + 1 } :=
      I.turnedNew (ch := [N + 1, N]) (fun b ob hb q => (sb.2 b (fun z => hb (by simp [z]))).trans (hk b ob (fun z => hb (by simp [z])) (fun z => hb (by simp [z])) q)) hf (Nat.le_refl _) new
    refine ⟨.ref s.heap.objs.size, _, I1, rfl, ⟨_, v1, rfl, I.hok.fresh (Nat.le_refl _), rfl, fun ys hy => by rw [Sc.inj I hy hq]; exact g1⟩, ⟨⟨x, ?_⟩, Sc.at (b1 _ _ st') fun o q => (sb.2 N (Ne.symm (Nat.succ_ne_self N))).trans q⟩, fun b hb => ?_⟩
    · have e1 : ((i + 1 : Nat) : Int) = (i : Int) + 1 := by omega
      rw [e1]; exact he'
    · have hb' : b < s.heap.objs.size := by
        have e' : b = N + 1 ∨ b = N := by simpa using hb
        rcases e' with z | z
        · rw [z]; exact hel
        · rw [z]; exact Nat.lt_trans (Nat.lt_succ_self _) hel
      rw [upd_ne (Nat.ne_of_lt hb')]
      exact (hf b hb).1
  done := by
    intro X hP hw hK hc i pins s σ H E I hf st hg
    subst hP hw hK
    obtain ⟨⟨old, he⟩, hit⟩ := st
    obtain ⟨xs, hq, hx⟩ := hg
    obtain ⟨n1, P1, St1, D1, s1, e1, p1, b1⟩ := sc_draws I hc hq hit (fun x m => Nat.ne_of_lt (ha x m))
    obtain ⟨f0, f1, f2, f3, f4, f5⟩ := hf N (by simp)
    have e : i = n1 := by omega
    subst e
    exact wpAny_pyNext_enum_endD D1 he s1 fun h' eb => ⟨rfl, I.turned (t' := s.toks) (fun b o hb q => eb b o hb q) f0 f1 f3 f4 f5⟩
  self := fun A i s Q E st h => let ⟨⟨_, he⟩, _⟩ := st; wpAny_pyIter_enum he h
def iEnumS (K : PySem.W.Frag) (ta : TA) : TI := fun σ H R => ta σ H fun vs H1 => ∃ a xs, vs = [Sc.v a] ∧ (∀ t, a ≠ .tup t) ∧ a.xs K H1 xs ∧ R (IteS K a) H1
theorem pi_enumS {X : Cx} {e : Expr} {ta : TA} {p pos tpos : Pos} {elts : List Expr} {kk : Nat} (hg : Gl X "enumerate") (hm : X.mg "enumerate" = none) (ha : PA X [e] ta) (hs : starEach [e] X.env = [(false, eval e X.env)] := by rfl) :
    PI X (.Tuple elts kk tpos) (.Call (.Name "enumerate" p) [e] [] pos) (iEnumS X.K ta) := by
  refine ⟨fun pins s σ H R I h => ?_⟩
  refine Call_ (ld_blt I hg hm boot_enumerate (PyProof.Rows.callWith_type1 (thn (ha.run pos pins s σ H _ I h) fun us s1 ⟨vs, H1, I1, r1, q1⟩ => ?_) hs rfl))
  obtain ⟨a, xs, ex, nt, hq, q⟩ := q1
  subst ex
  have fin : ∀ (h' : Heap) (t : Tok), (∀ x ∈ a.fp, x < s1.heap.objs.size) → IsEnum h' (s1.heap.objs.size + 1) s1.heap.objs.size 0 .none → a.it t s1.heap.objs.size 0 h' → (∀ b o, s1.heap.get? b = some o → h'.get? b = some o) →
      PIE X pins σ (.Tuple elts kk tpos) R (.ref (s1.heap.objs.size + 1)) { s1 with heap := h' } := fun h' t hfp he hit hk => by
    have I2 : Inv X pins σ H1 { s1 with heap := h' } := I1.kept (t' := s1.toks) hk
    refine ⟨s1.heap.objs.size + 1, [s1.heap.objs.size + 1, s1.heap.objs.size], _, _, H1, rfl, I2, turn_enumS t hfp, ⟨⟨.none, he⟩, hit⟩, fun b hb => ?_, q⟩
    have e' : b = s1.heap.objs.size + 1 ∨ b = s1.heap.objs.size := by simpa using hb
    have hle : s1.heap.objs.size ≤ b := by
      rcases e' with z | z
      · rw [z]; exact Nat.le_add_right _ _
      · rw [z]; exact Nat.le_refl _
    exact I1.fpOk hle (I1.hok.fresh hle)
  cases r1 with
  | cons r rr =>
    cases rr
    cases a with
    | txt x =>
      obtain ⟨t, rfl⟩ := r
      exact call_enumerate_str fun h' he hit hsz hk => wpAny_pyIter_enum he (fin h' t (by intro b hb; simp [Sc.fp] at hb) he hit hk)
    | lst a =>
      obtain ⟨its, rv, p', hz⟩ := I1.list (show SqL X.K H1 a xs from hq)
      cases r
      refine call_enumerate_list p'.isList fun h' he hit hsz hk => wpAny_pyIter_enum he (fin h' 0 (fun b hb => ?_) he hit hk)
      have e : b = a := by simpa [Sc.fp] using hb
      rw [e]
      exact p'.lt
    | tup a => exact absurd rfl (nt a)

/-! ### over data -/
/-- the items of data -/
def itemsD : PyData → Option (List PyData)
  | .str x => some (x.cps.toList.map sg)
  | .list ds => some ds
  | .tuple ds => some ds
  | _ => none
theorem va_signs {K : PySem.W.Frag} {H : Hp} : ∀ cs : List Nat, VaAll K H (cs.map fun c => V.str ⟨#[c]⟩) (cs.map sg)
  | [] => .nil
  | c :: cs => .cons (.str _) (va_signs cs)
theorem va_sc {K : PySem.W.Frag} {pool : Hp} {v : V} {d : PyData} {ds : List PyData} (h : Va K pool v d) (e : itemsD d = some ds) : ∃ (a : Sc) (xs : List V), v = a.v ∧ (∀ H, Same pool H → a.xs K H xs) ∧ VaAll K pool xs ds ∧ ((∀ t, d ≠ .tuple t) → ∀ t, a ≠ .tup t) := by
  cases h with
  | str x => cases e; exact ⟨.txt x, _, rfl, fun _ _ => rfl, va_signs _, fun _ _ => (nomatch ·)⟩
  | lst ha hs => cases e; exact ⟨.lst _, _, rfl, fun H s => SqL.of (s _ _ ha), hs, fun _ _ => (nomatch ·)⟩
  | tup ha hs => cases e; exact ⟨.tup _, _, rfl, fun H s => SqT.up s ha, hs, fun n _ => absurd rfl (n _)⟩
  | non => cases e
  | bl b => cases e
  | int i => cases e
  | dct ha => cases e
  | ptr a => cases e
  | dcf _ _ _ => cases e
  | dtf _ _ _ => cases e
/-- a pair -/
abbrev pr2 (x y : PyData) : PyData := .tuple [x, y]
theorem sc_get {K : PySem.W.Frag} {L : List Addr} {pool H : Hp} {a : Sc} {xs : List V} {ds : List PyData} {i : Nat} {d : PyData} {v : V} (hx : ∀ H, Same pool H → a.xs K H xs) (hv : VaAll K pool xs ds) (s : Same pool (off L H)) (hd : ds[i]? = some d) (y : ∀ ys, a.xs K H ys → ys[i]? = some v) : Va K (off L H) v d := by
  obtain ⟨v2, e, r⟩ := hv.at hd
  have := y xs (hx H (fun b o q => (off_some (s b o q)).2))
  rw [e] at this
  cases this
  exact r.up s
theorem walk_enumS {K : PySem.W.Frag} {pool : Hp} {a : Sc} {xs : List V} {ds : List PyData} (hx : ∀ H, Same pool H → a.xs K H xs) (hv : VaAll K pool xs ds) : WalkD K pool (IteS K a) (ds.mapIdx fun i d => pr2 (nn i) d) where
  go := fun i H hi s => ⟨xs, hx H s, by rw [hv.length]; simpa using hi⟩
  yld := fun i d H v H' L hd hL s y => by
    obtain ⟨T, x, rfl, hT, rfl, y⟩ := y
    have sm := same_new (o := .tup [.int (i : Nat), x]) hT
    refine ⟨sm, ?_⟩
    rw [List.getElem?_mapIdx] at hd
    obtain ⟨d1, h1, rfl⟩ := Option.map_eq_some_iff.mp hd
    have r := sc_get hx hv s h1 y
    exact .tup (.inl (.inl (off_upd (new_out hL hT)))) (.cons (.int _) (.cons (r.up (XT.same sm)) .nil))
  stop := fun H s => ⟨xs, hx H s, by rw [hv.length]; simp⟩
theorem walk_zipS {K : PySem.W.Frag} {pool : Hp} {a b : Sc} {xs ys : List V} {ds es : List PyData} (hx : ∀ H, Same pool H → a.xs K H xs) (hv : VaAll K pool xs ds) (hy : ∀ H, Same pool H → b.xs K H ys) (hw : VaAll K pool ys es) : WalkD K pool (ItzS K a b) (List.zipWith pr2 ds es) where
  go := fun i H hi s => ⟨xs, ys, hx H s, hy H s, by rw [List.length_zipWith] at hi; rw [hv.length]; omega, by rw [List.length_zipWith] at hi; rw [hw.length]; omega⟩
  yld := fun i d H v H' L hd hL s y => by
    obtain ⟨T, x, z, rfl, hT, rfl, y1, y2⟩ := y
    have sm := same_new (o := .tup [x, z]) hT
    refine ⟨sm, ?_⟩
    rw [List.getElem?_zipWith] at hd
    cases e1 : ds[i]? with
    | none => rw [e1] at hd; simp at hd
    | some d1 =>
      cases e2 : es[i]? with
      | none => rw [e1, e2] at hd; simp at hd
      | some d2 =>
        rw [e1, e2] at hd
        cases hd
        have r1 := sc_get hx hv s e1 y1
        have r2 := sc_get hy hw s e2 y2
        exact .tup (.inl (.inl (off_upd (new_out hL hT)))) (.cons (r1.up (XT.same sm)) (.cons (r2.up (XT.same sm)) .nil))
  stop := fun H s => ⟨xs, ys, hx H s, hy H s, by rw [hv.length, hw.length, List.length_zipWith]⟩
section
variable {X : Cx} {W : Wd} {Γ : List DV} {μ : Mu} {α β : Type} {a b : Expr} {pos p tpos : Pos} {elts : List Expr} {kk : Nat} {d d2 : PyData} {enc : α → PyData} {enc2 : β → PyData} {xs : List α} {ys : List β}
/-- enumerate(text), enumerate(list): pairs of place and item -/
theorem it_enum (h : Ed X W Γ μ a d) (hm : X.mg "enumerate" = none) (e : itemsD d = some (xs.map enc)) (hd : ∀ t, d ≠ .tuple t := by intro _; nofun) (hg : Gl X "enumerate" := by rfl) (hs : starEach [a] X.env = [(false, eval a X.env)] := by rfl) :
    IterD X W Γ μ (.Tuple elts kk tpos) (.Call (.Name "enumerate" p) [a] [] pos) (fun q : Nat × α => pr2 (nn q.1) (enc q.2)) (xs.mapIdx Prod.mk) := ⟨_, pi_enumS hg hm wA.pa hs, fun σ H R R' k => (ea_cons h ea_nil (by rw [hs]; rfl)) σ H R _ fun vs H1 R1 e1 r => by
  cases r with
  | cons r rr =>
    cases rr
    obtain ⟨sc, vs, rfl, h1, h2, h3⟩ := va_sc r e
    refine ⟨sc, vs, rfl, h3 hd, h1 H1 same_off, k _ _ H1 rfl R1 e1 ?_⟩
    have z := walk_enumS h1 h2
    have e : ((xs.map enc).mapIdx fun i d => pr2 (nn i) d) = (xs.mapIdx Prod.mk).map fun q : Nat × α => pr2 (nn q.1) (enc q.2) := by
      apply List.ext_getElem?
      intro i
      simp only [List.getElem?_mapIdx, List.getElem?_map, Option.map_map]
      rfl
    rw [e] at z
    exact z⟩
/-- zip of two -/
theorem it_zip (h1 : Ed X W Γ μ a d) (h2 : Ed X W Γ μ b d2) (hm : X.mg "zip" = none) (e1 : itemsD d = some (xs.map enc)) (e2 : itemsD d2 = some (ys.map enc2)) (hg : Gl X "zip" := by rfl) (hs : starEach [a, b] X.env = (false, eval a X.env) :: starEach [b] X.env := by rfl) (hs2 : starEach [b] X.env = [(false, eval b X.env)] := by rfl) (hpl : (backTo pos (starEach [b] X.env)).any (·.1) = false := by rfl) :
    IterD X W Γ μ (.Tuple elts kk tpos) (.Call (.Name "zip" p) [a, b] [] pos) (fun q : α × β => pr2 (enc q.1) (enc2 q.2)) (xs.zip ys) := ⟨_, pi_zipS hg hm wA.pa hs hpl, fun σ H R R' k => (ea_cons h1 (ea_cons h2 ea_nil hs2) hs) σ H R _ fun vs H1 R1 x1 r => by
  cases r with
  | cons r rr =>
    cases rr with
    | cons r2 rr =>
      cases rr
      obtain ⟨s1, v1, rfl, g1, g2, g3⟩ := va_sc r e1
      obtain ⟨s2, v2, rfl, f1, f2, f3⟩ := va_sc r2 e2
      refine ⟨s1, s2, v1, v2, rfl, g1 H1 same_off, f1 H1 same_off, k _ _ H1 rfl R1 x1 ?_⟩
      have z := walk_zipS g1 g2 f1 f2
      have e : List.zipWith pr2 (xs.map enc) (ys.map enc2) = (xs.zip ys).map fun q : α × β => pr2 (enc q.1) (enc2 q.2) := by
        rw [List.zipWith_map, List.zip, List.map_zipWith]
      rw [e] at z
      exact z⟩
end
end HW
set_option maxHeartbeats 4000000
namespace HW
open PySem PySem.Spec PyProof.Rows L2
open SX (S)
/-! ### the distinct items, as they are first met -/
section
variable {α : Type} [DecidableEq α]
end
/-! ### set(list) of keys of one kind -/
section
variable {prog : Program} {w : World} {K : Type} [DecidableEq K] {knd : KeyKind prog w K} {A : Around} {R : Result → Shared → Prop} {I : Addr} {fp wr : List Addr} {G : Array GenState → Array GenState → Prop} {n : Nat} {P : Nat → Value → Prop} {St : Nat → Shared → Prop}
end
section
variable {prog : Program} {w : World} {K : Type} [DecidableEq K] {knd : KeyKind prog w K} {A : Around} {E : Value → Shared → Prop} {s : Shared}
end
/-! ### len(set(texts)) -/
section
variable {X : Cx} {W : Wd} {Γ : List DV} {μ : Mu} {a : Expr} {p p2 q pos : Pos} {ds : List PyData} {ws : List (List Nat)}
theorem S_inj {a b : List Nat} (h : S a = S b) : a = b := by
  have e : decide (V.str (S a) = V.str (S b)) = decide (a = b) := S_eq
  rw [h] at e
  simpa using e
end
end HW
set_option maxHeartbeats 4000000
namespace HW
open PySem PySem.Spec PyProof.Rows L2
open SX (S)
section
variable {X : Cx} {W W0 : Wd} {Γ : List DV} {μ : Mu} {a : Expr} {i : Str} {pos : Pos}
theorem ed_S {p : Pos} {j} (l : List Nat) (e : i = S l := by decide +kernel) : Ed X W Γ μ (.Constant (.str i) j p) (.str (S l)) := e ▸ ed_str
theorem ed_gS {n z : Str} (l : List Nat) (hm : ∃ t, X.mg n = some (.str z t)) (e : z = S l := by decide +kernel) (hg : Gl X n := by rfl) (h1 : (n == ("__debug__" : Str)) = false := by decide) : Ed X W Γ μ (.Name n pos) (.str (S l)) := e ▸ ed_gstr hm hg h1
theorem run_end {P : PyData → Prop} {rt : VK} {bk ct : L2.St → Hp → Prop} (hp : P .none) (hW : Wle W0 W := by first | exact Wle.refl | assumption) : Run X W Γ μ [] ⟨fun _ H' => RetP X.K W0 P .non H', rt, bk, ct⟩ := run_nil fun σ H R => ⟨R.fr.down hW, .none, hp, .non⟩
theorem ed_neg {z : Int} (h : Ed X W Γ μ a (.int z)) : Ed X W Γ μ (.UnaryOp .USub a pos) (.int (-z)) := fun σ H R Q q => (pe_un un_neg wE.pe).w (h σ H R _ fun v H2 R2 e2 r => by
  cases r
  exact ⟨z, rfl, q _ H2 R2 e2 (.int _)⟩)
end
section
variable {X : Cx} {l : List Nat} {ds es : List PyData}
/-! ### tuples -/
theorem o_catT (h : ds.length + es.length ≤ 16777216) : OpD X (binaryOp .Add) (.tuple ds) (.tuple es) (.tuple (ds ++ es)) := OpR.to op_catA fun a b H Q ⟨L, hL, ha, hb, k⟩ => by
  cases ha with
  | tup ha hs =>
    cases hb with
    | tup hb ht =>
      refine ⟨_, _, _, _, rfl, rfl, SqT.up same_off ha, SqT.up same_off hb, by rw [hs.length, ht.length]; exact h, fun e => ?_, fun _ e => ?_, fun _ _ p hp => ?_⟩
      · subst e
        cases hs
        exact k _ _ (Same.refl _) (.tup hb ht)
      · subst e
        cases ht
        rw [List.append_nil] at k
        exact k _ _ (Same.refl _) (.tup ha hs)
      · exact k _ _ (same_new hp) (.tup (.inl (.inl (off_upd (new_out hL hp)))) ((hs.app ht).up (XT.same (same_new hp))))
end
end HW
set_option maxHeartbeats 4000000
namespace HW
open PySem PySem.Spec PyProof.Rows L2
open SX (S)
section
variable {X : Cx} {W : Wd} {Γ : List DV} {μ : Mu} {α : Type} {iter elt t : Expr} {scope : Scope} {pos p1 p2 tpos : Pos} {kk : Nat} {e1 e2 : α → PyData} {xs : List α} {n1 n2 : Str}
/-- [elt for n1, n2 in iter] -/
theorem lcP0 (k1 k2 : Nat) (hi : IterD X W Γ μ (.Tuple [.Name n1 p1, .Name n2 p2] kk tpos) iter (fun x => pr2 (e1 x) (e2 x)) xs) (hz : xs.length ≤ 16777216) (f : α → PyData)
    (he : ∀ x ∈ xs, ∀ W1, Wle W W1 → ∀ s H C cl fp, Ed (blkOf X scope s H C cl fp) W1 (((wipeD [k1, k2] Γ).set k1 (.d (e1 x))).set k2 (.d (e2 x))) μ elt (f x)) (hN : X.N.Nodup) (hn1 : X.N[k1]? = some n1 := by rfl) (hn2 : X.N[k2]? = some n2 := by rfl)
    (hv1 : ∀ s H C cl fp, Loc (blkOf X scope s H C cl fp).env.scope n1 := by intro _ _ _ _ _; first | exact Or.inl rfl | exact Or.inr rfl) (hf1 : ∀ s H C cl fp, (blkOf X scope s H C cl fp).fn n1 = true ∨ (blkOf X scope s H C cl fp).env.scope.names.lookup n1 = some .local := by intro _ _ _ _ _; first | exact .inr rfl | exact .inl rfl)
    (hv2 : ∀ s H C cl fp, Loc (blkOf X scope s H C cl fp).env.scope n2 := by intro _ _ _ _ _; first | exact Or.inl rfl | exact Or.inr rfl) (hf2 : ∀ s H C cl fp, (blkOf X scope s H C cl fp).fn n2 = true ∨ (blkOf X scope s H C cl fp).env.scope.names.lookup n2 = some .local := by intro _ _ _ _ _; first | exact .inr rfl | exact .inl rfl)
    (hcm : ∀ s H C cl fp, (blkOf X scope s H C cl fp).calm = true := by intro _ _ _ _ _; rfl)
    (hb : BlkOk X.N X.env.scope scope [(n1, k1), (n2, k2)] := by exact blkOk_by (by kernel_rfl)) :
    LcEv X W Γ μ elt (.Tuple [.Name n1 p1, .Name n2 p2] kk tpos) iter [] scope (fun ys => ys = xs.map f) := by
  have h := lc0 (E := fun x y => y = f x) (elt := elt) (scope := scope) [(n1, k1), (n2, k2)] hi (tg_pair (tg_name (K := X.K) k1) (tg_name k2))
    (fun s H C cl fp => pg_tup (hcm s H C cl fp) (pgs_cons (pg_name hN hn1 (hv1 s H C cl fp) (hf1 s H C cl fp)) (pgs_cons (pg_name hN hn2 (hv2 s H C cl fp) (hf2 s H C cl fp)) pgs_nil))) (fun _ _ x _ => ⟨e1 x, e2 x, rfl, trivial, trivial⟩) (fun _ e => e ▸ hz) (fun _ e x hx W1 l s H C cl fp => (he x (e ▸ hx) W1 l s H C cl fp).ev) hb (by simp)
  obtain ⟨wi, g, tt, te, own, h1, h2, h3, h4, h5, h6⟩ := h.ex
  exact ⟨wi, g, tt, te, own, h1, h2, h3, h4, h5, fun σ H R Q k => h6 σ H R Q fun ys v H2 ⟨l, e, hp⟩ => k ys v H2 (by rw [← e]; exact paired_map hp)⟩
/-- [elt for n1, n2 in iter if t] -/
theorem lcP1 (k1 k2 : Nat) (hi : IterD X W Γ μ (.Tuple [.Name n1 p1, .Name n2 p2] kk tpos) iter (fun x => pr2 (e1 x) (e2 x)) xs) (hz : xs.length ≤ 16777216) (c : α → Bool) (f : α → PyData)
    (ht : ∀ x ∈ xs, ∀ W1, Wle W W1 → ∀ s H C cl fp, EdT (blkOf X scope s H C cl fp) W1 (((wipeD [k1, k2] Γ).set k1 (.d (e1 x))).set k2 (.d (e2 x))) μ t (c x))
    (he : ∀ x ∈ xs, c x = true → ∀ W1, Wle W W1 → ∀ s H C cl fp, Ed (blkOf X scope s H C cl fp) W1 (((wipeD [k1, k2] Γ).set k1 (.d (e1 x))).set k2 (.d (e2 x))) μ elt (f x)) (hN : X.N.Nodup) (hn1 : X.N[k1]? = some n1 := by rfl) (hn2 : X.N[k2]? = some n2 := by rfl)
    (hv1 : ∀ s H C cl fp, Loc (blkOf X scope s H C cl fp).env.scope n1 := by intro _ _ _ _ _; first | exact Or.inl rfl | exact Or.inr rfl) (hf1 : ∀ s H C cl fp, (blkOf X scope s H C cl fp).fn n1 = true ∨ (blkOf X scope s H C cl fp).env.scope.names.lookup n1 = some .local := by intro _ _ _ _ _; first | exact .inr rfl | exact .inl rfl)
    (hv2 : ∀ s H C cl fp, Loc (blkOf X scope s H C cl fp).env.scope n2 := by intro _ _ _ _ _; first | exact Or.inl rfl | exact Or.inr rfl) (hf2 : ∀ s H C cl fp, (blkOf X scope s H C cl fp).fn n2 = true ∨ (blkOf X scope s H C cl fp).env.scope.names.lookup n2 = some .local := by intro _ _ _ _ _; first | exact .inr rfl | exact .inl rfl)
    (hcm : ∀ s H C cl fp, (blkOf X scope s H C cl fp).calm = true := by intro _ _ _ _ _; rfl)
    (hb : BlkOk X.N X.env.scope scope [(n1, k1), (n2, k2)] := by exact blkOk_by (by kernel_rfl)) :
    LcEv X W Γ μ elt (.Tuple [.Name n1 p1, .Name n2 p2] kk tpos) iter [t] scope (fun ys => ys = (xs.filter c).map f) := by
  have h := lc1 (E := fun x y => y = f x) (c := c) (t := t) (elt := elt) (scope := scope) [(n1, k1), (n2, k2)] hi (tg_pair (tg_name (K := X.K) k1) (tg_name k2))
    (fun s H C cl fp => pg_tup (hcm s H C cl fp) (pgs_cons (pg_name hN hn1 (hv1 s H C cl fp) (hf1 s H C cl fp)) (pgs_cons (pg_name hN hn2 (hv2 s H C cl fp) (hf2 s H C cl fp)) pgs_nil))) (fun _ _ x _ => ⟨e1 x, e2 x, rfl, trivial, trivial⟩) (fun _ e => e ▸ hz)
    (fun _ e x hx W1 l s H C cl fp => ht x (e ▸ hx) W1 l s H C cl fp) (fun _ e x hx hc W1 l s H C cl fp => (he x (e ▸ hx) hc W1 l s H C cl fp).ev) hb (by simp)
  obtain ⟨wi, g, tt, te, own, h1, h2, h3, h4, h5, h6⟩ := h.ex
  exact ⟨wi, g, tt, te, own, h1, h2, h3, h4, h5, fun σ H R Q k => h6 σ H R Q fun ys v H2 ⟨l, e, hp⟩ => k ys v H2 (by rw [← e]; exact paired_map hp)⟩
end
end HW
set_option maxHeartbeats 4000000
namespace HW
open PySem PySem.Spec PyProof.Rows L2
open SX (S)
section
variable {X : Cx} {W : Wd} {Γ : List DV} {μ : Mu} {α : Type} {iter elt t : Expr} {scope : Scope} {pos p : Pos} {enc : α → PyData} {n : Str} {P : List α → Prop} {E : α → PyData → Prop}
/-- [elt for n in iter], the items and what comes of them told by P and E -/
theorem lcNV (k : Nat) (hi : IterV X W Γ μ (.Name n p) iter enc P) (hz : ∀ xs, P xs → xs.length ≤ 16777216)
    (he : ∀ xs, P xs → ∀ x ∈ xs, ∀ W1, Wle W W1 → ∀ s H C cl fp, Ev (blkOf X scope s H C cl fp) W1 ((wipeD [k] Γ).set k (.d (enc x))) μ elt (E x)) (hN : X.N.Nodup) (hn : X.N[k]? = some n := by rfl)
    (hv : ∀ s H C cl fp, Loc (blkOf X scope s H C cl fp).env.scope n := by intro _ _ _ _ _; first | exact Or.inl rfl | exact Or.inr rfl) (hf : ∀ s H C cl fp, (blkOf X scope s H C cl fp).fn n = true ∨ (blkOf X scope s H C cl fp).env.scope.names.lookup n = some .local := by intro _ _ _ _ _; first | exact .inr rfl | exact .inl rfl) (hb : BlkOk X.N X.env.scope scope [(n, k)] := by exact blkOk_by (by kernel_rfl)) :
    LcEv X W Γ μ elt (.Name n p) iter [] scope (fun ys => ∃ xs, P xs ∧ Paired E xs ys) :=
  lc0 (E := E) (elt := elt) (scope := scope) [(n, k)] hi (tg_name (K := X.K) k) (fun s H C cl fp => pg_name hN hn (hv s H C cl fp) (hf s H C cl fp)) (fun _ _ _ _ => trivial) hz (fun _ e x hx W1 l s H C cl fp => he _ e x hx W1 l s H C cl fp) hb (by simp)
end
section
variable {X : Cx} {W : Wd} {Γ : List DV} {μ : Mu} {e o : Expr} {pos apos : Pos}
theorem sg_flat (cs : List Nat) : (cs.map fun c => [c]).flatten = cs := by
  induction cs with
  | nil => rfl
  | cons a r ih => rw [List.map_cons, List.flatten_cons, ih]; rfl
theorem sg_sum (cs : List Nat) : ((cs.map fun c => [c]).map List.length).sum = cs.length := by
  induction cs with
  | nil => rfl
  | cons a r ih => rw [List.map_cons, List.map_cons, List.sum_cons, ih, List.length_cons, Nat.add_comm]; rfl
/-- "".join of signs -/
theorem ev_joinC {Ws : List Nat → Prop} (ho : Ed X W Γ μ o (.str (S []))) (he : Ev X W Γ μ e (fun z => ∃ cs : List Nat, z = .list (cs.map sg) ∧ Ws cs)) (hz : ∀ cs, Ws cs → cs.length ≤ 16777216)
    (hs : starEach [e] X.env = [(false, eval e X.env)] := by rfl) (hbase : attributeBase o "join" X.env (eval o X.env) = eval o X.env := by rfl) (hline : (apos.endLine == pos.line) = true := by rfl) :
    Ev X W Γ μ (.Call (.Attribute o "join" apos) [e] [] pos) (fun z => ∃ cs, z = .str (S cs) ∧ Ws cs) :=
  (ev_join (Ws := fun ws => ∃ cs : List Nat, ws = cs.map (fun c => [c]) ∧ Ws cs) ho (he.imp fun d ⟨cs, e1, e2⟩ => ⟨cs.map fun c => [c], by rw [e1, List.map_map]; rfl, cs, rfl, e2⟩) (fun ws ⟨cs, e1, e2⟩ => by rw [e1, sg_sum]; exact hz cs e2) hs hbase hline).imp fun d ⟨ws, e1, cs, e2, e3⟩ => ⟨cs, by rw [e1, e2, sg_flat], e3⟩
theorem ed_joinC (cs : List Nat) {ds : List PyData} (ho : Ed X W Γ μ o (.str (S []))) (he : Ed X W Γ μ e (.list ds)) (hd : ds = cs.map sg) (hz : cs.length ≤ 16777216)
    (hs : starEach [e] X.env = [(false, eval e X.env)] := by rfl) (hbase : attributeBase o "join" X.env (eval o X.env) = eval o X.env := by rfl) (hline : (apos.endLine == pos.line) = true := by rfl) :
    Ed X W Γ μ (.Call (.Attribute o "join" apos) [e] [] pos) (.str (S cs)) :=
  (ev_joinC (Ws := fun z => z = cs) ho (he.evP ⟨cs, by rw [hd], rfl⟩) (fun _ q => q ▸ hz) hs hbase hline |>.imp (B := fun z => z = .str (S cs)) fun d ⟨w, e1, e2⟩ => by rw [e1, e2]).ed
end
theorem paired_sg {α : Type} {Q : Nat → Prop} : ∀ {xs : List α} {ys : List PyData}, Paired (fun _ z => ∃ c, z = sg c ∧ Q c) xs ys → ∃ cs : List Nat, ys = cs.map sg ∧ ∀ c ∈ cs, Q c
  | _, _, .nil => ⟨[], rfl, fun _ h => nomatch h⟩
  | _, _, .cons ⟨c, e, q⟩ t => by
    obtain ⟨cs, e2, h⟩ := paired_sg t
    refine ⟨c :: cs, by rw [e, e2]; rfl, fun x hx => ?_⟩
    rcases List.mem_cons.mp hx with h1 | h1
    · rw [h1]; exact q
    · exact h x h1
/-! ### to forget -/
def wk : List DV → List DV → Prop
  | [], [] => True
  | a :: as, b :: bs => (b = .no ∨ b = a) ∧ wk as bs
  | _, _ => False
theorem wk.at : ∀ {Γ Γ' : List DV}, wk Γ Γ' → Γ.length = Γ'.length ∧ ∀ (i : Nat) (dv : DV), Γ'[i]? = some dv → dv = .no ∨ Γ[i]? = some dv
  | [], [], _ => ⟨rfl, fun i dv h => by simp at h⟩
  | a :: as, b :: bs, h => by
    obtain ⟨h1, h2⟩ := wk.at h.2
    refine ⟨by rw [List.length_cons, List.length_cons, h1], fun i dv e => ?_⟩
    cases i with
    | zero =>
      cases e
      exact h.1.imp id fun q => by rw [q]; rfl
    | succ i => exact h2 i dv (by simpa using e)
theorem Slots.weak {K : PySem.W.Frag} {H : Hp} {σ : L2.St} {Γ Γ' : List DV} (s : Slots K H σ Γ) (h : wk Γ Γ') : Slots K H σ Γ' := by
  obtain ⟨h1, h2⟩ := wk.at h
  refine ⟨s.len.trans h1, fun i dv e => ?_⟩
  rcases h2 i dv e with q | q
  · subst q
    have hl : i < σ.length := by
      rw [s.len, h1]
      exact (List.getElem?_eq_some_iff.mp e).1
    exact ⟨σ[i], List.getElem?_eq_getElem hl, trivial⟩
  · exact s.at_ i dv q
section
variable {X : Cx} {W : Wd} {Γ Γ' : List DV} {μ : Mu} {sts : List Stmt} {D : Ends}
theorem run_weak (h : Run X W Γ' μ sts D) (w : wk Γ Γ') : Run X W Γ μ sts D := fun σ H R => h σ H ⟨R.wd, R.fr, R.sl.weak w, R.mu, R.nd⟩
/-- the end of a turn, the state forgotten down to Γ' -/
theorem run_turnW {Φ : List DV → Mu → Prop} (Γ' : List DV) (w : wk Γ Γ') (h : Φ Γ' μ) (hD : D.nx = StP X.K W Φ := by rfl) : Run X W Γ μ [] D := run_weak (run_turn hD h) w
end
/-! ### a law's beginning: its row of draws -/
def tLst2 (K : PySem.W.Frag) (t : TA) : TE := fun σ H Q => t σ H fun xs H1 => xs.length ≤ sizeLine ∧ ∀ p, H1 p = none → (∀ a ys, SqL K H1 a ys → a ≠ p) → Q (.ref p) (upd H1 p (.lst xs))
/-- a list displayed: it is none of the lists that are there -/
theorem pe_lst2 {X : Cx} {es : List Expr} {t : TA} {pos : Pos} (h : PA X es t) : PE X (.List es pos) (tLst2 X.K t) := by
  refine ⟨fun pins s σ H Q I hq => wpAny_List_spliced (thn (h.run pos pins s σ H _ I hq) fun us s1 ⟨xs, H1, I1, r, z, q⟩ => ⟨by rw [← r.length]; exact z, ?_⟩)⟩
  refine ⟨.ref s1.heap.objs.size, _, I1.laid (t' := s1.toks) (o := .lst xs) (fun b u e => Heap.get?_push_of_some _ e) (Nat.le_refl _) ⟨z, us, 0, r, Heap.get?_push_size _ rfl⟩, rfl, q _ (I1.hok.fresh (Nat.le_refl _)) fun a ys hl => ?_⟩
  obtain ⟨its, _, pl, _⟩ := I1.list hl
  exact Nat.ne_of_lt pl.lt
/-- a law: the script at a, True comes -/
def spLaw (K : PySem.W.Frag) : Sp := fun vs H Q _ => ∃ (a : Addr) (ns : List Int), vs = [.ref a] ∧ ns.length ≤ 63 ∧ SqL K H a (ns.map V.int) ∧ ∀ H', Q (.bl true) H'
section
variable {P : Program} {w : World} {K : PySem.W.Frag} {mg : Str → Option Value} {base : Heap} {qual : Str} {params : Arguments} {rest : List Stmt} {scope : Scope} {f : Addr} {fd : FuncData} {N : List Str} {k : Nat} {p0 p1 p2 p3 p4 p5 p6 : Pos} {j1 j2 j3 : Nat} {sd : Int}
theorem fd_law {body : List Stmt} (F : FunD K "law" qual params body scope [] [] f fd) (S : FnScope N ["_law_script"] scope) (hN : N = ("_law_script" : Str) :: ("_law_row" : Str) :: N.drop 2)
    (hb : body = .Assign [.Name "_law_row" p0] (.List [.Name "_law_script" p1, .Constant (.int 0) j1 p2, .Constant (.int sd) j2 p3, .Constant (.int 0) j3 p4] p5) p6 :: rest)
    (hx : ∀ (cdv : Value) (A : Around) (outer : List Env) (s : Shared) (H : Hp) (E : XK), Loc (cxOf CX0 P w K mg base N qual scope f cdv A outer s H E).nox.env.scope "_law_row" := by intro _ _ _ _ _ _; first | exact Or.inl rfl | exact Or.inr rfl)
    (hv : ∀ (cdv : Value) (A : Around) (outer : List Env) (s : Shared) (H : Hp) (E : XK), Vis (cxOf CX0 P w K mg base N qual scope f cdv A outer s H E).nox.env.scope "_law_script" := by intro _ _ _ _ _ _; first | exact Or.inl rfl | exact Or.inr (Or.inl rfl) | exact Or.inr (Or.inr rfl))
    (hs : ∀ (cdv : Value) (A : Around) (outer : List Env) (s : Shared) (H : Hp) (E : XK), swapsWith (.List [.Name "_law_script" p1, .Constant (.int 0) j1 p2, .Constant (.int sd) j2 p3, .Constant (.int 0) j3 p4] p5) (some (.Name "_law_row" p0)) p6.line (cxOf CX0 P w K mg base N qual scope f cdv A outer s H E).nox.env = pure false := by intro _ _ _ _ _ _; rfl)
    (hf : ∀ (cdv : Value) (A : Around) (outer : List Env) (s : Shared) (H : Hp) (E : XK), (cxOf CX0 P w K mg base N qual scope f cdv A outer s H E).nox.fn "_law_row" = true ∨ (cxOf CX0 P w K mg base N qual scope f cdv A outer s H E).nox.env.scope.names.lookup ("_law_row" : Str) = some .local := by intro _ _ _ _ _ _; first | exact .inr rfl | exact .inl rfl)
    (h : ∀ (cdv : Value) (A : Around) (outer : List Env) (s : Shared) (H : Hp) (E : XK), Room k (A.deeper (envOfC qual scope s.heap.objs.size f cdv)) → ∀ (W : Wd) (r scr : Addr) (ns : List Int), W.row = some (r, scr, ns) →
      Run (cxOf CX0 P w K mg base N qual scope f cdv A outer s H E).nox W (.no :: .r r :: List.replicate (N.length - 2) .no) [] rest { nx := fun _ H' => RetP K W (fun z => z = .bool true) .non H', rt := RetP K W (fun z => z = .bool true) }) :
    FnOk P w K mg base CX0 (k + 1) f fd ["_law_script"] (spLaw K) := by
  refine F.ok S (fun vs H Q E ⟨a, ns, e, _⟩ => by rw [e]; rfl) fun cdv A outer s H vs Q E hr ⟨a, ns, e, hns, hl, q⟩ => ?_
  subst e
  refine ⟨_, PSs.nox wSs.ps, ?_⟩
  rw [hb]
  have hN0 : N[0]? = some ("_law_script" : Str) := by rw [hN]; rfl
  have hN1 : N[1]? = some ("_law_row" : Str) := by rw [hN]; rfl
  refine wSs_cons ((ps_set (i := 1) S.nd hN1 (hx cdv A outer s H E) (pe_lst2 (pa_cons (pe_var (i := 0) hN0 (hv cdv A outer s H E)) (pa_cons pe_int (pa_cons pe_int (pa_cons pe_int pa_nil))))) (hs cdv A outer s H E) (hf cdv A outer s H E)).w ?_)
  have hst : start N [.ref a] = some (.ref a) :: none :: List.replicate (N.length - 2) none := by
    rw [hN]
    show some (V.ref a) :: List.replicate _ none = _
    simp [List.replicate_succ]
  rw [hst]
  refine ⟨_, rfl, Nat.le_of_ble_eq_true rfl, fun r hr' hfr => ?_⟩
  have har : a ≠ r := hfr a _ hl
  let row : HO := .lst [.ref a, .int 0, .int sd, .int 0]
  let W : Wd := ⟨upd H r row, [r], some (r, a, ns)⟩
  have hW : upd H r row r = some row := upd_same
  have ok : WdOk K W := ⟨fun b hb => by
    rw [List.mem_singleton.mp hb]
    show upd H r row r ≠ none
    rw [hW]
    simp, fun r' s' n' e => by
    cases e
    exact ⟨List.mem_cons_self, SqL.up (fun o e => by show upd H r row a = some o; rw [upd_ne har]; exact e) hl, har, hns⟩⟩
  have sl : Slots K (off (hd W []) (upd H r row)) (some (.ref a) :: some (.ref r) :: List.replicate (N.length - 2) none) (.no :: .r r :: List.replicate (N.length - 2) .no) := by
    refine ⟨by simp, fun i dv e => ?_⟩
    match i, e with
    | 0, e => cases e; exact ⟨_, rfl, trivial⟩
    | 1, e => cases e; exact ⟨_, rfl, rfl⟩
    | i + 2, e =>
      have e' : (List.replicate (N.length - 2) DV.no)[i]? = some dv := e
      rw [List.getElem?_replicate] at e'
      split at e'
      · rename_i hi
        cases e'
        refine ⟨none, ?_, trivial⟩
        show (List.replicate (N.length - 2) (none : Option V))[i]? = some none
        rw [List.getElem?_replicate, if_pos hi]
      · cases e'
  have ret : ∀ v H', RetP K W (fun z => z = .bool true) v H' → Q v H' := fun v H' ⟨fr, d', e, hv'⟩ => by
    subst e
    cases hv'
    exact q H'
  have z := h cdv A outer s H E hr W r a ns rfl _ _ ⟨ok, ⟨fun _ _ _ e => e, fun r' s' n' e => by cases e; exact ⟨0, sd, 0, hW, Int.le_refl _⟩⟩, sl, fun _ z => (nomatch z), List.nodup_nil⟩
  intro pins st I
  refine wpAny_mono (z pins st I) (fun fl s' hq => ?_) fun _ _ z => z
  cases fl with
  | next =>
    obtain ⟨σ', H', I', q'⟩ := hq
    exact ⟨σ', H', I', ret _ _ q'⟩
  | brk => exact hq
  | cont => exact hq
  | ret u =>
    obtain ⟨v, σ', H', I', r', q'⟩ := hq
    exact ⟨v, σ', H', I', r', ret _ _ q'⟩
end
end HW
set_option maxHeartbeats 4000000
namespace HW
open PySem PySem.Spec PyProof.Rows L2
open SX (S)
/-- the end of a turn, the state forgotten down to Γ' -/
theorem run_go {X : Cx} {W : Wd} {Γ : List DV} {μ : Mu} {Φ : List DV → Mu → Prop} {rt : VK} {bk ct : L2.St → Hp → Prop} (Γ' : List DV) (w : wk Γ Γ') (h : Φ Γ' μ) : Run X W Γ μ [] ⟨StP X.K W Φ, rt, bk, ct⟩ := run_turnW Γ' w h rfl
/-! ### shapes, for == -/
structure Shp (n : Nat) (d : PyData) : Prop where
  lay : d.canLay0 = true
  dep : d.depth ≤ n
theorem Shp.int {i : Int} : Shp 0 (.int i) := ⟨rfl, Nat.le_refl _⟩
theorem Shp.bl {i : Bool} : Shp 0 (.bool i) := ⟨rfl, Nat.le_refl _⟩
theorem Shp.non : Shp 0 .none := ⟨rfl, Nat.le_refl _⟩
theorem Shp.all {n : Nat} : ∀ {xs : List PyData}, (∀ x ∈ xs, Shp n x) → PyData.canLayAll0 xs = true ∧ PyData.depthAll xs ≤ n
  | [], _ => ⟨rfl, Nat.zero_le _⟩
  | x :: xs, h => by
    obtain ⟨h1, h2⟩ := Shp.all fun y hy => h y (List.mem_cons_of_mem _ hy)
    have h3 := h x List.mem_cons_self
    exact ⟨by rw [PyData.canLayAll0, h3.lay, h1]; rfl, by rw [PyData.depthAll]; exact Nat.max_le.mpr ⟨h3.dep, h2⟩⟩
theorem Shp.list {n : Nat} {xs : List PyData} (h : ∀ x ∈ xs, Shp n x) : Shp (n + 1) (.list xs) := ⟨by rw [PyData.canLay0]; exact (Shp.all h).1, by rw [PyData.depth]; exact Nat.succ_le_succ (Shp.all h).2⟩
theorem Shp.tup {n : Nat} {xs : List PyData} (h : ∀ x ∈ xs, Shp n x) : Shp (n + 1) (.tuple xs) := ⟨by rw [PyData.canLay0]; exact (Shp.all h).1, by rw [PyData.depth]; exact Nat.succ_le_succ (Shp.all h).2⟩
theorem Shp.up {n m : Nat} {d : PyData} (h : Shp n d) (l : n ≤ m) : Shp m d := ⟨h.lay, Nat.le_trans h.dep l⟩
theorem Shp.str {l : List Nat} (h : ∀ c ∈ l, c < 128) : Shp 0 (.str (S l)) := ⟨by
  show PyData.strOk (S l) = true
  unfold PyData.strOk
  simp only [S, List.all_toArray, List.all_eq_true, decide_eq_true_eq]
  exact fun c hc => Nat.lt_trans (h c hc) (by decide), Nat.le_refl _⟩
theorem Shp.ok {n : Nat} {d : PyData} (h : Shp n d) (l : n ≤ 64 := by decide) : SeqAt.shaped d = true := by
  unfold SeqAt.shaped
  rw [h.lay, decide_eq_true (Nat.le_trans h.dep l)]
  rfl
section
variable {X : Cx} {x y : PyData} {n : Nat}
theorem c_neSame (hu : X.A.units + 64 < cLine) (h : Shp n x) (hn : n ≤ 64 := by decide) : OpD X (compareOp .NotEq) x x (.bool false) := by
  have z := c_neD (X := X) hu (h.ok hn) (h.ok hn)
  rw [SeqAt.eqv_refl x h.lay] at z
  exact z
end
end HW
set_option maxHeartbeats 4000000
namespace HW
open PySem PySem.Spec PyProof.Rows L2
open SX (S)
abbrev FnP (K : PySem.W.Frag) (x : Str) (st : Stmt) (f : Addr) (fd : FuncData) : Prop := FunD K x x (defArgs st) (defBody st) (defScope st) [] [] f fd
structure Gs (mg : Str → Option Value) : Prop where
  isinstance : mg "isinstance" = none
  str : mg "str" = none
  int : mg "int" = none
  len : mg "len" = none
  all : mg "all" = none
  range : mg "range" = none
  set : mg "set" = none
  enumerate : mg "enumerate" = none
  zip : mg "zip" = none
  min : mg "min" = none
  max : mg "max" = none
  sorted : mg "sorted" = none
  any : mg "any" = none
  tuple : mg "tuple" = none
  list : mg "list" = none
  bool : mg "bool" = none
  dict : mg "dict" = none
  abs : mg "abs" = none
  sum : mg "sum" = none
abbrev gSEEN (mg : Str → Option Value) : Prop := ∃ t, mg "SEEN" = some (.str "x" t)
abbrev gHOLE (mg : Str → Option Value) : Prop := ∃ t, mg "HOLE" = some (.str "." t)
abbrev gOPEN (mg : Str → Option Value) : Prop := ∃ t, mg "OPEN" = some (.str "?" t)
abbrev gLETTERS (mg : Str → Option Value) : Prop := ∃ t, mg "LETTERS" = some (.str "abcd" t)
abbrev gMOST_MASK (mg : Str → Option Value) : Prop := ∃ t, mg "MOST_MASK" = some (.int 12 t)
abbrev gMOST_ROW (mg : Str → Option Value) : Prop := ∃ t, mg "MOST_ROW" = some (.int 60 t)
/-! the plain words -/
def maskB (m : List Nat) : Bool := decide (1 ≤ m.length) && decide (m.length ≤ 12) && m.all (fun c => decide (c ∈ [120, 46])) && decide (m[0]? = some 120) && decide (m.getLast? = some 120)
def rowB (l : List Nat) : Bool := decide (l.length ≤ 60) && l.all (fun c => decide (c ∈ [97, 98, 99, 100]))
def seenL (m : List Nat) : List Nat := ((m.mapIdx Prod.mk).filter fun q => decide (q.2 = 120)).map Prod.fst
abbrev sD (l : List Nat) : PyData := .str (S l)
abbrev nD (l : List Nat) : PyData := .list (l.map nn)
abbrev wD (l : List (List Nat)) : PyData := .list (l.map sD)
def R_is_mask (ds : List PyData) (d : PyData) : Prop := ∃ m : List Nat, ds = [sD m] ∧ maskB m = true ∧ d = .bool true
def R_need_mask (ds : List PyData) (d : PyData) : Prop := ∃ m : List Nat, ds = [sD m] ∧ maskB m = true ∧ d = .none
def R_is_row (ds : List PyData) (d : PyData) : Prop := ∃ l : List Nat, ds = [sD l] ∧ rowB l = true ∧ d = .bool true
def R_need_row (ds : List PyData) (d : PyData) : Prop := ∃ l : List Nat, ds = [sD l] ∧ rowB l = true ∧ d = .none
def R_seen_by (ds : List PyData) (d : PyData) : Prop := ∃ m : List Nat, ds = [sD m] ∧ m.length ≤ 16777216 ∧ d = nD (seenL m)
theorem map_fst_le {α β : Type} (l : List (α × β)) (p : α × β → Bool) : ((l.filter p).map Prod.fst).length ≤ l.length := by
  rw [List.length_map]
  exact List.length_filter_le ..
/-! ### the draws -/
section
variable {X : Cx} {σ : L2.St} {H : Hp} {a b : Expr} {x y z : V} {Q : VK} {pos : Pos}
/-- e gives v here, whatever the heap is then: the heap stays -/
def At (X : Cx) (σ : L2.St) (H : Hp) (e : Expr) (v : V) : Prop := ∀ Q : VK, Q v H → wE X e σ H Q
theorem at_var (i : Nat) {n : Str} (h : σ[i]? = some (some x)) (hN : X.N[i]? = some n := by rfl) (hv : Vis X.env.scope n := by first | exact Or.inl rfl | exact Or.inr (Or.inl rfl) | exact Or.inr (Or.inr rfl))
    (h1 : (n == ("__debug__" : Str)) = false := by decide) (h2 : (n == ("__classdict__" : Str)) = false := by decide) : At X σ H (.Name n pos) x := fun Q q => (pe_var hN hv h1 h2).w ⟨x, h, q⟩
theorem at_k {e : Expr} {v : V} (h : At X σ H e v) (q : Q v H) : wE X e σ H Q := h Q q
theorem at_int {i : Int} {j p} : At X σ H (.Constant (.int i) j p) (.int i) := fun Q q => pe_int.w q
theorem at_op {op : Operator} {r : R2} (o : OpR X (binaryOp op) r) (ha : At X σ H a x) (hb : At X σ H b y) (hz : ∀ Q : VK, Q z H → r x y H Q) : At X σ H (.BinOp a op b pos) z := fun Q q => (pe_op o wE.pe wE.pe).w (ha _ (hb _ (hz Q q)))
theorem at_ix {p : Addr} {xs : List V} {i : Int} (ha : At X σ H a (.ref p)) (hb : At X σ H b (.int i)) (hl : SqL X.K H p xs) (hx : atI xs i = some x) (hs : PlainIx b := by exact fun _ _ => rfl) : At X σ H (.Subscript a b pos) x := fun Q q =>
  (pe_ix ix_list wE.pe wE.pe hs).w (ha _ (hb _ ⟨p, xs, i, x, rfl, rfl, hl, hx, q⟩))
theorem at_int1 {p : Pos} {i : Int} (ha : At X σ H a (.int i)) (hm : X.mg "int" = none) (hg : Gl X "int" := by rfl) (hs : starEach [a] X.env = (false, eval a X.env) :: starEach [] X.env := by rfl) (hpl : (backTo pos (starEach [] X.env)).any (·.1) = false := by rfl) : At X σ H (.Call (.Name "int" p) [a] [] pos) (.int i) := fun Q q =>
  (pe_callTy call_int1 hg hm boot_int (pa_cons wE.pe pa_nil hs) (by decide) (by decide) hs hpl).w (ha _ (.inl ⟨i, rfl, q⟩))
theorem at_len {p : Pos} {l : Addr} {xs : List V} (ha : At X σ H a (.ref l)) (hl : SqL X.K H l xs) (hm : X.mg "len" = none) (hg : Gl X "len" := by rfl) (hs : starEach [a] X.env = (false, eval a X.env) :: starEach [] X.env := by rfl) (hpl : (backTo pos (starEach [] X.env)).any (·.1) = false := by rfl) : At X σ H (.Call (.Name "len" p) [a] [] pos) (.int xs.length) := fun Q q =>
  (pe_callB call_len_seq hg hm boot_len (pa_cons wE.pe pa_nil hs) (by decide) (by decide) hs hpl).w (ha _ ⟨l, xs, rfl, .inl hl, q⟩)
theorem at_cmp {op : CmpOp} {r : R2} {k : Bool} (o : OpR X (compareOp op) r) (ha : At X σ H a x) (hb : At X σ H b y) (hz : ∀ Q : VK, Q (.bl k) H → r x y H Q) {Qb : Bool → Hp → Prop} (q : Qb k H) (hm : behindInMarks op b = false := by first | exact nomark _ | rfl) : wT X (.Compare a [op] [b] pos) σ H Qb :=
  (pt_cmpR o wE.pe wE.pe hm).w (ha _ (hb _ (hz _ ⟨k, rfl, q⟩)))
end
def R_taken_pre (ds : List PyData) : Prop := ∃ m : Int, ds = [.int m] ∧ 0 < m ∧ m < 1073741824
def R_taken_post (ds : List PyData) (d : PyData) : Prop := ∃ m : Int, ∃ k : Nat, ds = [.int m] ∧ d = .int (k : Int) ∧ (k : Int) < m
/-! ### rings -/
theorem rowB_len {l : List Nat} (h : rowB l = true) : l.length ≤ 60 := by
  unfold rowB at h
  simp only [Bool.and_eq_true, decide_eq_true_eq] at h
  exact h.1
theorem maskB_len {m : List Nat} (h : maskB m = true) : m.length ≤ 12 := by
  unfold maskB at h
  simp only [Bool.and_eq_true, decide_eq_true_eq] at h
  exact h.1.1.1.2
theorem seenL_len (m : List Nat) : (seenL m).length ≤ m.length := by
  unfold seenL
  refine Nat.le_trans (map_fst_le _ _) ?_
  simp
/-! ### the law's own defs -/
def lowL (n : Nat) (l : List Nat) : Prop := ∀ c ∈ l, 97 ≤ c ∧ c < 97 + n
def pre_mask (ds : List PyData) : Prop := ∃ w : Nat, ds = [nn w] ∧ 1 ≤ w ∧ w ≤ 12
def post_mask (ds : List PyData) (d : PyData) : Prop := ∃ (w : Nat) (m : List Nat), ds = [nn w] ∧ d = sD m ∧ maskB m = true ∧ m.length ≤ w
def pre_line (ds : List PyData) : Prop := ∃ a n : Nat, ds = [nn a, nn n] ∧ a ≤ 100000 ∧ 1 ≤ n ∧ n ≤ 4
def post_line (ds : List PyData) (d : PyData) : Prop := ∃ (a n : Nat) (l : List Nat), ds = [nn a, nn n] ∧ d = sD l ∧ l.length ≤ a ∧ lowL n l
def openL (m : List Nat) : List Nat := (List.range m.length).filter fun i => decide (m.getD i 0 = 120)
def R_open (ds : List PyData) (d : PyData) : Prop := ∃ m : List Nat, ds = [sD m] ∧ m.length ≤ 4000 ∧ d = nD (openL m)
def lawV (l m : List Nat) : List (List Nat) := (List.range (l.length + 1 - m.length)).map fun p => (openL m).map fun a => l.getD (p + a) 0
def R_lviews (ds : List PyData) (d : PyData) : Prop := ∃ l m : List Nat, ds = [sD l, sD m] ∧ l.length ≤ 4000 ∧ 1 ≤ m.length ∧ m.length ≤ 4000 ∧ d = wD (lawV l m)
abbrev DRAW (P : Program) (w : World) (K : PySem.W.Frag) (mg : Str → Option Value) (base : Heap) (k : Nat) : Prop := Fd P w K mg base k "_law_taken" ["_law_row", "_law_many"] (spW K R_taken_pre R_taken_post)
section
variable {X : Cx} {W : Wd} {Γ : List DV} {μ : Mu} {a : Expr} {pos p p2 : Pos} {n : Str} {r scr : Addr} {ns : List Int} {k : Nat}
/-- _law_taken(_law_row, a) -/
theorem ev_taken {A : PyData → Prop} (m : Nat) (F : DRAW X.prog X.w X.K X.mg X.base k) (hr : Room k X.A) (hrow : W.row = some (r, scr, ns)) (i : Nat) (ha : Ev X W Γ μ a A) (hm : ∀ d, A d → ∃ z : Nat, d = nn z ∧ 1 ≤ z ∧ z ≤ m) (hm2 : m < 1000000 := by decide)
    (hi : Γ[i]? = some (.r r) := by rfl) (hN : X.N[i]? = some n := by rfl) (hv : Vis X.env.scope n := by first | exact Or.inl rfl | exact Or.inr (Or.inl rfl) | exact Or.inr (Or.inr rfl))
    (h1 : (n == ("__debug__" : Str)) = false := by decide) (h2 : (n == ("__classdict__" : Str)) = false := by decide) (hg : Gl X "_law_taken" := by rfl)
    (he : starEach (.Name n p2 :: [a]) X.env = (false, eval (.Name n p2) X.env) :: starEach [a] X.env := by rfl) (hpl : (backTo pos (starEach [a] X.env)).any (·.1) = false := by rfl) (he2 : starEach [a] X.env = (false, eval a X.env) :: starEach [] X.env := by rfl) :
    Ev X W Γ μ (.Call (.Name "_law_taken" p) (.Name n p2 :: [a]) [] pos) (fun d => ∃ z k : Nat, A (nn z) ∧ d = nn k ∧ k < z ∧ z ≤ m) :=
  (ev_draw F hr hrow i (eva_cons ha eva_nil he2) (fun ds ⟨x, r, e, ax, er⟩ => by
    obtain ⟨z, e2, h3, h4⟩ := hm x ax
    subst er
    exact ⟨(z : Int), by rw [e, e2], by omega, by omega⟩) hi hN hv h1 h2 hg (by decide) he hpl).imp fun d ⟨ds, ⟨x, r, e, ax, er⟩, m', k', e3, e4, h5⟩ => by
    obtain ⟨z, e2, h3, h4⟩ := hm x ax
    subst er
    rw [e, e2] at e3
    have e5 : (z : Int) = m' := by
      have := (List.cons.inj e3).1
      exact PyData.int.inj this
    exact ⟨z, k', e2 ▸ ax, e4, by omega, h4⟩
theorem ev_takenN (m : Nat) (F : DRAW X.prog X.w X.K X.mg X.base k) (hr : Room k X.A) (hrow : W.row = some (r, scr, ns)) (i : Nat) {z : Int} (ha : Ed X W Γ μ a (.int z)) (e : z = (m : Int)) (h1m : 1 ≤ m := by decide) (hm2 : m < 1000000 := by decide)
    (hi : Γ[i]? = some (.r r) := by rfl) (hN : X.N[i]? = some n := by rfl) (hv : Vis X.env.scope n := by first | exact Or.inl rfl | exact Or.inr (Or.inl rfl) | exact Or.inr (Or.inr rfl))
    (h1 : (n == ("__debug__" : Str)) = false := by decide) (h2 : (n == ("__classdict__" : Str)) = false := by decide) (hg : Gl X "_law_taken" := by rfl)
    (he : starEach (.Name n p2 :: [a]) X.env = (false, eval (.Name n p2) X.env) :: starEach [a] X.env := by rfl) (hpl : (backTo pos (starEach [a] X.env)).any (·.1) = false := by rfl) (he2 : starEach [a] X.env = (false, eval a X.env) :: starEach [] X.env := by rfl) :
    Ev X W Γ μ (.Call (.Name "_law_taken" p) (.Name n p2 :: [a]) [] pos) (fun d => ∃ k : Nat, d = nn k ∧ k < m) :=
  (ev_taken (A := fun d => d = nn m) m F hr hrow i (ha.evP (by rw [e])) (fun d e => ⟨m, e, h1m, Nat.le_refl _⟩) hm2 hi hN hv h1 h2 hg he hpl he2).imp fun d ⟨z, k, e1, e2, h3, h4⟩ => ⟨k, e2, by omega⟩
end
theorem EvA.imp {X : Cx} {W : Wd} {Γ : List DV} {μ : Mu} {es : List Expr} {A B : List PyData → Prop} (h : EvA X W Γ μ es A) (i : ∀ d, A d → B d) : EvA X W Γ μ es B := fun σ H R Q k => h σ H R Q fun v d H2 R2 x2 r p => k v d H2 R2 x2 r (i d p)

/-! ### the plain law -/
theorem mapIdx_range (m : List Nat) : m.mapIdx Prod.mk = (List.range m.length).map fun i => (i, m.getD i 0) := by
  apply List.ext_getElem?
  intro i
  rw [List.getElem?_mapIdx, List.getElem?_map]
  by_cases h : i < m.length
  · rw [List.getElem?_range h, List.getElem?_eq_getElem h]
    show some (i, m[i]) = some (i, m.getD i 0)
    rw [List.getD_eq_getElem?_getD, List.getElem?_eq_getElem h]
    rfl
  · rw [List.getElem?_eq_none (by omega), List.getElem?_eq_none (by simp; omega)]
    rfl
theorem open_seen (m : List Nat) : openL m = seenL m := by
  unfold seenL openL
  rw [mapIdx_range, List.filter_map, List.map_map]
  have e : (Prod.fst ∘ fun i => (i, m.getD i 0)) = (id : Nat → Nat) := rfl
  rw [e, List.map_id]
  rfl
theorem mem_open {m : List Nat} {a : Nat} (h : a ∈ openL m) : a < m.length := by
  have := (List.mem_filter.mp h).1
  simpa using this
theorem low_row {l : List Nat} (h1 : l.length ≤ 60) (h2 : lowL 4 l) : rowB l = true := by
  unfold rowB
  simp only [Bool.and_eq_true, decide_eq_true_eq, List.all_eq_true]
  refine ⟨h1, fun c hc => ?_⟩
  have := h2 c hc
  have : c = 97 ∨ c = 98 ∨ c = 99 ∨ c = 100 := by omega
  rcases this with e | e | e | e <;> (subst e; decide)
theorem rowB_low {l : List Nat} (h : rowB l = true) : ∀ c ∈ l, c < 128 := by
  unfold rowB at h
  simp only [Bool.and_eq_true, decide_eq_true_eq, List.all_eq_true] at h
  intro c hc
  have := h.2 c hc
  simp at this
  omega
theorem shp_w {ws : List (List Nat)} (h : ∀ v ∈ ws, ∀ c ∈ v, c < 128) : Shp 1 (wD ws) := Shp.list fun x hx => by
  obtain ⟨v, hv, rfl⟩ := List.mem_map.mp hx
  exact Shp.str (h v hv)

end HW
set_option maxHeartbeats 4000000
namespace HW
open PySem PySem.Spec PyProof.Rows L2
open SX (S)
section
variable {X : Cx} {W W0 : Wd} {Γ : List DV} {μ : Mu} {e c a b : Expr} {rest sts body : List Stmt} {D : Ends} {d x y : PyData} {pos p p1 p2 p3 : Pos} {n n1 n2 : Str} {α : Type}
/-- for n1, n2 in iter -/
theorem run_for2 {xs : List α} {iter : Expr} {e1 e2 : α → PyData} {kk : Nat} {tpos : Pos} (k1 k2 : Nat) (hi : IterD X W Γ μ (.Tuple [.Name n1 p1, .Name n2 p2] kk tpos) iter (fun x => pr2 (e1 x) (e2 x)) xs) (J : Nat → List DV → Mu → Prop) (h0 : J 0 Γ μ)
    (hs : ∀ W1, Wle W W1 → ∀ i x Γ' μ', xs[i]? = some x → J i Γ' μ' → Run X W1 ((Γ'.set k1 (.d (e1 x))).set k2 (.d (e2 x))) μ' body { D with nx := StP X.K W1 (J (i + 1)), ct := StP X.K W1 (J (i + 1)), bk := wSs X rest D })
    (hd' : ∀ Γ' μ', J xs.length Γ' μ' → Run X W Γ' μ' rest D) (hN : X.N.Nodup) (hn1 : X.N[k1]? = some n1 := by rfl) (hn2 : X.N[k2]? = some n2 := by rfl) (hx1 : Loc X.env.scope n1 := by first | exact Or.inl rfl | exact Or.inr rfl) (hx2 : Loc X.env.scope n2 := by first | exact Or.inl rfl | exact Or.inr rfl)
    (hf1 : X.fn n1 = true ∨ X.env.scope.names.lookup n1 = some .local := by first | exact .inr rfl | exact .inl rfl) (hf2 : X.fn n2 = true ∨ X.env.scope.names.lookup n2 = some .local := by first | exact .inr rfl | exact .inl rfl)
    (hp : PassesOwn (model X.prog X.w) X.A X.env X.xe := by exact PassesOwn.never) (hc : X.calm = true := by rfl) (hf : ∀ x, foldedSetIterable iter X.env x = pure x := by intro _; rfl) :
    Run X W Γ μ (.For (.Tuple [.Name n1 p1, .Name n2 p2] kk tpos) iter body [] pos :: rest) D :=
  run_forG hi (tg_pair (tg_name (K := X.K) k1) (tg_name k2)) (pg_tup hc (pgs_cons (pg_name hN hn1 hx1 hf1) (pgs_cons (pg_name hN hn2 hx2 hf2) pgs_nil))) (fun _ _ x _ => ⟨e1 x, e2 x, rfl, trivial, trivial⟩) (fun _ => J) (fun _ _ => h0) (fun _ e W1 l i x Γ' μ' h j => hs W1 l i x Γ' μ' (e ▸ h) j) (fun _ e Γ' μ' j => hd' Γ' μ' (e ▸ j)) hp hc hf
/-- n1, n2 = a, b : two plain names -/
theorem run_parP {As : List PyData → Prop} (i j : Nat) {kt k2 : Nat} {pt pt2 : Pos} (ha : EvA X W Γ μ [a, b] As) (h : ∀ ds, As ds → ∃ x y, ds = [x, y] ∧ Run X W ((Γ.set i (.d x)).set j (.d y)) μ rest D) (hN : X.N.Nodup) (hij : i ≠ j := by decide) (hi : X.N[i]? = some n1 := by rfl) (hj : X.N[j]? = some n2 := by rfl)
    (hx : X.env.scope.names.lookup n1 = some .local := by rfl) (hy : X.env.scope.names.lookup n2 = some .local := by rfl) (hc : X.calm = true := by rfl)
    (hw : swappedStores [.Tuple [.Name n1 p1, .Name n2 p2] kt pt] (.Tuple [a, b] k2 pt2) X.env = pure (some [n1, n2]) := by rfl)
    (hs : swapsWithSole [.Tuple [.Name n1 p1, .Name n2 p2] kt pt] (.Tuple [a, b] k2 pt2) pos.line X.env = pure false := by rfl) :
    Run X W Γ μ (.Assign [.Tuple [.Name n1 p1, .Name n2 p2] kt pt] (.Tuple [a, b] k2 pt2) pos :: rest) D := fun σ H R =>
  wSs_cons ((ps_par hc hN hi hj hij hx hy wA.pa hw hs).w (ha σ H R _ fun vs ds H2 R2 e2 r pa => by
    obtain ⟨x, y, rfl, hr⟩ := h ds pa
    cases r with
    | cons r1 r =>
      cases r with
      | cons r2 r =>
        cases r
        exact ⟨_, _, rfl, hr _ _ ⟨R2.wd, R2.fr, (R2.sl.set i r1).set j r2, R2.mu, R2.nd⟩⟩))
theorem run_par (i j : Nat) {kt k2 : Nat} {pt pt2 : Pos} (ha : EdA X W Γ μ [a, b] [x, y]) (h : Run X W ((Γ.set i (.d x)).set j (.d y)) μ rest D) (hN : X.N.Nodup) (hij : i ≠ j := by decide) (hi : X.N[i]? = some n1 := by rfl) (hj : X.N[j]? = some n2 := by rfl)
    (hx : X.env.scope.names.lookup n1 = some .local := by rfl) (hy : X.env.scope.names.lookup n2 = some .local := by rfl) (hc : X.calm = true := by rfl)
    (hw : swappedStores [.Tuple [.Name n1 p1, .Name n2 p2] kt pt] (.Tuple [a, b] k2 pt2) X.env = pure (some [n1, n2]) := by rfl)
    (hs : swapsWithSole [.Tuple [.Name n1 p1, .Name n2 p2] kt pt] (.Tuple [a, b] k2 pt2) pos.line X.env = pure false := by rfl) :
    Run X W Γ μ (.Assign [.Tuple [.Name n1 p1, .Name n2 p2] kt pt] (.Tuple [a, b] k2 pt2) pos :: rest) D :=
  run_parP (As := fun l => l = [x, y]) i j (ha.ev rfl) (fun ds e => ⟨x, y, e, h⟩) hN hij hi hj hx hy hc hw hs
/-- while c: the state J m with the measure m; c tells b m -/
theorem run_while {c : Expr} (J : Nat → List DV → Mu → Prop) (B : Nat → Bool) (m0 : Nat) (h0 : J m0 Γ μ) (hc : ∀ W1, Wle W W1 → ∀ m Γ' μ', J m Γ' μ' → EdT X W1 Γ' μ' c (B m))
    (hs : ∀ W1, Wle W W1 → ∀ m Γ' μ', B m = true → J m Γ' μ' → Run X W1 Γ' μ' body { D with nx := StP X.K W1 (fun Γ2 μ2 => ∃ m', m' < m ∧ J m' Γ2 μ2), ct := StP X.K W1 (fun Γ2 μ2 => ∃ m', m' < m ∧ J m' Γ2 μ2), bk := wSs X rest D })
    (hd' : ∀ m Γ' μ', B m = false → J m Γ' μ' → Run X W Γ' μ' rest D) (hp : PassesOwn (model X.prog X.w) X.A X.env X.xe := by exact PassesOwn.never) :
    Run X W Γ μ (.While c body [] pos :: rest) D := fun σ H R => by
  refine wSs_cons ((ps_while hp wT.pt wSs.ps).w ⟨fun m => StP X.K (W.now μ H) (J m), ⟨m0, Γ, μ, h0, R.now⟩, ?_⟩)
  have le1 : Wle W (W.now μ H) := R.now_le
  rintro m σ' H' ⟨Γ', μ', j, R'⟩
  refine hc _ le1 m Γ' μ' j σ' H' R' _ fun H2 R2 _ => ?_
  cases hb : B m with
  | true =>
    refine iteT ⟨StP X.K (W.now μ H) (fun Γ2 μ2 => ∃ m', m' < m ∧ J m' Γ2 μ2), fun σ2 H3 ⟨Γ2, μ2, ⟨m', hm, j'⟩, R3⟩ => ⟨m', hm, Γ2, μ2, j', R3⟩, ?_⟩
    exact hs _ le1 m Γ' μ' hb j σ' H2 R2
  | false => exact iteF (hd' m Γ' μ' hb j σ' H2 (R2.wdown le1 R.wd))
end
end HW
set_option maxHeartbeats 4000000
namespace HW
open PySem PySem.Spec PyProof.Rows L2
open SX (S)
/-! ### views -/
def viewL (l m : List Nat) (p : Nat) : List Nat := (seenL m).map fun a => l.getD (p + a) 0
def viewsL (l m : List Nat) : List (List Nat) := (List.range (l.length + 1 - m.length)).map (viewL l m)
def tellsB (l m : List Nat) : Bool := decide (viewsL l m).Nodup
theorem lawV_eq (l m : List Nat) : lawV l m = viewsL l m := by unfold lawV viewsL; rw [open_seen]; rfl
theorem viewsL_len (l m : List Nat) : (viewsL l m).length = l.length + 1 - m.length := by simp [viewsL]
theorem mem_seen {m : List Nat} {a : Nat} (h : a ∈ seenL m) : a < m.length := mem_open (open_seen m ▸ h)
theorem maskB_pos {m : List Nat} (h : maskB m = true) : 1 ≤ m.length := by
  unfold maskB at h
  simp only [Bool.and_eq_true, decide_eq_true_eq] at h
  exact h.1.1.1.1
def R_view_by (ds : List PyData) (d : PyData) : Prop := ∃ (l m : List Nat) (p : Nat), ds = [sD l, sD m, nn p] ∧ l.length ≤ 4000 ∧ m.length ≤ 4000 ∧ p + m.length ≤ l.length ∧ d = sD (viewL l m p)
def R_views_of (ds : List PyData) (d : PyData) : Prop := ∃ l m : List Nat, ds = [sD l, sD m] ∧ l.length ≤ 4000 ∧ 1 ≤ m.length ∧ m.length ≤ 4000 ∧ d = wD (viewsL l m)
def R_is_from (ds : List PyData) (d : PyData) : Prop := ∃ v a b : Int, ds = [.int v, .int a, .int b] ∧ d = .bool (decide (a ≤ v) && decide (v ≤ b))
def R_need_letters (ds : List PyData) (d : PyData) : Prop := ∃ n : Nat, ds = [nn n] ∧ 1 ≤ n ∧ n ≤ 4 ∧ d = .none
def letL (n : Nat) : List Nat := [97, 98, 99, 100].take n
theorem mem_letL {n c : Nat} (hn : n ≤ 4) : c ∈ letL n ↔ 97 ≤ c ∧ c < 97 + n := by
  unfold letL
  match n, hn with
  | 0, _ => constructor <;> intro h <;> first | omega | simp at h
  | 1, _ => simp; omega
  | 2, _ => simp; omega
  | 3, _ => simp; omega
  | 4, _ => simp; omega
theorem letL_len {n : Nat} (hn : n ≤ 4) : (letL n).length = n := by simp [letL]; omega
def chgL (l : List Nat) (i c : Nat) : List Nat := l.take i ++ [c] ++ l.drop (i + 1)
theorem chgL_len (l : List Nat) (i c : Nat) (h : i < l.length) : (chgL l i c).length = l.length := by simp [chgL]; omega
theorem flat_len {α β : Type} (f : α → List β) (c : Nat) : ∀ l : List α, (∀ x ∈ l, (f x).length ≤ c) → (l.flatMap f).length ≤ l.length * c
  | [], _ => by simp
  | x :: l, h => by
    have h1 := h x List.mem_cons_self
    have h2 := flat_len f c l fun y hy => h y (List.mem_cons_of_mem _ hy)
    rw [List.flatMap_cons, List.length_append, List.length_cons, Nat.add_mul]
    omega

/-! ### draws in use -/
section
variable {X : Cx} {W : Wd} {Γ : List DV} {μ : Mu} {a b e i : Expr} {pos p p2 : Pos} {n : Str} {r scr : Addr} {ns : List Int} {k : Nat}
/-- [..][draw] -/
theorem ev_pick (xs : List PyData) (he : Ed X W Γ μ e (.list xs)) (hi : Ev X W Γ μ i (fun d => ∃ q : Nat, d = nn q ∧ q < xs.length)) (hs : PlainIx i := by exact fun _ _ => rfl) : Ev X W Γ μ (.Subscript e i pos) (fun z => z ∈ xs) :=
  ev_ix he.ev hi (fun x y ex ⟨q, ey, hq⟩ => by
    subst ex
    subst ey
    exact ⟨xs[q], List.getElem_mem hq, i_list (n := q) (List.getElem?_eq_getElem hq)⟩) hs
/-- "abcd"[draw] -/
theorem ev_sign (l : List Nat) (hl : l.length ≤ 1000) (he : Ed X W Γ μ e (sD l)) (hi : Ev X W Γ μ i (fun d => ∃ q : Nat, d = nn q ∧ q < l.length)) (hs : PlainIx i := by exact fun _ _ => rfl) : Ev X W Γ μ (.Subscript e i pos) (fun z => ∃ c, z = sg c ∧ c ∈ l) :=
  ev_ix he.ev hi (fun x y ex ⟨q, ey, hq⟩ => by
    subst ex
    subst ey
    exact ⟨sg l[q], ⟨l[q], rfl, List.getElem_mem hq⟩, i_str (n := q) (by omega) (List.getElem?_eq_getElem hq)⟩) hs
/-- _law_mask(_law_row, a) -/
theorem ev_lmask (wd : Nat) (F : Fd X.prog X.w X.K X.mg X.base k "_law_mask" ["_law_row", "_law_width"] (spW X.K pre_mask post_mask)) (hr : Room k X.A) (hrow : W.row = some (r, scr, ns)) (j : Nat) (ha : Ev X W Γ μ a (fun z => ∃ q : Nat, z = nn q ∧ 1 ≤ q ∧ q ≤ wd)) (hw : wd ≤ 12 := by decide)
    (hi : Γ[j]? = some (.r r) := by rfl) (hN : X.N[j]? = some n := by rfl) (hv : Vis X.env.scope n := by first | exact Or.inl rfl | exact Or.inr (Or.inl rfl) | exact Or.inr (Or.inr rfl))
    (h1 : (n == ("__debug__" : Str)) = false := by decide) (h2 : (n == ("__classdict__" : Str)) = false := by decide) (hg : Gl X "_law_mask" := by rfl)
    (he : starEach (.Name n p2 :: [a]) X.env = (false, eval (.Name n p2) X.env) :: starEach [a] X.env := by rfl) (hpl : (backTo pos (starEach [a] X.env)).any (·.1) = false := by rfl) (he2 : starEach [a] X.env = (false, eval a X.env) :: starEach [] X.env := by rfl) :
    Ev X W Γ μ (.Call (.Name "_law_mask" p) (.Name n p2 :: [a]) [] pos) (fun d => ∃ m : List Nat, d = sD m ∧ maskB m = true ∧ m.length ≤ wd) :=
  (ev_draw F hr hrow j (A := fun ds => ∃ q : Nat, ds = [nn q] ∧ 1 ≤ q ∧ q ≤ wd) (eva_cons ha eva_nil he2 |>.imp fun ds ⟨x, r, e, ⟨q, e2, h⟩, e3⟩ => ⟨q, by rw [e, e2, e3], h⟩) (fun ds ⟨q, e, h3, h4⟩ => ⟨q, e, h3, by omega⟩) hi hN hv h1 h2 hg (by decide) he hpl).imp fun d ⟨ds, ⟨q, e, h3, h4⟩, hp⟩ => by
    obtain ⟨w', m, e2, e3, hm, hl⟩ := hp
    rw [e] at e2
    have := PyData.int.inj (List.cons.inj e2).1
    exact ⟨m, e3, hm, by omega⟩
/-- _law_line(_law_row, a, b) -/
theorem ev_lline (A N : Nat) (F : Fd X.prog X.w X.K X.mg X.base k "_law_line" ["_law_row", "_law_most", "_law_letters"] (spW X.K pre_line post_line)) (hr : Room k X.A) (hrow : W.row = some (r, scr, ns)) (j : Nat) (ha : Ev X W Γ μ a (fun z => ∃ q : Nat, z = nn q ∧ q ≤ A)) (hb : Ev X W Γ μ b (fun z => ∃ q : Nat, z = nn q ∧ 1 ≤ q ∧ q ≤ N)) (hA : A ≤ 100000 := by decide) (hNN : N ≤ 4 := by decide)
    (hi : Γ[j]? = some (.r r) := by rfl) (hN : X.N[j]? = some n := by rfl) (hv : Vis X.env.scope n := by first | exact Or.inl rfl | exact Or.inr (Or.inl rfl) | exact Or.inr (Or.inr rfl))
    (h1 : (n == ("__debug__" : Str)) = false := by decide) (h2 : (n == ("__classdict__" : Str)) = false := by decide) (hg : Gl X "_law_line" := by rfl)
    (he : starEach (.Name n p2 :: [a, b]) X.env = (false, eval (.Name n p2) X.env) :: starEach [a, b] X.env := by rfl) (hpl : (backTo pos (starEach [a, b] X.env)).any (·.1) = false := by rfl) (he2 : starEach [a, b] X.env = (false, eval a X.env) :: starEach [b] X.env := by rfl) (he3 : starEach [b] X.env = (false, eval b X.env) :: starEach [] X.env := by rfl) :
    Ev X W Γ μ (.Call (.Name "_law_line" p) (.Name n p2 :: [a, b]) [] pos) (fun d => ∃ l : List Nat, d = sD l ∧ l.length ≤ A ∧ lowL N l) :=
  (ev_draw F hr hrow j (A := fun ds => ∃ q q2 : Nat, ds = [nn q, nn q2] ∧ q ≤ A ∧ 1 ≤ q2 ∧ q2 ≤ N) (eva_cons ha (eva_cons hb eva_nil he3) he2 |>.imp fun ds ⟨x, r, e, ⟨q, e2, h⟩, y, r2, e3, ⟨q2, e4, h4⟩, e5⟩ => ⟨q, q2, by rw [e, e2, e3, e4, e5], h, h4⟩) (fun ds ⟨q, q2, e, h3, h4, h5⟩ => ⟨q, q2, e, by omega, h4, by omega⟩) hi hN hv h1 h2 hg (by decide) he hpl).imp fun d ⟨ds, ⟨q, q2, e, h3, h4, h5⟩, hp⟩ => by
    obtain ⟨a', n', l, e2, e3, hl, hlow⟩ := hp
    rw [e] at e2
    have e4 := PyData.int.inj (List.cons.inj e2).1
    have e5 := PyData.int.inj (List.cons.inj (List.cons.inj e2).2).1
    exact ⟨l, e3, by omega, fun c hc => by
      have := hlow c hc
      omega⟩
end
end HW
set_option maxHeartbeats 4000000
namespace HW
open PySem PySem.Spec PyProof.Rows L2
open SX (S)
section
variable {X : Cx} {w : List Nat} {ws : List (List Nat)} {ds : List PyData}
/-- tuple(list), list(list), list(tuple) -/
theorem c_tupL : CallD X (.type "tuple") [.list ds] (.tuple ds) := CallR.to call_tuple_of fun vs H Q ⟨L, hL, hv, k⟩ => by
  cases hv with
  | cons h1 h2 =>
    cases h2
    cases h1 with
    | lst ha hs => exact ⟨_, _, rfl, .inl ⟨SqL.of (off_some ha).2, fun l hl => k _ _ (same_new hl) (.tup (.inl (.inl (off_upd (new_out hL hl)))) (hs.up (XT.same (same_new hl))))⟩⟩
theorem c_listL : CallD X (.type "list") [.list ds] (.list ds) := CallR.to call_list_of fun vs H Q ⟨L, hL, hv, k⟩ => by
  cases hv with
  | cons h1 h2 =>
    cases h2
    cases h1 with
    | lst ha hs => exact ⟨_, _, rfl, .inl (SqL.of (off_some ha).2), fun l hl => k _ _ (same_new hl) (.lst (off_upd (new_out hL hl)) (hs.up (XT.same (same_new hl))))⟩
/-- xs == [], xs != [] -/
theorem eqv_nil (ds : List PyData) : PyData.eqv (.list ds) (.list []) = ds.isEmpty := by cases ds <;> rfl
theorem c_neNil {n : Nat} (hu : X.A.units + 64 < cLine) (h : Shp n (.list ds)) (hn : n ≤ 64 := by decide) : OpD X (compareOp .NotEq) (.list ds) (.list []) (.bool (!ds.isEmpty)) := by
  have z := c_neD (X := X) (y := .list []) hu (h.ok hn) rfl
  rw [eqv_nil] at z
  exact z
end
end HW
set_option maxHeartbeats 4000000
namespace HW
open PySem PySem.Spec PyProof.Rows L2
open SX (S)
section
variable {X : Cx} {W W0 : Wd} {Γ : List DV} {μ : Mu} {b : Expr} {rest : List Stmt} {D : Ends} {x y : PyData} {pos p p1 p2 pl : Pos} {n1 n2 : Str}
/-- n1, n2 = [], b : n1 a local list -/
theorem run_parL0 (i j : Nat) {kt k2 : Nat} {pt pt2 : Pos} (hb : ∀ l, Ed X W Γ ((l, .lst []) :: μ) b y) (h : ∀ l, Run X W ((Γ.set i (.r l)).set j (.d y)) ((l, .lst []) :: μ) rest D) (hN : X.N.Nodup) (hij : i ≠ j := by decide) (hi : X.N[i]? = some n1 := by rfl) (hj : X.N[j]? = some n2 := by rfl)
    (hx : X.env.scope.names.lookup n1 = some .local := by rfl) (hy : X.env.scope.names.lookup n2 = some .local := by rfl) (hc : X.calm = true := by rfl)
    (hw : swappedStores [.Tuple [.Name n1 p1, .Name n2 p2] kt pt] (.Tuple [.List [] pl, b] k2 pt2) X.env = pure (some [n1, n2]) := by rfl)
    (hs : swapsWithSole [.Tuple [.Name n1 p1, .Name n2 p2] kt pt] (.Tuple [.List [] pl, b] k2 pt2) pos.line X.env = pure false := by rfl)
    (hs1 : starEach [.List [] pl, b] X.env = (false, eval (.List [] pl) X.env) :: starEach [b] X.env := by rfl) (hs2 : starEach [b] X.env = (false, eval b X.env) :: starEach [] X.env := by rfl) :
    Run X W Γ μ (.Assign [.Tuple [.Name n1 p1, .Name n2 p2] kt pt] (.Tuple [.List [] pl, b] k2 pt2) pos :: rest) D := fun σ H R =>
  wSs_cons ((ps_par hc hN hi hj hij hx hy (pa_cons (pe_lst pa_nil) (pa_cons wE.pe pa_nil hs2) hs1) hw hs).w ⟨Nat.zero_le _, fun l hl => by
    have R1 := R.born (m := .lst []) (o := .lst []) hl ⟨[], upd_same, .nil⟩
    exact hb l σ _ R1 _ fun v H2 R2 x2 r2 => ⟨_, _, rfl, h l _ _ ⟨R2.wd, R2.fr, (R2.sl.setr i).set j r2, R2.mu, R2.nd⟩⟩⟩)
end
/-! ### the rows that are told, letter by letter -/
theorem getD_app {l : List Nat} {c i : Nat} (h : i < l.length) : (l ++ [c]).getD i 0 = l.getD i 0 := by
  rw [List.getD_eq_getElem?_getD, List.getD_eq_getElem?_getD, List.getElem?_append_left h]
theorem viewL_app {l m : List Nat} {c p : Nat} (h : p + m.length ≤ l.length) : viewL (l ++ [c]) m p = viewL l m p := by
  unfold viewL
  refine List.map_congr_left fun a ha => getD_app ?_
  have := mem_seen ha
  omega
theorem viewsL_snoc (l m : List Nat) (c : Nat) (hm : 1 ≤ m.length) : viewsL (l ++ [c]) m = if l.length + 1 < m.length then viewsL l m else viewsL l m ++ [viewL (l ++ [c]) m (l.length + 1 - m.length)] := by
  unfold viewsL
  rw [List.length_append, List.length_singleton]
  by_cases h : l.length + 1 < m.length
  · rw [if_pos h]
    have e1 : l.length + 1 + 1 - m.length = 0 := by omega
    have e2 : l.length + 1 - m.length = 0 := by omega
    rw [e1, e2]
    rfl
  · rw [if_neg h]
    have e1 : l.length + 1 + 1 - m.length = (l.length + 1 - m.length) + 1 := by omega
    rw [e1, List.range_succ, List.map_append]
    congr 1
    refine List.map_congr_left fun p hp => viewL_app ?_
    have := List.mem_range.mp hp
    omega
def okC (m r : List Nat) (c : Nat) : Bool := decide (r.length + 1 < m.length) || !decide (viewL (r ++ [c]) m (r.length + 1 - m.length) ∈ viewsL r m)
theorem tells_snoc (r m : List Nat) (c : Nat) (hm : 1 ≤ m.length) : tellsB (r ++ [c]) m = (tellsB r m && okC m r c) := by
  unfold tellsB okC
  rw [viewsL_snoc r m c hm]
  by_cases h : r.length + 1 < m.length
  · rw [if_pos h, decide_eq_true h]
    simp
  · rw [if_neg h, decide_eq_false h, Bool.false_or, Bool.eq_iff_iff]
    simp only [decide_eq_true_eq, Bool.and_eq_true, Bool.not_eq_true', decide_eq_false_iff_not]
    rw [List.nodup_append]
    constructor
    · rintro ⟨h1, _, h3⟩
      exact ⟨h1, fun q => h3 _ q _ (List.mem_singleton.mpr rfl) rfl⟩
    · rintro ⟨h1, h2⟩
      exact ⟨h1, by simp, fun a ha b hb => by rw [List.mem_singleton.mp hb]; rintro rfl; exact h2 ha⟩
def stepR (m : List Nat) (n : Nat) (r : List Nat) : List (List Nat) := ((letL n).filter (okC m r)).map fun c => r ++ [c]
def nextL (m : List Nat) (n : Nat) (rs : List (List Nat)) : List (List Nat) := rs.flatMap (stepR m n)
def lev (m : List Nat) (n : Nat) : Nat → List (List Nat)
  | 0 => [[]]
  | k + 1 => nextL m n (lev m n k)
theorem stepR_len (m : List Nat) {n : Nat} (hn : n ≤ 4) (r : List Nat) : (stepR m n r).length ≤ n := by
  unfold stepR
  rw [List.length_map]
  exact Nat.le_trans (List.length_filter_le ..) (by rw [letL_len hn]; exact Nat.le_refl _)
theorem lev_len (m : List Nat) {n : Nat} (hn : n ≤ 4) : ∀ k, (lev m n k).length ≤ n ^ k
  | 0 => by simp [lev]
  | k + 1 => by
    have h1 := flat_len (stepR m n) n (lev m n k) (fun r _ => stepR_len m hn r)
    have h2 := Nat.mul_le_mul_right n (lev_len m hn k)
    rw [← Nat.pow_succ] at h2
    exact Nat.le_trans h1 h2
theorem mem_lev {m : List Nat} {n : Nat} (hm : 1 ≤ m.length) (hn : n ≤ 4) : ∀ {k : Nat} {r : List Nat}, r ∈ lev m n k ↔ r.length = k ∧ lowL n r ∧ tellsB r m = true
  | 0, r => by
    constructor
    · intro h
      have e : r = [] := by simpa [lev] using h
      subst e
      refine ⟨rfl, (fun c hc => nomatch hc), ?_⟩
      unfold tellsB viewsL
      have : ([] : List Nat).length + 1 - m.length = 0 := by simp; omega
      rw [this]
      rfl
    · rintro ⟨h, _⟩
      have e : r = [] := List.length_eq_zero_iff.mp h
      subst e
      simp [lev]
  | k + 1, r => by
    show r ∈ (lev m n k).flatMap (stepR m n) ↔ _
    rw [List.mem_flatMap]
    constructor
    · rintro ⟨q, hq, hr⟩
      obtain ⟨h1, h2, h3⟩ := (mem_lev hm hn).mp hq
      unfold stepR at hr
      obtain ⟨c, hc, rfl⟩ := List.mem_map.mp hr
      obtain ⟨hc1, hc2⟩ := List.mem_filter.mp hc
      refine ⟨by simp [h1], fun x hx => ?_, by rw [tells_snoc q m c hm, h3, hc2]; rfl⟩
      rcases List.mem_append.mp hx with z | z
      · exact h2 x z
      · rw [List.mem_singleton.mp z]
        exact (mem_letL hn).mp hc1
    · rintro ⟨h1, h2, h3⟩
      have hne : r ≠ [] := by rintro rfl; simp at h1
      have er := List.dropLast_concat_getLast hne
      refine ⟨r.dropLast, (mem_lev hm hn).mpr ⟨by simp [h1], fun c hc => h2 c (List.dropLast_subset r hc), ?_⟩, ?_⟩
      · rw [← er, tells_snoc _ m _ hm, Bool.and_eq_true] at h3
        exact h3.1
      · unfold stepR
        refine List.mem_map.mpr ⟨r.getLast hne, List.mem_filter.mpr ⟨(mem_letL hn).mpr (h2 _ (List.getLast_mem hne)), ?_⟩, er⟩
        rw [← er, tells_snoc _ m _ hm, Bool.and_eq_true] at h3
        exact h3.2
/-! counting -/
theorem nodup_len {α : Type} [DecidableEq α] : ∀ (l D : List α), l.Nodup → (∀ x ∈ l, x ∈ D) → l.length ≤ D.length
  | [], _, _, _ => Nat.zero_le _
  | x :: l, D, h, s => by
    have h1 := List.nodup_cons.mp h
    have hx := s x List.mem_cons_self
    have ih := nodup_len l (D.erase x) h1.2 fun y hy => (List.mem_erase_of_ne (by rintro rfl; exact h1.1 hy)).mpr (s y (List.mem_cons_of_mem _ hy))
    rw [List.length_erase_of_mem hx] at ih
    have := List.length_pos_of_mem hx
    rw [List.length_cons]
    omega
def words (n : Nat) : Nat → List (List Nat)
  | 0 => [[]]
  | s + 1 => (words n s).flatMap fun v => (letL n).map fun c => v ++ [c]
theorem words_len {n : Nat} (hn : n ≤ 4) : ∀ s, (words n s).length ≤ n ^ s
  | 0 => by simp [words]
  | s + 1 => by
    have h1 := flat_len (fun v : List Nat => (letL n).map fun c => v ++ [c]) n (words n s) (fun v _ => by rw [List.length_map, letL_len hn]; exact Nat.le_refl _)
    have h2 := Nat.mul_le_mul_right n (words_len hn s)
    rw [← Nat.pow_succ] at h2
    exact Nat.le_trans h1 h2
theorem mem_words {n : Nat} (hn : n ≤ 4) : ∀ {s : Nat} {v : List Nat}, v.length = s → lowL n v → v ∈ words n s
  | 0, v, h, _ => by
    have e : v = [] := List.length_eq_zero_iff.mp h
    subst e
    simp [words]
  | s + 1, v, h, hl => by
    have hne : v ≠ [] := by rintro rfl; simp at h
    refine List.mem_flatMap.mpr ⟨v.dropLast, mem_words hn (by simp [h]) fun c hc => hl c (List.dropLast_subset v hc), ?_⟩
    exact List.mem_map.mpr ⟨v.getLast hne, (mem_letL hn).mpr (hl _ (List.getLast_mem hne)), List.dropLast_concat_getLast hne⟩
theorem viewL_low {l m : List Nat} {n p : Nat} (hl : lowL n l) (h : p + m.length ≤ l.length) : lowL n (viewL l m p) := by
  intro c hc
  unfold viewL at hc
  obtain ⟨a, ha, rfl⟩ := List.mem_map.mp hc
  have h1 := mem_seen ha
  have h2 : p + a < l.length := by omega
  rw [List.getD_eq_getElem?_getD, List.getElem?_eq_getElem h2]
  exact hl _ (List.getElem_mem h2)
theorem viewL_len (l m : List Nat) (p : Nat) : (viewL l m p).length = (seenL m).length := by simp [viewL]
/-- a told row has at most so many places -/
theorem told_bound {r m : List Nat} {n : Nat} (hm : 1 ≤ m.length) (hn : n ≤ 4) (hl : lowL n r) (ht : tellsB r m = true) : r.length + 1 - m.length ≤ n ^ (seenL m).length := by
  unfold tellsB at ht
  have h := nodup_len (viewsL r m) (words n (seenL m).length) (of_decide_eq_true ht) fun v hv => by
    unfold viewsL at hv
    obtain ⟨p, hp, rfl⟩ := List.mem_map.mp hv
    have := List.mem_range.mp hp
    exact mem_words hn (viewL_len _ _ _) (viewL_low hl (by omega))
  rw [viewsL_len] at h
  exact Nat.le_trans h (words_len hn _)
theorem lev_top {m : List Nat} {n k : Nat} (hm : 1 ≤ m.length) (hn : n ≤ 4) (h : lev m n k ≠ []) : k + 1 ≤ n ^ (seenL m).length + m.length := by
  obtain ⟨r, hr⟩ := List.exists_mem_of_ne_nil _ h
  obtain ⟨h1, h2, h3⟩ := (mem_lev hm hn).mp hr
  have := told_bound hm hn h2 h3
  omega
/-- small enough -/
structure Small (m : List Nat) (n : Nat) : Prop where
  mask : maskB m = true
  lo : 1 ≤ n
  hi : n ≤ 4
  wide : m.length ≤ [12, 8, 5, 4].getD (n - 1) 0
  seen : (seenL m).length ≤ [12, 4, 2, 1].getD (n - 1) 0
theorem Small.bound {m : List Nat} {n : Nat} (h : Small m n) : n ^ (n ^ (seenL m).length + m.length - 1) ≤ 8388608 ∧ n ^ (seenL m).length ≤ 16 := by
  obtain ⟨_, lo, hi, wide, seen⟩ := h
  match n, lo, hi with
  | 1, _, _ => simp
  | 2, _, _ =>
    have w : m.length ≤ 8 := wide
    have s : (seenL m).length ≤ 4 := seen
    have h1 : 2 ^ (seenL m).length ≤ 2 ^ 4 := Nat.pow_le_pow_right (by decide) s
    refine ⟨Nat.le_trans (Nat.pow_le_pow_right (by decide) (show _ ≤ 23 by omega)) (by decide), h1⟩
  | 3, _, _ =>
    have w : m.length ≤ 5 := wide
    have s : (seenL m).length ≤ 2 := seen
    have h1 : 3 ^ (seenL m).length ≤ 3 ^ 2 := Nat.pow_le_pow_right (by decide) s
    refine ⟨Nat.le_trans (Nat.pow_le_pow_right (by decide) (show _ ≤ 13 by omega)) (by decide), by omega⟩
  | 4, _, _ =>
    have w : m.length ≤ 4 := wide
    have s : (seenL m).length ≤ 1 := seen
    have h1 : 4 ^ (seenL m).length ≤ 4 ^ 1 := Nat.pow_le_pow_right (by decide) s
    refine ⟨Nat.le_trans (Nat.pow_le_pow_right (by decide) (show _ ≤ 7 by omega)) (by decide), by omega⟩
theorem Small.pos {m : List Nat} {n : Nat} (h : Small m n) : 1 ≤ m.length := maskB_pos h.mask
theorem Small.top {m : List Nat} {n k : Nat} (h : Small m n) (hk : lev m n k ≠ []) : k + 1 ≤ 16 + m.length := by
  have := lev_top h.pos h.hi hk
  have := h.bound.2
  omega
theorem Small.len {m : List Nat} {n : Nat} (h : Small m n) (k : Nat) : (lev m n k).length ≤ 8388608 := by
  by_cases e : lev m n k = []
  · rw [e]; exact Nat.zero_le _
  · have h1 := lev_top h.pos h.hi e
    exact Nat.le_trans (lev_len m h.hi k) (Nat.le_trans (Nat.pow_le_pow_right h.lo (by omega)) h.bound.1)
theorem Small.ends {m : List Nat} {n : Nat} (h : Small m n) : lev m n (16 + m.length) = [] := by
  by_cases e : lev m n (16 + m.length) = []
  · exact e
  · have := h.top e
    omega
/-! as data -/
abbrev rowT (m r : List Nat) : PyData := pr2 (sD r) (.tuple ((viewsL r m).map sD))
abbrev rowsT (m : List Nat) (rs : List (List Nat)) : PyData := .list (rs.map (rowT m))
def R_need_small (ds : List PyData) (d : PyData) : Prop := ∃ (m : List Nat) (n : Nat), ds = [sD m, nn n] ∧ Small m n ∧ d = .none
theorem low_128 {n : Nat} {l : List Nat} (hn : n ≤ 4) (h : lowL n l) : ∀ c ∈ l, c < 128 := fun c hc => by
  have := h c hc
  omega
theorem shp_rowT {n : Nat} (hn : n ≤ 4) {m r : List Nat} (h : lowL n r) : Shp 2 (rowT m r) := Shp.tup fun x hx => by
  rcases List.mem_cons.mp hx with e | hx
  · rw [e]; exact (Shp.str (low_128 hn h)).up (by decide)
  · rw [List.mem_singleton.mp hx]
    refine Shp.tup fun y hy => ?_
    obtain ⟨v, hv, rfl⟩ := List.mem_map.mp hy
    unfold viewsL at hv
    obtain ⟨p, hp, rfl⟩ := List.mem_map.mp hv
    have := List.mem_range.mp hp
    by_cases hm : 1 ≤ m.length
    · exact Shp.str (low_128 hn (viewL_low h (by omega)))
    · have em : m = [] := List.length_eq_zero_iff.mp (by omega)
      subst em
      exact Shp.str (l := viewL r [] p) (fun c hc => by
        have e : viewL r [] p = [] := rfl
        rw [e] at hc
        cases hc)
end HW
set_option maxHeartbeats 4000000
namespace HW
open PySem PySem.Spec PyProof.Rows L2
open SX (S)
section
variable {X : Cx} {W : Wd} {Γ : List DV} {μ : Mu} {n : Str} {pos : Pos} {ns : List Int}
theorem va_ints {K : PySem.W.Frag} {H : Hp} : ∀ ns : List Int, VaAll K H (ns.map V.int) (ns.map PyData.int)
  | [] => .nil
  | n :: ns => .cons (.int n) (va_ints ns)
/-- a constant tuple of ints -/
theorem ed_gtup (hm : HX.gTup X.K X.mg n ns) (hg : Gl X n := by rfl) (h1 : (n == ("__debug__" : Str)) = false := by decide) : Ed X W Γ μ (.Name n pos) (.tuple (ns.map PyData.int)) := by
  obtain ⟨a, hm, hs⟩ := hm
  exact ed_c (pe_glob hg hm (v := .ref a) rfl h1) fun H => .tup (hs H) (va_ints ns)
end
abbrev gWID (K : PySem.W.Frag) (mg : Str → Option Value) : Prop := HX.gTup K mg "MOST_WIDTHS" [12, 8, 5, 4]
abbrev gSEE (K : PySem.W.Frag) (mg : Str → Option Value) : Prop := HX.gTup K mg "MOST_SEEN" [12, 4, 2, 1]
end HW
set_option maxHeartbeats 4000000
namespace HW
open PySem PySem.Spec PyProof.Rows L2
open SX (S)
/-! ### comprehensions with two for -/
/-- what a walked thing wants -/
def wI (X : Cx) (tg iter : Expr) : TI := fun σ H R => ∀ (pins : List (Addr × Obj)) (s : Shared), Inv X pins σ H s → wpAny (model X.prog X.w) X.A (eval iter X.env) (fun v s1 => wpAny (model X.prog X.w) X.A (pyIter v) (PIE X pins σ tg R) X.xe s1) X.xe s
theorem _root_.L2.PI.w {X : Cx} {tg iter : Expr} {t : TI} (h : PI X tg iter t) {σ : L2.St} {H : Hp} {R : It → Hp → Prop} (q : t σ H R) : wI X tg iter σ H R := fun pins s I => h.run pins s σ H R I q
section
variable {X : Cx} {W : Wd} {Γ : List DV} {μ : Mu} {α β : Type} {tg iter tg1 iter1 elt : Expr} {scope : Scope} {enc : α → PyData} {enc1 : β → PyData} {xs : List α} {ys : α → List β} {f : α → β → PyData} {k1 k2 : Nat}
end
section
variable {X : Cx} {W : Wd} {Γ : List DV} {μ : Mu} {α β : Type} {iter iter1 elt : Expr} {scope : Scope} {pos p1 p2 : Pos} {enc : α → PyData} {enc1 : β → PyData} {xs : List α} {n1 n2 : Str}
end
end HW
set_option maxHeartbeats 4000000
namespace HW
open PySem PySem.Spec PyProof.Rows L2
open SX (S)
section
variable {X : Cx} {W : Wd} {Γ : List DV} {μ μ' : Mu} {sts a b rest : List Stmt} {D D' : Ends} {c : Expr} {pos : Pos}
/-- weaker ends -/
theorem Run.mono (h : Run X W Γ μ sts D) (h1 : ∀ σ H, D.nx σ H → D'.nx σ H) (h2 : ∀ v H, D.rt v H → D'.rt v H) (h3 : ∀ σ H, D.bk σ H → D'.bk σ H) (h4 : ∀ σ H, D.ct σ H → D'.ct σ H) : Run X W Γ μ sts D' := fun σ H R pins s I =>
  wpAny_mono (h σ H R pins s I) (fun fl s' q => by
    cases fl with
    | next => obtain ⟨σ', H', I', q'⟩ := q; exact ⟨σ', H', I', h1 _ _ q'⟩
    | brk => obtain ⟨σ', H', I', q'⟩ := q; exact ⟨σ', H', I', h3 _ _ q'⟩
    | cont => obtain ⟨σ', H', I', q'⟩ := q; exact ⟨σ', H', I', h4 _ _ q'⟩
    | ret u => obtain ⟨v, σ', H', I', r, q'⟩ := q; exact ⟨v, σ', H', I', r, h2 _ _ q'⟩) fun _ _ z => z
/-- if, both ways on to one state Φ -/
theorem run_ifJ {k : Bool} (Φ : List DV → Mu → Prop) (hc : EdT X W Γ μ c k) (h1 : k = true → Run X W Γ μ a { D with nx := StP X.K W Φ }) (h2 : k = false → Run X W Γ μ b { D with nx := StP X.K W Φ }) (hr : ∀ Γ' μ', Φ Γ' μ' → Run X W Γ' μ' rest D) : Run X W Γ μ (.If c a b pos :: rest) D :=
  have on : ∀ σ H, StP X.K W Φ σ H → wSs X rest D σ H := fun σ H ⟨Γ', μ', p, R⟩ => hr Γ' μ' p σ H R
  run_if hc (fun q => (h1 q).mono on (fun _ _ z => z) (fun _ _ z => z) (fun _ _ z => z)) (fun q => (h2 q).mono on (fun _ _ z => z) (fun _ _ z => z) (fun _ _ z => z))
end
/-! ### all masks -/
/-! the best ones -/
end HW
set_option maxHeartbeats 4000000
namespace HW
open PySem PySem.Spec PyProof.Rows L2
open SX (S)
/-! ### x[::-1] of texts and lists -/
section
variable {X : Cx} {W : Wd} {Γ : List DV} {μ : Mu} {e : Expr} {p1 p2 p3 pos : Pos} {k : Nat} {l : List Nat} {ds : List PyData}
theorem va_rev {K : PySem.W.Frag} {H : Hp} : ∀ {vs : List V} {ds : List PyData}, VaAll K H vs ds → VaAll K H vs.reverse ds.reverse
  | _, _, .nil => .nil
  | _, _, .cons h t => by
    rw [List.reverse_cons, List.reverse_cons]
    exact (va_rev t).app (.cons h .nil)
end
/-! ### a, b = a list of two -/
section
variable {X : Cx} {W : Wd} {Γ : List DV} {μ : Mu} {e : Expr} {rest : List Stmt} {D : Ends} {pos p1 p2 : Pos} {n1 n2 : Str} {P : PyData → Prop}
end
end HW
set_option maxHeartbeats 4000000
namespace HW
open PySem PySem.Spec PyProof.Rows L2
open SX (S)
section
variable {X : Cx} {i : Nat} {xs : List Nat}
end
theorem run_ifVJ {X : Cx} {W : Wd} {Γ : List DV} {μ : Mu} {c : Expr} {a b rest : List Stmt} {D : Ends} {pos : Pos} {A : Bool → Prop} (Φ : List DV → Mu → Prop) (hc : EvT X W Γ μ c A) (h1 : A true → Run X W Γ μ a { D with nx := StP X.K W Φ }) (h2 : A false → Run X W Γ μ b { D with nx := StP X.K W Φ }) (hr : ∀ Γ' μ', Φ Γ' μ' → Run X W Γ' μ' rest D) : Run X W Γ μ (.If c a b pos :: rest) D :=
  have on : ∀ σ H, StP X.K W Φ σ H → wSs X rest D σ H := fun σ H ⟨Γ', μ', p, R⟩ => hr Γ' μ' p σ H R
  run_ifV hc (fun q => (h1 q).mono on (fun _ _ z => z) (fun _ _ z => z) (fun _ _ z => z)) (fun q => (h2 q).mono on (fun _ _ z => z) (fun _ _ z => z) (fun _ _ z => z))
/-! ### unlike -/
def unlikeN (a b : List Nat) : Nat := ((a.zip b).filter fun q => decide (q.1 ≠ q.2)).length
def R_unlike (ds : List PyData) (d : PyData) : Prop := ∃ a b : List Nat, ds = [sD a, sD b] ∧ a.length ≤ 4000 ∧ b.length ≤ 4000 ∧ d = nn (unlikeN a b)
theorem unlike_zero {a b : List Nat} (h : a.length = b.length) : unlikeN a b = 0 ↔ a = b := by
  unfold unlikeN
  rw [List.length_eq_zero_iff, List.filter_eq_nil_iff]
  constructor
  · intro hz
    apply List.ext_getElem h
    intro i h1 h2
    have hm : (a[i], b[i]) ∈ a.zip b := by
      rw [List.mem_iff_getElem]
      exact ⟨i, by simp; omega, by rw [List.getElem_zip]⟩
    have := hz _ hm
    simpa using this
  · rintro rfl q hq
    have : q.1 = q.2 := by
      obtain ⟨i, hi, e⟩ := List.mem_iff_getElem.mp hq
      rw [List.getElem_zip] at e
      rw [← e]
    simpa using this
/-! ### the law's small masks -/
theorem open_get {m : List Nat} {i : Nat} : i ∈ openL m ↔ i < m.length ∧ m[i]? = some 120 := by
  unfold openL
  rw [List.mem_filter, List.mem_range, decide_eq_true_eq, List.getD_eq_getElem?_getD]
  constructor
  · rintro ⟨h1, h2⟩
    rw [List.getElem?_eq_getElem h1] at h2 ⊢
    exact ⟨h1, congrArg some h2⟩
  · rintro ⟨h1, h2⟩
    rw [h2]
    exact ⟨h1, rfl⟩
theorem open_sorted (m : List Nat) : (openL m).Pairwise (· < ·) := by
  unfold openL
  exact List.Pairwise.filter _ List.pairwise_lt_range
theorem open_head {m : List Nat} (h : maskB m = true) : (openL m)[0]? = some 0 := by
  have h1 := maskB_pos h
  have h0 : 0 ∈ openL m := open_get.mpr ⟨h1, by
    unfold maskB at h
    simp only [Bool.and_eq_true, decide_eq_true_eq] at h
    exact h.1.2⟩
  have hs := open_sorted m
  cases e : openL m with
  | nil => rw [e] at h0; cases h0
  | cons a l =>
    rw [e] at h0 hs
    rcases List.mem_cons.mp h0 with z | z
    · rw [← z]; rfl
    · have := (List.pairwise_cons.mp hs).1 0 z
      omega
end HW
set_option maxHeartbeats 4000000
namespace HW
open PySem PySem.Spec PyProof.Rows L2
open SX (S)
/-! ### rows whose views differ much -/
def okF (m : List Nat) (far : Nat) (r : List Nat) (c : Nat) : Bool := decide (r.length + 1 < m.length) || (viewsL r m).all fun o => decide (far ≤ unlikeN (viewL (r ++ [c]) m (r.length + 1 - m.length)) o)
def stepFar (m : List Nat) (n far : Nat) (r : List Nat) : List (List Nat) := ((letL n).filter (okF m far r)).map fun c => r ++ [c]
def nextF (m : List Nat) (n far : Nat) (rs : List (List Nat)) : List (List Nat) := rs.flatMap (stepFar m n far)
def levF (m : List Nat) (n far : Nat) : Nat → List (List Nat)
  | 0 => [[]]
  | k + 1 => nextF m n far (levF m n far k)
theorem okF_okC {m r : List Nat} {far c : Nat} (hf : 1 ≤ far) (h : okF m far r c = true) : okC m r c = true := by
  unfold okF at h
  unfold okC
  rcases Bool.or_eq_true _ _ ▸ h with z | z
  · rw [z]; rfl
  · rw [Bool.or_eq_true]
    refine .inr ?_
    rw [Bool.not_eq_true', decide_eq_false_iff_not]
    intro hm
    have := List.all_eq_true.mp z _ hm
    have h1 := of_decide_eq_true this
    rw [(unlike_zero rfl).mpr rfl] at h1
    omega
theorem stepFar_len (m : List Nat) {n : Nat} (hn : n ≤ 4) (far : Nat) (r : List Nat) : (stepFar m n far r).length ≤ n := by
  unfold stepFar
  rw [List.length_map]
  exact Nat.le_trans (List.length_filter_le ..) (by rw [letL_len hn]; exact Nat.le_refl _)
theorem levF_len (m : List Nat) {n : Nat} (hn : n ≤ 4) (far : Nat) : ∀ k, (levF m n far k).length ≤ n ^ k
  | 0 => by simp [levF]
  | k + 1 => by
    have h1 := flat_len (stepFar m n far) n (levF m n far k) (fun r _ => stepFar_len m hn far r)
    have h2 := Nat.mul_le_mul_right n (levF_len m hn far k)
    rw [← Nat.pow_succ] at h2
    exact Nat.le_trans h1 h2
theorem levF_lev {m : List Nat} {n far : Nat} (hf : 1 ≤ far) : ∀ {k : Nat} {r : List Nat}, r ∈ levF m n far k → r ∈ lev m n k
  | 0, r, h => h
  | k + 1, r, h => by
    obtain ⟨q, hq, hr⟩ := List.mem_flatMap.mp (show r ∈ (levF m n far k).flatMap (stepFar m n far) from h)
    show r ∈ (lev m n k).flatMap (stepR m n)
    refine List.mem_flatMap.mpr ⟨q, levF_lev hf hq, ?_⟩
    unfold stepFar at hr
    obtain ⟨c, hc, rfl⟩ := List.mem_map.mp hr
    obtain ⟨h1, h2⟩ := List.mem_filter.mp hc
    exact List.mem_map.mpr ⟨c, List.mem_filter.mpr ⟨h1, okF_okC hf h2⟩, rfl⟩
theorem Small.lenF {m : List Nat} {n far : Nat} (h : Small m n) (hf : 1 ≤ far) (k : Nat) : (levF m n far k).length ≤ 8388608 := by
  cases e : levF m n far k with
  | nil => exact Nat.zero_le _
  | cons r l =>
    have hr : r ∈ lev m n k := levF_lev hf (e ▸ List.mem_cons_self)
    have hne : lev m n k ≠ [] := by intro z; rw [z] at hr; cases hr
    have h1 := lev_top h.pos h.hi hne
    rw [← e]
    exact Nat.le_trans (levF_len m h.hi far k) (Nat.le_trans (Nat.pow_le_pow_right h.lo (by omega)) h.bound.1)
theorem Small.endsF {m : List Nat} {n far : Nat} (h : Small m n) (hf : 1 ≤ far) : levF m n far (16 + m.length) = [] := by
  cases e : levF m n far (16 + m.length) with
  | nil => rfl
  | cons r l =>
    have hr : r ∈ lev m n (16 + m.length) := levF_lev hf (e ▸ List.mem_cons_self)
    rw [h.ends] at hr
    cases hr
def R_wider (ds : List PyData) (d : PyData) : Prop := ∃ (rs : List (List Nat)) (m : List Nat) (n far : Nat), ds = [rowsT m rs, sD m, nn n, nn far] ∧ 1 ≤ n ∧ n ≤ 4 ∧ maskB m = true ∧ (∀ r ∈ rs, r.length ≤ 3000) ∧ rs.length ≤ 16777216 ∧ (nextF m n far rs).length < 16777216 ∧ d = rowsT m (nextF m n far rs)
def R_need_far (ds : List PyData) (d : PyData) : Prop := ∃ (m : List Nat) (n far : Nat), ds = [sD m, nn n, nn far] ∧ Small m n ∧ 1 ≤ far ∧ far ≤ 12 ∧ d = .none
/-- the last level with a row -/
def R_apart_rows (ds : List PyData) (d : PyData) : Prop := ∃ (m : List Nat) (n far K : Nat), ds = [sD m, nn n, nn far] ∧ Small m n ∧ 1 ≤ far ∧ far ≤ 12 ∧ 1 ≤ K ∧ levF m n far K = [] ∧ (∀ j, j < K → levF m n far j ≠ []) ∧ d = wD (levF m n far (K - 1))
section
variable {X : Cx} {ds : List PyData}
end
theorem views_128 {l m : List Nat} (h : ∀ x ∈ l, x < 128) : ∀ v ∈ viewsL l m, ∀ c ∈ v, c < 128 := by
  intro v hv c hc
  unfold viewsL viewL at hv
  obtain ⟨p, _, rfl⟩ := List.mem_map.mp hv
  obtain ⟨a, _, rfl⟩ := List.mem_map.mp hc
  rw [List.getD_eq_getElem?_getD]
  cases e : l[p + a]? with
  | none => decide
  | some x => exact h x (List.mem_of_getElem? e)
end HW
set_option maxHeartbeats 4000000
namespace HW
open PySem PySem.Spec PyProof.Rows L2
open SX (S)
/-! ### shorter turns -/
theorem wk_n : wk [] [] := trivial
theorem wk_s {a : DV} {as bs : List DV} (h : wk as bs) : wk (a :: as) (a :: bs) := ⟨.inr rfl, h⟩
theorem wk_0 {a : DV} {as bs : List DV} (h : wk as bs) : wk (a :: as) (.no :: bs) := ⟨.inl rfl, h⟩
/-- a state that has Γ' and μ' -/
def Stt (K : PySem.W.Frag) (W : Wd) (Γ' : List DV) (μ' : Mu) : L2.St → Hp → Prop := StP K W (fun Γ μ => wk Γ Γ' ∧ μ = μ')
section
variable {X : Cx} {W : Wd} {Γ Γ' : List DV} {μ μ' : Mu} {α : Type} {iter : Expr} {a b body rest : List Stmt} {pos p : Pos} {enc : α → PyData} {D : Ends} {n : Str} {c : Expr}
/-- the end of a turn, a branch -/
theorem run_e {rt : VK} {bk ct : L2.St → Hp → Prop} (hm : μ = μ' := by rfl) (w : wk Γ Γ' := by repeat (first | exact wk_n | refine wk_s ?_ | refine wk_0 ?_)) : Run X W Γ μ [] ⟨Stt X.K W Γ' μ', rt, bk, ct⟩ := run_turn rfl ⟨w, hm⟩
/-- for n in iter: before turn i the state is Γ0 i, μ0 i -/
theorem run_forS {xs : List α} (k : Nat) (hi : IterD X W Γ μ (.Name n p) iter enc xs) (Γ0 : Nat → List DV) (μ0 : Nat → Mu)
    (hs : ∀ W1, Wle W W1 → ∀ i x, xs[i]? = some x → Run X W1 ((Γ0 i).set k (.d (enc x))) (μ0 i) body { D with nx := Stt X.K W1 (Γ0 (i + 1)) (μ0 (i + 1)), ct := Stt X.K W1 (Γ0 (i + 1)) (μ0 (i + 1)), bk := wSs X rest D })
    (hd' : Run X W (Γ0 xs.length) (μ0 xs.length) rest D) (hN : X.N.Nodup) (hk : ∀ i, (Γ0 i)[k]? = some .no := by intro _; rfl) (hm : μ = μ0 0 := by first | rfl | (simp; done)) (w : wk Γ (Γ0 0) := by repeat (first | exact wk_n | refine wk_s ?_ | refine wk_0 ?_)) (hn : X.N[k]? = some n := by rfl) (hx : Loc X.env.scope n := by first | exact Or.inl rfl | exact Or.inr rfl) (hff : X.fn n = true ∨ X.env.scope.names.lookup n = some .local := by first | exact .inr rfl | exact .inl rfl)
    (hp : PassesOwn (model X.prog X.w) X.A X.env X.xe := by exact PassesOwn.never) (hc : X.calm = true := by rfl) (hf : ∀ x, foldedSetIterable iter X.env x = pure x := by intro _; rfl) :
    Run X W Γ μ (.For (.Name n p) iter body [] pos :: rest) D :=
  run_for k hi (fun i Γ μ => wk Γ (Γ0 i) ∧ μ = μ0 i) ⟨w, hm⟩ (fun W1 l i x Γ' μ' h ⟨w', e⟩ => by
    subst e
    refine run_weak (hs W1 l i x h) ?_
    exact wk_set w' k) (fun Γ' μ' ⟨w', e⟩ => by
    subst e
    exact run_weak hd' w') hN hn hx hff hp hc hf
where
  wk_set : ∀ {Γ Γ' : List DV}, wk Γ Γ' → ∀ k {d : DV}, wk (Γ.set k d) (Γ'.set k d)
    | [], [], _, _, _ => trivial
    | a :: as, b :: bs, h, 0, d => ⟨.inr rfl, h.2⟩
    | a :: as, b :: bs, h, k + 1, d => ⟨h.1, wk_set h.2 k⟩
theorem run_for2S {xs : List α} {n1 n2 : Str} {p1 p2 tpos : Pos} {kk : Nat} {e1 e2 : α → PyData} (k1 k2 : Nat) (hi : IterD X W Γ μ (.Tuple [.Name n1 p1, .Name n2 p2] kk tpos) iter (fun x => pr2 (e1 x) (e2 x)) xs) (Γ0 : Nat → List DV) (μ0 : Nat → Mu)
    (hs : ∀ W1, Wle W W1 → ∀ i x, xs[i]? = some x → Run X W1 (((Γ0 i).set k1 (.d (e1 x))).set k2 (.d (e2 x))) (μ0 i) body { D with nx := Stt X.K W1 (Γ0 (i + 1)) (μ0 (i + 1)), ct := Stt X.K W1 (Γ0 (i + 1)) (μ0 (i + 1)), bk := wSs X rest D })
    (hd' : Run X W (Γ0 xs.length) (μ0 xs.length) rest D) (hN : X.N.Nodup) (hm : μ = μ0 0 := by first | rfl | (simp; done)) (w : wk Γ (Γ0 0) := by repeat (first | exact wk_n | refine wk_s ?_ | refine wk_0 ?_)) (hn1 : X.N[k1]? = some n1 := by rfl) (hn2 : X.N[k2]? = some n2 := by rfl) (hx1 : Loc X.env.scope n1 := by first | exact Or.inl rfl | exact Or.inr rfl) (hx2 : Loc X.env.scope n2 := by first | exact Or.inl rfl | exact Or.inr rfl)
    (hf1 : X.fn n1 = true ∨ X.env.scope.names.lookup n1 = some .local := by first | exact .inr rfl | exact .inl rfl) (hf2 : X.fn n2 = true ∨ X.env.scope.names.lookup n2 = some .local := by first | exact .inr rfl | exact .inl rfl)
    (hp : PassesOwn (model X.prog X.w) X.A X.env X.xe := by exact PassesOwn.never) (hc : X.calm = true := by rfl) (hf : ∀ x, foldedSetIterable iter X.env x = pure x := by intro _; rfl) :
    Run X W Γ μ (.For (.Tuple [.Name n1 p1, .Name n2 p2] kk tpos) iter body [] pos :: rest) D :=
  run_for2 k1 k2 hi (fun i Γ μ => wk Γ (Γ0 i) ∧ μ = μ0 i) ⟨w, hm⟩ (fun W1 l i x Γ' μ' h ⟨w', e⟩ => by
    subst e
    exact run_weak (hs W1 l i x h) (run_forS.wk_set (run_forS.wk_set w' k1) k2)) (fun Γ' μ' ⟨w', e⟩ => by
    subst e
    exact run_weak hd' w') hN hn1 hn2 hx1 hx2 hf1 hf2 hp hc hf
/-- if, both ways on to one state -/
theorem run_ifS {k : Bool} (Γ1 : List DV) (μ1 : Mu) (hc : EdT X W Γ μ c k) (h1 : k = true → Run X W Γ μ a { D with nx := Stt X.K W Γ1 μ1 }) (h2 : k = false → Run X W Γ μ b { D with nx := Stt X.K W Γ1 μ1 }) (hr : Run X W Γ1 μ1 rest D) : Run X W Γ μ (.If c a b pos :: rest) D :=
  run_ifJ (fun Γ μ => wk Γ Γ1 ∧ μ = μ1) hc h1 h2 fun Γ' μ' ⟨w, e⟩ => by
    subst e
    exact run_weak hr w
end
/-! ### len and the like, short -/
section
variable {X : Cx} {W : Wd} {Γ : List DV} {μ : Mu} {a : Expr} {pos p : Pos} {l : List Nat} {ds : List PyData}
theorem lenS (G : Gs X.mg) (h : Ed X W Γ μ a (sD l)) (hl : l.length ≤ 16777216 := by omega) (hg : Gl X "len" := by rfl) (he : starEach [a] X.env = (false, eval a X.env) :: starEach [] X.env := by rfl) : Ed X W Γ μ (.Call (.Name "len" p) [a] [] pos) (nn l.length) := ed_callB G.len boot_len (ea_cons h ea_nil he) (c_lenS hl) hg (he := he)
theorem lenL (G : Gs X.mg) (h : Ed X W Γ μ a (.list ds)) (hg : Gl X "len" := by rfl) (he : starEach [a] X.env = (false, eval a X.env) :: starEach [] X.env := by rfl) : Ed X W Γ μ (.Call (.Name "len" p) [a] [] pos) (nn ds.length) := ed_callB G.len boot_len (ea_cons h ea_nil he) c_lenL hg (he := he)
theorem lenLw {ws : List (List Nat)} (G : Gs X.mg) (h : Ed X W Γ μ a (wD ws)) (hg : Gl X "len" := by rfl) (he : starEach [a] X.env = (false, eval a X.env) :: starEach [] X.env := by rfl) : Ed X W Γ μ (.Call (.Name "len" p) [a] [] pos) (nn ws.length) := (lenL G h hg he).to (by rw [List.length_map])
theorem lenT (G : Gs X.mg) (h : Ed X W Γ μ a (.tuple ds)) (hg : Gl X "len" := by rfl) (he : starEach [a] X.env = (false, eval a X.env) :: starEach [] X.env := by rfl) : Ed X W Γ μ (.Call (.Name "len" p) [a] [] pos) (nn ds.length) := ed_callB G.len boot_len (ea_cons h ea_nil he) c_lenT hg (he := he)
end
end HW
set_option maxHeartbeats 4000000
namespace HW
open PySem PySem.Spec PyProof.Rows L2
open SX (S)
/-! ### what it is to be told -/
/-! ### distances -/
theorem views_small (l m : List Nat) : ∀ v ∈ viewsL l m, v.length ≤ m.length := fun v hv => by
  unfold viewsL at hv
  obtain ⟨p, _, rfl⟩ := List.mem_map.mp hv
  rw [viewL_len]
  exact seenL_len m
end HW
set_option maxHeartbeats 4000000
namespace HW
open PySem PySem.Spec PyProof.Rows L2
open SX (S)
/-! ### methods of texts with one text: find, index, count -/
section
variable {X : Cx} {W : Wd} {Γ : List DV} {μ : Mu} {o e : Expr} {apos pos : Pos} {l : List Nat} {c : Nat}
end
/-! ### turned letters, masks with one place more open -/
theorem chgL_get (l : List Nat) (i c a : Nat) (hi : i < l.length) : (chgL l i c)[a]? = if a = i then some c else l[a]? := by
  unfold chgL
  by_cases h : a = i
  · subst h
    rw [if_pos rfl, List.getElem?_append_left (by simp; omega), List.getElem?_append_right (by simp; omega)]
    have : a - (l.take a).length = 0 := by simp; omega
    rw [this]
    rfl
  · rw [if_neg h]
    rcases Nat.lt_or_ge a i with q | q
    · rw [List.getElem?_append_left (by simp; omega), List.getElem?_append_left (by simp; omega), List.getElem?_take_of_lt q]
    · rw [List.getElem?_append_right (by simp; omega)]
      rw [List.getElem?_drop]
      congr 1
      simp
      omega
end HW
set_option maxHeartbeats 4000000
namespace HW
open PySem PySem.Spec PyProof.Rows L2
open SX (S)
open PySem.W (dataLt minD maxD AlikeAll AllAlike Sortable EachIs dataLe alike)
/-! ### the order of data: <, min, max, sorted -/
section
variable {X : Cx} {pins : List (Addr × Obj)} {σ : L2.St} {H : Hp} {s : Shared} {L : List Addr}
end
/-! sorted -/
section
variable {X : Cx}
end
/-! texts: the order is that of their signs -/
end HW
set_option maxHeartbeats 4000000
namespace HW
open PySem PySem.Spec PyProof.Rows L2
open SX (S)
/-! ### turns that carry a fact -/
def SttP (K : PySem.W.Frag) (W : Wd) (Γ' : List DV) (μ' : Mu) (p : Prop) : L2.St → Hp → Prop := StP K W (fun Γ μ => wk Γ Γ' ∧ μ = μ' ∧ p)
section
variable {X : Cx} {W : Wd} {Γ Γ' : List DV} {μ μ' : Mu} {α : Type} {iter a b : Expr} {body rest : List Stmt} {pos p : Pos} {enc : α → PyData} {D : Ends} {n : Str} {c : Expr}
theorem run_eP {q : Prop} {rt : VK} {bk ct : L2.St → Hp → Prop} (hq : q) (hm : μ = μ' := by rfl) (w : wk Γ Γ' := by repeat (first | exact wk_n | refine wk_s ?_ | refine wk_0 ?_)) : Run X W Γ μ [] ⟨SttP X.K W Γ' μ' q, rt, bk, ct⟩ := run_turn rfl ⟨w, hm, hq⟩
end
/-! ### rings -/
theorem Small.words {m : List Nat} {n k : Nat} (h : Small m n) (hk : k ≤ n ^ (seenL m).length) : (words n k).length ≤ 8388608 := by
  have h1 := h.pos
  exact Nat.le_trans (words_len h.hi k) (Nat.le_trans (Nat.pow_le_pow_right h.lo (by omega)) h.bound.1)
end HW
set_option maxHeartbeats 4000000
namespace HW
open PySem PySem.Spec PyProof.Rows L2
open SX (S)
open PySem.W (dataLt minD maxD AlikeAll AllAlike Sortable EachIs dataLe alike)
/-! ### pairs (number, text) in order -/
section
variable {X : Cx}
end
/-! ### "".join of signs that are drawn -/
section
variable {X : Cx} {W : Wd} {Γ : List DV} {μ : Mu} {α : Type} {iter elt o : Expr} {scope : Scope} {pos pos2 apos p : Pos} {enc : α → PyData} {n : Str} {P : List α → Prop} {Q : Nat → Prop}
theorem ev_joinN (k : Nat) (ho : Ed X W Γ μ o (.str (S []))) (hi : IterV X W Γ μ (.Name n p) iter enc P) (hz : ∀ xs, P xs → xs.length ≤ 100000)
    (he : ∀ xs, P xs → ∀ x ∈ xs, ∀ W1, Wle W W1 → ∀ s H C cl fp, Ev (blkOf X scope s H C cl fp) W1 ((wipeD [k] Γ).set k (.d (enc x))) μ elt (fun z => ∃ c, z = sg c ∧ Q c)) (hN : X.N.Nodup) (hn : X.N[k]? = some n := by rfl)
    (hv : ∀ s H C cl fp, Loc (blkOf X scope s H C cl fp).env.scope n := by intro _ _ _ _ _; first | exact Or.inl rfl | exact Or.inr rfl) (hf : ∀ s H C cl fp, (blkOf X scope s H C cl fp).fn n = true ∨ (blkOf X scope s H C cl fp).env.scope.names.lookup n = some .local := by intro _ _ _ _ _; first | exact .inr rfl | exact .inl rfl) (hb : BlkOk X.N X.env.scope scope [(n, k)] := by exact blkOk_by (by kernel_rfl))
    (hc : X.calm = true := by rfl) (hfs : ∀ x, foldedSetIterable iter X.env x = pure x := by intro _; rfl)
    (hs : starEach [.ListComp elt [⟨.Name n p, iter, [], 0⟩] scope pos2] X.env = [(false, eval (.ListComp elt [⟨.Name n p, iter, [], 0⟩] scope pos2) X.env)] := by rfl) (hbase : attributeBase o "join" X.env (eval o X.env) = eval o X.env := by rfl) (hline : (apos.endLine == pos.line) = true := by rfl) :
    Ev X W Γ μ (.Call (.Attribute o "join" apos) [.ListComp elt [⟨.Name n p, iter, [], 0⟩] scope pos2] [] pos) (fun d => ∃ cs : List Nat, d = sD cs ∧ (∀ c ∈ cs, Q c) ∧ ∃ xs, P xs ∧ cs.length = xs.length) := by
  have h := (lcNV (E := fun _ z => ∃ c, z = sg c ∧ Q c) (elt := elt) (scope := scope) k hi (fun xs px => Nat.le_trans (hz xs px) (by decide)) he hN hn hv hf hb).ev (pos := pos2) hN hc hfs
  refine ev_joinC (Ws := fun cs => (∀ c ∈ cs, Q c) ∧ ∃ xs, P xs ∧ cs.length = xs.length) ho (h.imp fun d ⟨ys, e, xs, px, hp⟩ => ?_) (fun cs ⟨_, xs, px, e⟩ => by have := hz xs px; omega) hs hbase hline
  obtain ⟨cs, e2, h3⟩ := paired_sg hp
  refine ⟨cs, by rw [e, e2], h3, xs, px, ?_⟩
  have := plen hp
  rw [e2, List.length_map] at this
  exact this.symm
/-- "ab"[draw] and the like -/
theorem ev_sgn {e i : Expr} {pos : Pos} (l : List Nat) (hl : l.length ≤ 1000) (he : Ed X W Γ μ e (sD l)) (hi : Ev X W Γ μ i (fun d => ∃ q : Nat, d = nn q ∧ q < l.length)) (hs : PlainIx i := by exact fun _ _ => rfl) : Ev X W Γ μ (.Subscript e i pos) (fun z => ∃ c, z = sg c ∧ c ∈ l) := ev_sign l hl he hi hs
end
/-! ### mending -/
end HW
set_option maxHeartbeats 4000000
namespace HW
open PySem PySem.Spec PyProof.Rows L2
open SX (S)
open PySem.W (dataLt minD maxD AlikeAll AllAlike Sortable EachIs dataLe alike)
/-! ### a list in strict order is the sorted one -/
/-! ### looks -/
def lookB (m t : List Nat) : Bool := decide (t.length = (seenL m).length) && t.all fun c => decide (c ∈ [97, 98, 99, 100, 63])
def missN (v t : List Nat) : Nat := ((v.zip t).filter fun q => decide (q.2 ≠ 63) && decide (q.1 ≠ q.2)).length
def R_is_view (ds : List PyData) (d : PyData) : Prop := ∃ m t : List Nat, ds = [sD m, sD t] ∧ m.length ≤ 4000 ∧ lookB m t = true ∧ d = .bool true
def R_misses (ds : List PyData) (d : PyData) : Prop := ∃ v t : List Nat, ds = [sD v, sD t] ∧ v.length ≤ 4000 ∧ t.length ≤ 4000 ∧ d = nn (missN v t)
theorem lookB_iff {m t : List Nat} : lookB m t = true ↔ t.length = (seenL m).length ∧ ∀ c ∈ t, c = 63 ∨ 97 ≤ c ∧ c < 101 := by
  unfold lookB
  rw [Bool.and_eq_true, decide_eq_true_iff, List.all_eq_true]
  constructor
  · rintro ⟨h1, h2⟩
    exact ⟨h1, fun c hc => by have := of_decide_eq_true (h2 c hc); simp at this; omega⟩
  · rintro ⟨h1, h2⟩
    exact ⟨h1, fun c hc => decide_eq_true (by have := h2 c hc; simp; omega)⟩
def pre_look (ds : List PyData) : Prop := ∃ l m : List Nat, ds = [sD l, sD m] ∧ l.length ≤ 4000 ∧ lowL 4 l ∧ maskB m = true
def post_look (ds : List PyData) (d : PyData) : Prop := ∃ l m t : List Nat, ds = [sD l, sD m] ∧ d = sD t ∧ lookB m t = true
theorem maskB_seen {m : List Nat} (h : maskB m = true) : 1 ≤ (seenL m).length := by
  have h0 := open_head h
  rw [open_seen] at h0
  cases e : seenL m with
  | nil => rw [e] at h0; cases h0
  | cons a l => simp
theorem lookB_chg {m t : List Nat} {i c : Nat} (h : lookB m t = true) (hi : i < t.length) (hc : c = 63 ∨ 97 ≤ c ∧ c < 101) : lookB m (chgL t i c) = true := by
  obtain ⟨h1, h2⟩ := lookB_iff.mp h
  refine lookB_iff.mpr ⟨by rw [chgL_len t i c hi]; exact h1, fun x hx => ?_⟩
  obtain ⟨a, ha⟩ := List.mem_iff_getElem?.mp hx
  rw [chgL_get t i c a hi] at ha
  by_cases q : a = i
  · rw [if_pos q] at ha
    rw [← Option.some.inj ha]
    exact hc
  · rw [if_neg q] at ha
    exact h2 x (List.mem_of_getElem? ha)
theorem lookB_view {l m : List Nat} {p : Nat} (hl : lowL 4 l) (h : p + m.length ≤ l.length) : lookB m (viewL l m p) = true := lookB_iff.mpr ⟨viewL_len l m p, fun c hc => .inr (by have := viewL_low hl h c hc; omega)⟩
/-! ### either way -/
abbrev Stand := Nat × Bool
def wayL (b : Bool) : List Nat := if b then [111, 110] else [98, 97, 99, 107]
abbrev stD (q : Stand) : PyData := pr2 (nn q.1) (sD (wayL q.2))
abbrev zD (z : Stand × List Nat) : PyData := pr2 (stD z.1) (sD z.2)
def backL (l m : List Nat) (p : Nat) : List Nat := (seenL m).map fun a => l.getD (p - a) 0
def standAt (l m : List Nat) (p : Nat) : List (Stand × List Nat) := (if m.length ≤ p + 1 then [((p, false), backL l m p)] else []) ++ (if p + m.length ≤ l.length then [((p, true), viewL l m p)] else [])
def standsL (l m : List Nat) : List (Stand × List Nat) := (List.range l.length).flatMap (standAt l m)
theorem standAt_len (l m : List Nat) (p : Nat) : (standAt l m p).length ≤ 2 := by
  unfold standAt
  rw [List.length_append]
  split <;> split <;> simp
theorem mem_standAt {l m : List Nat} {p : Nat} {z : Stand × List Nat} : z ∈ standAt l m p ↔ (m.length ≤ p + 1 ∧ z = ((p, false), backL l m p)) ∨ (p + m.length ≤ l.length ∧ z = ((p, true), viewL l m p)) := by
  unfold standAt
  rw [List.mem_append]
  constructor
  · rintro (h | h)
    · split at h
      · exact .inl ⟨by assumption, List.mem_singleton.mp h⟩
      · cases h
    · split at h
      · exact .inr ⟨by assumption, List.mem_singleton.mp h⟩
      · cases h
  · rintro (⟨h1, h2⟩ | ⟨h1, h2⟩)
    · rw [if_pos h1]; exact .inl (List.mem_singleton.mpr h2)
    · rw [if_pos h1]; exact .inr (List.mem_singleton.mpr h2)
def R_stands_of (ds : List PyData) (d : PyData) : Prop := ∃ l m : List Nat, ds = [sD l, sD m] ∧ l.length ≤ 4000 ∧ 1 ≤ m.length ∧ m.length ≤ 4000 ∧ d = .list ((standsL l m).map zD)
def R_both_views (ds : List PyData) (d : PyData) : Prop := ∃ l m : List Nat, ds = [sD l, sD m] ∧ rowB l = true ∧ maskB m = true ∧ d = .list ((standsL l m).map zD)
def R_both_find (ds : List PyData) (d : PyData) : Prop := ∃ l m t : List Nat, ds = [sD l, sD m, sD t] ∧ rowB l = true ∧ maskB m = true ∧ lookB m t = true ∧ d = .list (((standsL l m).filter fun z => decide (missN z.2 t = 0)).map fun z => stD z.1)
theorem standsL_len (l m : List Nat) : (standsL l m).length ≤ l.length * 2 := by
  have h := flat_len (standAt l m) 2 (List.range l.length) fun p _ => standAt_len l m p
  rw [List.length_range] at h
  exact h
theorem stands_view_len {l m : List Nat} {z : Stand × List Nat} (h : z ∈ standsL l m) : z.2.length = (seenL m).length := by
  obtain ⟨p, _, hp⟩ := List.mem_flatMap.mp h
  rcases mem_standAt.mp hp with ⟨_, rfl⟩ | ⟨_, rfl⟩
  · simp [backL]
  · exact viewL_len _ _ _
theorem stands_low {l m : List Nat} {z : Stand × List Nat} (hl : ∀ c ∈ l, c < 128) (h : z ∈ standsL l m) : ∀ c ∈ z.2, c < 128 := by
  obtain ⟨p, _, hp⟩ := List.mem_flatMap.mp h
  have hg : ∀ i, l.getD i 0 < 128 := fun i => by
    rw [List.getD_eq_getElem?_getD]
    cases e : l[i]? with
    | none => decide
    | some x => exact hl x (List.mem_of_getElem? e)
  intro c hc
  rcases mem_standAt.mp hp with ⟨_, rfl⟩ | ⟨_, rfl⟩
  · obtain ⟨a, _, rfl⟩ := List.mem_map.mp hc
    exact hg _
  · obtain ⟨a, _, rfl⟩ := List.mem_map.mp hc
    exact hg _
theorem shp_st (q : Stand) : Shp 1 (stD q) := Shp.tup fun x hx => by
  rcases List.mem_cons.mp hx with e | hx
  · rw [e]; exact Shp.int
  · rw [List.mem_singleton.mp hx]
    exact Shp.str fun c hc => by
      unfold wayL at hc
      split at hc <;> simp at hc <;> omega
theorem shp_z {z : Stand × List Nat} (h : ∀ c ∈ z.2, c < 128) : Shp 2 (zD z) := Shp.tup fun x hx => by
  rcases List.mem_cons.mp hx with e | hx
  · rw [e]; exact shp_st _
  · rw [List.mem_singleton.mp hx]
    exact (Shp.str h).up (by decide)
end HW
set_option maxHeartbeats 4000000
namespace HW
open PySem PySem.Spec PyProof.Rows L2
open SX (S)
section
variable {X : Cx} {W : Wd} {Γ Γ' : List DV} {μ μ' : Mu} {α : Type} {iter : Expr} {body rest : List Stmt} {pos : Pos} {D : Ends}
/-- for n1, n2 in iter, with a fact -/
theorem run_for2P {xs : List α} {n1 n2 : Str} {p1 p2 tpos : Pos} {kk : Nat} {e1 e2 : α → PyData} (k1 k2 : Nat) (hi : IterD X W Γ μ (.Tuple [.Name n1 p1, .Name n2 p2] kk tpos) iter (fun x => pr2 (e1 x) (e2 x)) xs) (Γ0 : Nat → List DV) (μ0 : Nat → Mu) (Pf : Nat → Prop) (h0 : Pf 0)
    (hs : ∀ W1, Wle W W1 → ∀ i x, xs[i]? = some x → Pf i → Run X W1 (((Γ0 i).set k1 (.d (e1 x))).set k2 (.d (e2 x))) (μ0 i) body { D with nx := SttP X.K W1 (Γ0 (i + 1)) (μ0 (i + 1)) (Pf (i + 1)), ct := SttP X.K W1 (Γ0 (i + 1)) (μ0 (i + 1)) (Pf (i + 1)), bk := wSs X rest D })
    (hd' : Pf xs.length → Run X W (Γ0 xs.length) (μ0 xs.length) rest D) (hN : X.N.Nodup) (hm : μ = μ0 0 := by first | rfl | (simp; done)) (w : wk Γ (Γ0 0) := by repeat (first | exact wk_n | refine wk_s ?_ | refine wk_0 ?_)) (hn1 : X.N[k1]? = some n1 := by rfl) (hn2 : X.N[k2]? = some n2 := by rfl) (hx1 : Loc X.env.scope n1 := by first | exact Or.inl rfl | exact Or.inr rfl) (hx2 : Loc X.env.scope n2 := by first | exact Or.inl rfl | exact Or.inr rfl)
    (hf1 : X.fn n1 = true ∨ X.env.scope.names.lookup n1 = some .local := by first | exact .inr rfl | exact .inl rfl) (hf2 : X.fn n2 = true ∨ X.env.scope.names.lookup n2 = some .local := by first | exact .inr rfl | exact .inl rfl)
    (hp : PassesOwn (model X.prog X.w) X.A X.env X.xe := by exact PassesOwn.never) (hc : X.calm = true := by rfl) (hf : ∀ x, foldedSetIterable iter X.env x = pure x := by intro _; rfl) :
    Run X W Γ μ (.For (.Tuple [.Name n1 p1, .Name n2 p2] kk tpos) iter body [] pos :: rest) D :=
  run_for2 k1 k2 hi (fun i Γ μ => wk Γ (Γ0 i) ∧ μ = μ0 i ∧ Pf i) ⟨w, hm, h0⟩ (fun W1 l i x Γ' μ' h ⟨w', e, q⟩ => by
    subst e
    exact run_weak (hs W1 l i x h q) (run_forS.wk_set (run_forS.wk_set w' k1) k2)) (fun Γ' μ' ⟨w', e, q⟩ => by
    subst e
    exact run_weak (hd' q) w') hN hn1 hn2 hx1 hx2 hf1 hf2 hp hc hf
/-- for n in iter, over whatever comes: Φ stays -/
theorem run_forV {n : Str} {p : Pos} {enc : α → PyData} {P : List α → Prop} (k : Nat) (hi : IterV X W Γ μ (.Name n p) iter enc P) (Φ : List DV → Mu → Prop) (h0 : Φ Γ μ)
    (hs : ∀ xs, P xs → ∀ W1, Wle W W1 → ∀ x ∈ xs, ∀ Γ' μ', Φ Γ' μ' → Run X W1 (Γ'.set k (.d (enc x))) μ' body { D with nx := StP X.K W1 Φ, ct := StP X.K W1 Φ, bk := wSs X rest D })
    (hd' : ∀ Γ' μ', Φ Γ' μ' → Run X W Γ' μ' rest D) (hN : X.N.Nodup) (hn : X.N[k]? = some n := by rfl) (hx : Loc X.env.scope n := by first | exact Or.inl rfl | exact Or.inr rfl) (hff : X.fn n = true ∨ X.env.scope.names.lookup n = some .local := by first | exact .inr rfl | exact .inl rfl)
    (hp : PassesOwn (model X.prog X.w) X.A X.env X.xe := by exact PassesOwn.never) (hc : X.calm = true := by rfl) (hf : ∀ x, foldedSetIterable iter X.env x = pure x := by intro _; rfl) :
    Run X W Γ μ (.For (.Name n p) iter body [] pos :: rest) D :=
  run_forG hi (tg_name k) (pg_name hN hn hx hff) (fun _ _ _ _ => trivial) (fun _ _ => Φ) (fun _ _ => h0) (fun xs px W1 l i x Γ' μ' h j => hs xs px W1 l x (List.mem_of_getElem? h) Γ' μ' j) (fun _ _ Γ' μ' j => hd' Γ' μ' j) hp hc hf
end
section
variable {X : Cx} {W : Wd} {Γ : List DV} {μ : Mu} {a b : Expr} {pos p p2 : Pos} {n : Str} {r scr : Addr} {ns : List Int} {k : Nat} {l m : List Nat}
/-- _law_look(_law_row, a, b) -/
theorem ev_look (F : Fd X.prog X.w X.K X.mg X.base k "_law_look" ["_law_row", "_law_line_here", "_law_mask_here"] (spW X.K pre_look post_look)) (hr : Room k X.A) (hrow : W.row = some (r, scr, ns)) (j : Nat) (ha : Ed X W Γ μ a (sD l)) (hb : Ed X W Γ μ b (sD m)) (hl : l.length ≤ 4000) (hlow : lowL 4 l) (hm : maskB m = true)
    (hi : Γ[j]? = some (.r r) := by rfl) (hN : X.N[j]? = some n := by rfl) (hv : Vis X.env.scope n := by first | exact Or.inl rfl | exact Or.inr (Or.inl rfl) | exact Or.inr (Or.inr rfl))
    (h1 : (n == ("__debug__" : Str)) = false := by decide) (h2 : (n == ("__classdict__" : Str)) = false := by decide) (hg : Gl X "_law_look" := by rfl)
    (he : starEach (.Name n p2 :: [a, b]) X.env = (false, eval (.Name n p2) X.env) :: starEach [a, b] X.env := by rfl) (hpl : (backTo pos (starEach [a, b] X.env)).any (·.1) = false := by rfl) (he2 : starEach [a, b] X.env = (false, eval a X.env) :: starEach [b] X.env := by rfl) (he3 : starEach [b] X.env = (false, eval b X.env) :: starEach [] X.env := by rfl) :
    Ev X W Γ μ (.Call (.Name "_law_look" p) (.Name n p2 :: [a, b]) [] pos) (fun d => ∃ t : List Nat, d = sD t ∧ lookB m t = true) :=
  (ev_draw F hr hrow j (A := fun ds => ds = [sD l, sD m]) ((ea_cons ha (ea_cons hb ea_nil he3) he2).ev rfl) (fun ds e => ⟨l, m, e, hl, hlow, hm⟩) hi hN hv h1 h2 hg (by decide) he hpl).imp fun d ⟨ds, e, hp⟩ => by
    obtain ⟨l', m', t, e2, e3, ht⟩ := hp
    rw [e] at e2
    have := PyData.str.inj (List.cons.inj (List.cons.inj e2).2).1
    rw [← S_inj this] at ht
    exact ⟨t, e3, ht⟩
end
/-! ### the first like ones -/
abbrev gOPENm (mg : Str → Option Value) : Prop := ∃ t, mg "OPEN" = some (.str "?" t)
abbrev gBACK (mg : Str → Option Value) : Prop := ∃ t, mg "BACK" = some (.str "back" t)
abbrev gON (mg : Str → Option Value) : Prop := ∃ t, mg "ON" = some (.str "on" t)
end HW
set_option maxHeartbeats 4000000
namespace HW
open PySem PySem.Spec PyProof.Rows L2
open SX (S)
/-! ### local dicts whose keys are numbers or texts -/
section
variable {κ : Type} [DecidableEq κ]
end
section
variable {κ : Type} [DecidableEq κ] {K : PySem.W.Frag} {H : Hp} {ks : List (κ × V)} {kvs : List (κ × PyData)} {k : κ} {v : V} {d : PyData}
end
section
variable {X : Cx} {W W0 : Wd} {Γ : List DV} {μ : Mu} {e b value : Expr} {rest : List Stmt} {D : Ends} {pos p p1 p2 pd pos' : Pos} {n n1 n2 : Str} {k : L2.Key} {kvs : List (L2.Key × PyData)} {l : Addr} {d y : PyData}
end
/-! ### xs.index(text); x or "a" -/
section
variable {X : Cx} {W : Wd} {Γ : List DV} {μ : Mu} {o e a b : Expr} {apos pos : Pos} {ws : List (List Nat)} {w : List Nat} {j : Nat}
end
/-! ### draws of great numbers -/
section
variable {X : Cx} {W : Wd} {Γ : List DV} {μ : Mu} {a : Expr} {pos p p2 : Pos} {n : Str} {r scr : Addr} {ns : List Int} {k : Nat}
end
end HW
set_option maxHeartbeats 4000000
namespace HW
open PySem PySem.Spec PyProof.Rows L2
open SX (S)
/-! ### rows without end -/
end HW
set_option maxHeartbeats 4000000
namespace HW
open PySem PySem.Spec PyProof.Rows L2
open SX (S)
/-! ### local lists: copied, read, written at a place -/
section
variable {X : Cx} {W W0 : Wd} {Γ : List DV} {μ : Mu} {e value i' : Expr} {rest : List Stmt} {D : Ends} {pos p p1 p2 pos' : Pos} {n : Str} {l : Addr} {d y : PyData} {ds ys : List PyData} {z : Int}
/-- isinstance(e, (A, B)) -/
theorem ed_isi2 {T1 T2 : String} {n1 n2 : Str} {b : Bool} {kt : Nat} {pt q1 q2 : Pos} (he : Ed X W Γ μ e d) (hm : X.mg "isinstance" = none) (hm1 : X.mg n1 = none) (hv1 : bootBuiltins n1 = some (.type T1)) (hm2 : X.mg n2 = none) (hv2 : bootBuiltins n2 = some (.type T2)) (hk : ∀ K, PySem.W.kitAny K (.type (tyD d)) [.type T1, .type T2] = some b := by intro K; rfl) (hp : isPtr d = false := by first | rfl | assumption) (hg : Gl X "isinstance" := by rfl) (hg1 : Gl X n1 := by rfl) (hg2 : Gl X n2 := by rfl)
    (hn1 : n1 ≠ "__name__" := by decide) (hd1 : (n1 == ("__debug__" : Str)) = false := by decide) (hn2 : n2 ≠ "__name__" := by decide) (hd2 : (n2 == ("__debug__" : Str)) = false := by decide)
    (hs : starEach [e, .Tuple [.Name n1 q1, .Name n2 q2] kt pt] X.env = (false, eval e X.env) :: starEach [.Tuple [.Name n1 q1, .Name n2 q2] kt pt] X.env := by rfl) (hs2 : starEach [.Tuple [.Name n1 q1, .Name n2 q2] kt pt] X.env = (false, eval (.Tuple [.Name n1 q1, .Name n2 q2] kt pt) X.env) :: starEach [] X.env := by rfl) (hpl : (backTo pos (starEach [.Tuple [.Name n1 q1, .Name n2 q2] kt pt] X.env)).any (·.1) = false := by rfl)
    (hs3 : starEach [.Name n1 q1, .Name n2 q2] X.env = (false, eval (.Name n1 q1) X.env) :: starEach [.Name n2 q2] X.env := by rfl) (hs4 : starEach [.Name n2 q2] X.env = (false, eval (.Name n2 q2) X.env) :: starEach [] X.env := by rfl) :
    Ed X W Γ μ (.Call (.Name "isinstance" p) [e, .Tuple [.Name n1 q1, .Name n2 q2] kt pt] [] pos) (.bool b) := fun σ H R Q q => by
  refine (pe_callB call_isiT hg hm boot_isinstance (pa_cons wE.pe (pa_cons (pe_tup (pa_cons (pe_bltn (v := .ty T1) hg1 hm1 hv1 rfl hn1 hd1) (pa_cons (pe_bltn (v := .ty T2) hg2 hm2 hv2 rfl hn2 hd2) pa_nil hs4) hs3)) pa_nil hs2) hs) (by decide) (by decide) hs hpl).w (he σ H R _ fun v H2 R2 e2 r2 => ?_)
  refine ⟨by show 2 ≤ sizeLine; decide, fun t ht => ?_⟩
  have sm := same_new (o := HO.tup [.ty T1, .ty T2]) ht
  have r3 := r2.up (XT.same (L := hd W μ) sm)
  exact ⟨_, t, _, _, _, b, rfl, upd_same, .cons (.ty T1) (.cons (.ty T2) .nil), va_ty r3 hp, hk _, q _ _ (R2.same sm) (e2.trans (XT.same sm)) (.bl b)⟩
end
/-! ### rows put together -/
abbrev gL (f : List Nat) : PyData := .list (f.map sg)
/-- a list or a tuple of looks -/
def seqD (t : Bool) (ds : List PyData) : PyData := if t then .tuple ds else .list ds
end HW
set_option maxHeartbeats 4000000
namespace HW
open PySem PySem.Spec PyProof.Rows L2
open SX (S)
/-! ### enumerate over text, list or tuple -/
open Sem (wp) in
open AutoSeq1 (wpAny_loadPart') in
theorem meets_enumN {v : Value} {o : Obj} {H : Heap → Prop} (B : Begins v o H) :
    Meets (Builtin.«enumerate.__new__» ⟨[.type "enumerate", v], []⟩) (fun _ R s => H s.heap ∧
      R (.ok (.ret (.ref (s.heap.push o).objs.size))) { s with heap := (s.heap.push o).push { cls := .type "enumerate", data := .fields #[.none, .bool false, .ref s.heap.objs.size, rawInt 0, .none, .none] } }) :=
  .of_wp fun prog w A R s h => by
    obtain ⟨hp, g, d, tk, os⟩ := s; obtain ⟨h1, h⟩ := h
    have hsub := sub_enumerate
    have q1 : ∀ {A' : Around} {E : Value → Shared → Prop} {Q : Value → Shared → Prop}, Q (.ref hp.objs.size) ⟨hp.push o, g, d, tk, os⟩ → wpAny (model prog w) A' (pyIter v) Q E ⟨hp, g, d, tk, os⟩ :=
      fun q => B.iter prog w _ _ ⟨hp, g, d, tk, os⟩ _ h1 q
    wp_walk using q1
    refine wpAny_stack_any fun st => wpAny_pure ?_
    split
    · rename_i c _ _ _ _ _
      cases (c == Value.type "enumerate")
      · wp_walk using q1
        exact ⟨_, rfl, h⟩
      · wp_walk using q1
        exact ⟨_, rfl, h⟩
    · wp_walk using q1
      exact ⟨_, rfl, h⟩
theorem enum_begins1 {prog : Program} {w : World} {A : Around} {E : Value → Shared → Prop} {s : Shared} {v : Value} {o : Obj} {H : Heap → Prop} {Q : Value → Shared → Prop} (B : Begins v o H) (h1 : H s.heap)
    (h : ∀ h', IsEnum h' (s.heap.objs.size + 1) s.heap.objs.size 0 .none → h'.get? s.heap.objs.size = some o → h'.objs.size = s.heap.objs.size + 2 →
      (∀ b o, s.heap.get? b = some o → h'.get? b = some o) → Q (.ref (s.heap.objs.size + 1)) { s with heap := h' }) :
    wpAny (model prog w) A (call (.type "enumerate") [v]) Q E s := by
  refine callType_new F.called_enumerate (by decide) (F.typeCall_enumerate_1 _) (F.newCall_enumerate_1 _) (fun obj => F.args_object_init_2 obj _) F.entry_enumerate_new
    (meets_enumN B) ⟨h1, ?_⟩
  have hz : (s.heap.push o).objs.size = s.heap.objs.size + 1 := Heap.size_push ..
  show _ ∧ _
  rw [hz]
  have he : IsEnum ((s.heap.push o).push { cls := .type "enumerate", data := .fields #[.none, .bool false, .ref s.heap.objs.size, rawInt 0, .none, .none] }) (s.heap.objs.size + 1) s.heap.objs.size 0 .none := by
    have := Heap.get?_push_size (s.heap.push o) (o := { cls := .type "enumerate", data := .fields #[.none, .bool false, .ref s.heap.objs.size, rawInt 0, .none, .none] }) rfl
    rw [hz] at this; exact this
  refine ⟨⟨_, he, rfl⟩, h _ he (Heap.get?_push_of_some _ (Heap.get?_push_size _ B.free)) (by rw [Heap.size_push, hz]) fun b o x => Heap.get?_push_of_some _ (Heap.get?_push_of_some _ x)⟩
def iEnumN (K : PySem.W.Frag) (ta : TA) : TI := fun σ H R => ta σ H fun vs H1 => ∃ a xs, vs = [Sc.v a] ∧ a.xs K H1 xs ∧ R (IteS K a) H1
theorem pi_enumN {X : Cx} {e : Expr} {ta : TA} {p pos tpos : Pos} {elts : List Expr} {kk : Nat} (hg : Gl X "enumerate") (hm : X.mg "enumerate" = none) (ha : PA X [e] ta) (hs : starEach [e] X.env = [(false, eval e X.env)] := by rfl) :
    PI X (.Tuple elts kk tpos) (.Call (.Name "enumerate" p) [e] [] pos) (iEnumN X.K ta) := by
  refine ⟨fun pins s σ H R I h => ?_⟩
  refine Call_ (ld_blt I hg hm boot_enumerate (PyProof.Rows.callWith_type1 (thn (ha.run pos pins s σ H _ I h) fun us s1 ⟨vs, H1, I1, r1, q1⟩ => ?_) hs rfl))
  obtain ⟨a, xs, ex, hq, q⟩ := q1
  subst ex
  cases r1 with
  | cons r rr =>
    cases rr
    obtain ⟨t, o, G1, B1, g1, hfp, i1⟩ := sc_begins I1 hq r
    refine enum_begins1 B1 g1 fun h' he hit hsz hk => wpAny_pyIter_enum he ?_
    have I2 : Inv X pins σ H1 { s1 with heap := h' } := I1.kept (t' := s1.toks) hk
    refine ⟨s1.heap.objs.size + 1, [s1.heap.objs.size + 1, s1.heap.objs.size], _, _, H1, rfl, I2, turn_enumS t hfp, ⟨⟨.none, he⟩, i1 _ _ hit⟩, fun b hb => ?_, q⟩
    have e' : b = s1.heap.objs.size + 1 ∨ b = s1.heap.objs.size := by simpa using hb
    have hle : s1.heap.objs.size ≤ b := by
      rcases e' with z | z
      · rw [z]; exact Nat.le_add_right _ _
      · rw [z]; exact Nat.le_refl _
    exact I1.fpOk hle (I1.hok.fresh hle)
section
variable {X : Cx} {W : Wd} {Γ : List DV} {μ : Mu} {α : Type} {a : Expr} {pos p tpos : Pos} {elts : List Expr} {kk : Nat} {d : PyData} {enc : α → PyData} {xs : List α}
theorem it_enumN (h : Ed X W Γ μ a d) (hm : X.mg "enumerate" = none) (e : itemsD d = some (xs.map enc)) (hg : Gl X "enumerate" := by rfl) (hs : starEach [a] X.env = [(false, eval a X.env)] := by rfl) :
    IterD X W Γ μ (.Tuple elts kk tpos) (.Call (.Name "enumerate" p) [a] [] pos) (fun q : Nat × α => pr2 (nn q.1) (enc q.2)) (xs.mapIdx Prod.mk) := ⟨_, pi_enumN hg hm wA.pa hs, fun σ H R R' k => (ea_cons h ea_nil (by rw [hs]; rfl)) σ H R _ fun vs H1 R1 e1 r => by
  cases r with
  | cons r rr =>
    cases rr
    obtain ⟨sc, vs, rfl, h1, h2, h3⟩ := va_sc r e
    refine ⟨sc, vs, rfl, h1 H1 same_off, k _ _ H1 rfl R1 e1 ?_⟩
    have z := walk_enumS h1 h2
    have e : ((xs.map enc).mapIdx fun i d => pr2 (nn i) d) = (xs.mapIdx Prod.mk).map fun q : Nat × α => pr2 (nn q.1) (enc q.2) := by
      apply List.ext_getElem?
      intro i
      simp only [List.getElem?_mapIdx, List.getElem?_map, Option.map_map]
      rfl
    rw [e] at z
    exact z⟩
theorem seqD_items {t : Bool} {ds : List PyData} : itemsD (seqD t ds) = some ds := by cases t <;> rfl
theorem lenSq {t : Bool} {ds : List PyData} {p2 : Pos} (G : Gs X.mg) (h : Ed X W Γ μ a (seqD t ds)) (hg : Gl X "len" := by rfl) (he : starEach [a] X.env = (false, eval a X.env) :: starEach [] X.env := by rfl) : Ed X W Γ μ (.Call (.Name "len" p2) [a] [] pos) (nn ds.length) := by
  cases t
  · exact lenL G h hg he
  · exact lenT G h hg he
/-- isinstance(e, (list, tuple)) of a list or a tuple -/
theorem ed_isLT {t : Bool} {ds : List PyData} {kt : Nat} {pt q1 q2 : Pos} (he : Ed X W Γ μ a (seqD t ds)) (hm : X.mg "isinstance" = none) (hm1 : X.mg "list" = none) (hm2 : X.mg "tuple" = none) (hg : Gl X "isinstance" := by rfl) (hg1 : Gl X "list" := by rfl) (hg2 : Gl X "tuple" := by rfl)
    (hs : starEach [a, .Tuple [.Name "list" q1, .Name "tuple" q2] kt pt] X.env = (false, eval a X.env) :: starEach [.Tuple [.Name "list" q1, .Name "tuple" q2] kt pt] X.env := by rfl) (hs2 : starEach [.Tuple [.Name "list" q1, .Name "tuple" q2] kt pt] X.env = (false, eval (.Tuple [.Name "list" q1, .Name "tuple" q2] kt pt) X.env) :: starEach [] X.env := by rfl) (hpl : (backTo pos (starEach [.Tuple [.Name "list" q1, .Name "tuple" q2] kt pt] X.env)).any (·.1) = false := by rfl)
    (hs3 : starEach [.Name "list" q1, .Name "tuple" q2] X.env = (false, eval (.Name "list" q1) X.env) :: starEach [.Name "tuple" q2] X.env := by rfl) (hs4 : starEach [.Name "tuple" q2] X.env = (false, eval (.Name "tuple" q2) X.env) :: starEach [] X.env := by rfl) :
    Ed X W Γ μ (.Call (.Name "isinstance" p) [a, .Tuple [.Name "list" q1, .Name "tuple" q2] kt pt] [] pos) (.bool true) := by
  cases t
  · exact ed_isi2 he hm hm1 boot_list hm2 boot_tuple (by intro K; rfl) rfl hg hg1 hg2 (by decide) (by decide) (by decide) (by decide) hs hs2 hpl hs3 hs4
  · exact ed_isi2 he hm hm1 boot_list hm2 boot_tuple (by intro K; rfl) rfl hg hg1 hg2 (by decide) (by decide) (by decide) (by decide) hs hs2 hpl hs3 hs4
end
/-! ### looks laid -/
section
variable {X : Cx} {W : Wd} {Γ : List DV} {μ : Mu} {a b : Expr} {pos p p2 : Pos} {n : Str} {r scr : Addr} {ns : List Int} {k : Nat} {l m : List Nat}
end
end HW
set_option maxHeartbeats 4000000
namespace HW
open PySem PySem.Spec PyProof.Rows L2
open SX (S)
/-! ### sets whose table can be walked -/
/-- the table's places rise, and their order is the table's own -/
def WalkT (w : World) (t : SetTable) : Prop := Ris t.place.toList ∧ (w.params.followText "set-order" = true ∨ t.led = true)
theorem WalkT.off {w : World} {t : SetTable} (h : WalkT w t) : WalkT w { t with plain := false } := h
theorem WalkT.lay {w : World} {t : SetTable} (g : WalkT w t) (es : Array (Int × Value)) (h : Int) (x : Value) : WalkT w (layNew t es h x).2.1 := ⟨layNew_ris t es h x g.1, g.2.imp id fun e => (layNew_led t es h x).trans e⟩
section
variable {prog : Program} {w : World} {K : Type} [DecidableEq K] (knd : KeyKind prog w K)
/-- the elements es are the n keys of S -/
structure HasK (S : K → Bool) (n : Nat) (es : Array (Int × Value)) (t : SetTable) : Prop where
  els : ElemsOf knd es.toList
  mem : ∀ k, S k = true ↔ ∃ e ∈ es.toList, knd.is k e.2 = true
  few : es.size < scanBound
  fits : t.fits es.size = true
  num : es.size = n
  walk : WalkT w t
def SetG (h : Heap) (a : Addr) (S : K → Bool) (n : Nat) : Prop := ∃ o es ep t, h.get? a = some o ∧ o.ExactSet ∧ o.data = .set es ep t ∧ HasK knd S n es t
variable {knd}
theorem SetG.keep {h h' : Heap} {a : Addr} {S : K → Bool} {n : Nat} (g : SetG knd h a S n) (k : ∀ o, h.get? a = some o → h'.get? a = some o) : SetG knd h' a S n :=
  let ⟨o, es, ep, t, ho, r⟩ := g; ⟨o, es, ep, t, k o ho, r⟩
theorem SetG.eq {h : Heap} {a : Addr} {S S' : K → Bool} {n n' : Nat} (g : SetG knd h a S n) (e : ∀ k, S k = S' k) (en : n = n') : SetG knd h a S' n' := by
  have : S = S' := funext e
  subst this
  subst en
  exact g
theorem SetG.fresh {h : Heap} : SetG knd (h.push { cls := .type "set", dict := none, data := .set #[] 0 (.fresh 0 0 (!w.params.followText "set-order")) }) h.objs.size (fun _ => false) 0 :=
  ⟨_, #[], 0, _, Heap.get?_push_size _ rfl, ⟨rfl, rfl, rfl⟩, rfl, { els := fun e he => by simp at he, mem := fun k => by simp, few := by decide, fits := by rfl, num := rfl, walk := ⟨List.Pairwise.nil, by
    show _ ∨ (!w.params.followText "set-order") = true
    cases w.params.followText "set-order"
    · exact .inr rfl
    · exact .inl rfl⟩ }⟩
/-- the elements in another order, under another table -/
theorem HasK.perm {S : K → Bool} {n : Nat} {es es' : Array (Int × Value)} {t t' : SetTable} (g : HasK knd S n es t) (p : es'.toList.Perm es.toList) (hf : t'.fits es'.size = true) (hw : WalkT w t') : HasK knd S n es' t' := by
  have hz : es'.size = es.size := by rw [← Array.length_toList, p.length_eq, Array.length_toList]
  exact { els := g.els.perm p, mem := fun k => (g.mem k).trans ⟨fun ⟨e, he, q⟩ => ⟨e, p.mem_iff.mpr he, q⟩, fun ⟨e, he, q⟩ => ⟨e, p.mem_iff.mp he, q⟩⟩, few := by rw [hz]; exact g.few, fits := hf, num := hz.trans g.num, walk := hw }
/-- one more -/
theorem HasK.push {S : K → Bool} {n : Nat} {es es' : Array (Int × Value)} {t t' : SetTable} {k : K} {x : Value} (g : HasK knd S n es t) (hk : knd.is k x = true) (hx : x.scannable = true) (p : es'.toList.Perm (es.toList ++ [(knd.hash k, x)])) (hf : t'.fits es'.size = true) (hw : WalkT w t') (hn : n + 1 < scanBound) :
    HasK knd (fun j => S j || decide (j = k)) (n + 1) es' t' := by
  have hz : es'.size = n + 1 := by rw [← Array.length_toList, p.length_eq, List.length_append, Array.length_toList, g.num]; rfl
  exact { els := (g.els.push hk hx).perm p, mem := mem_push_iff hk g.mem p, few := by rw [hz]; exact hn, fits := hf, num := hz, walk := hw }
section
variable {A : Around} {E : Value → Shared → Prop} {s : Shared} {a : Addr} {S : K → Bool} {n : Nat}
end
end
section
variable {prog : Program} {w : World} {K : Type} [DecidableEq K] {knd : KeyKind prog w K} {A : Around} {R : Result → Shared → Prop} {I : Addr} {fp wr : List Addr} {G : Array GenState → Array GenState → Prop} {n : Nat} {P : Nat → Value → Prop} {St : Nat → Shared → Prop}
end
section
variable {prog : Program} {w : World} {K : Type} [DecidableEq K] {knd : KeyKind prog w K} {A : Around} {E : Value → Shared → Prop} {s : Shared}
end
end HW
set_option maxHeartbeats 4000000
namespace HW
open PySem PySem.Spec PyProof.Rows L2
open SX (S)
open PySem.W (dataLt AlikeAll AllAlike Sortable EachIs dataLe alike)
/-! ### sorted(set(texts)) -/
section
variable {prog : Program} {w : World} {A : Around} {E : Value → Shared → Prop} {s : Shared}
theorem EachIs.find {R : Value → List Nat → Prop} : ∀ {vs : List Value} {bs : List (List Nat)}, EachIs R vs bs → ∀ v ∈ vs, ∃ b ∈ bs, R v b
  | _, _, .nil, v, h => nomatch h
  | _, _, .cons h t, v, hv => by
    rcases List.mem_cons.mp hv with e | hv
    · exact ⟨_, List.mem_cons_self, e ▸ h⟩
    · obtain ⟨b, hb, q⟩ := EachIs.find t v hv
      exact ⟨b, List.mem_cons_of_mem _ hb, q⟩
theorem EachIs.len {R : Value → List Nat → Prop} : ∀ {vs : List Value} {bs : List (List Nat)}, EachIs R vs bs → vs.length = bs.length
  | _, _, .nil => rfl
  | _, _, .cons _ t => congrArg (· + 1) (EachIs.len t)
end
section
variable {X : Cx} {W : Wd} {Γ : List DV} {μ : Mu} {a : Expr} {p p2 q pos : Pos} {ws : List (List Nat)}
end
end HW
set_option maxHeartbeats 4000000
namespace HW
open PySem PySem.Spec PyProof.Rows L2
open SX (S)
/-! ### s.count(sign) -/
theorem cnt_nat (c : Nat) : ∀ l : List Nat, PyProof.Rows.cnt c l = ((l.count c : Nat) : Int)
  | [] => rfl
  | n :: l => by
    rw [PyProof.Rows.cnt_cons, cnt_nat c l, List.count_cons]
    by_cases h : n = c
    · rw [if_pos h, if_pos (beq_iff_eq.mpr h)]
      push_cast
      omega
    · rw [if_neg h, if_neg (fun q => h (beq_iff_eq.mp q))]
      push_cast
      omega
section
variable {X : Cx} {W : Wd} {Γ : List DV} {μ : Mu} {o e : Expr} {apos pos : Pos} {l : List Nat} {c : Nat}
theorem ed_count1 (ho : Ed X W Γ μ o (sD l)) (he : Ed X W Γ μ e (sg c)) (hs : starEach [e] X.env = [(false, eval e X.env)] := by rfl) (hbase : attributeBase o "count" X.env (eval o X.env) = eval o X.env := by rfl) (hline : (apos.endLine == pos.line) = true := by rfl) :
    Ed X W Γ μ (.Call (.Attribute o "count" apos) [e] [] pos) (nn (l.count c)) := fun σ H R Q q => by
  refine (pe_m1 PySem.F.slot_str_count PySem.F.type_str_count mt_count wE.pe wE.pe hs hbase hline).w (ho σ H R _ fun v H2 R2 e2 r2 => ?_)
  cases r2
  refine ⟨⟨_, rfl⟩, he σ H2 R2 _ fun v H3 R3 e3 r3 => ?_⟩
  cases r3
  refine ⟨_, _, rfl, rfl, ?_⟩
  have e : Txt.count (S l) ⟨#[c]⟩ = ((l.count c : Nat) : Int) := (PyProof.Rows.count_cnt (S l) c).trans (cnt_nat c l)
  rw [e]
  exact q _ H3 R3 (e2.trans e3) (.int _)
end
/-! ### rows some letters of which were not read -/
abbrev gMOST_UNREAD (mg : Str → Option Value) : Prop := ∃ t, mg "MOST_UNREAD" = some (.int 6 t)
end HW
set_option maxHeartbeats 4000000
namespace HW
open PySem PySem.Spec PyProof.Rows L2
open SX (S)
section
variable {X : Cx} {W : Wd} {Γ Γ' : List DV} {μ μ' : Mu} {α : Type} {iter : Expr} {body rest : List Stmt} {pos : Pos} {D : Ends}
end
/-! ### patterns drawn -/
section
variable {X : Cx} {W : Wd} {Γ : List DV} {μ : Mu} {a b c : Expr} {pos p p2 : Pos} {n : Str} {r scr : Addr} {ns : List Int} {k : Nat} {l m : List Nat}
end
end HW
set_option maxHeartbeats 4000000
namespace HW
open PySem PySem.Spec PyProof.Rows L2
open SX (S)
/-! ### rings turned and read back -/
/-! ### rings in order, and back -/
/-! ### how many -/
end HW
set_option maxHeartbeats 4000000
namespace HW
open PySem PySem.Spec PyProof.Rows L2
open SX (S)
end HW
set_option maxHeartbeats 4000000
namespace HX
open PySem PySem.Spec PyProof.Rows L2 He
/-! the head's Hook with the model's own table of statics -/
def asS (g : Addr → Option Obj) (n : Nat) : List Addr := asD g n ++ [cStatics]
def obsS (n : Nat) (fa : List Fa) (fn : List DefD) (ex : PySem.W.Frag → Bool) (g : Addr → Option Obj) : AlE := (obsD fa fn (frG g (asS g n)), ex (frG g (asS g n)))
def hookS (n : Nat) (fa : List Fa) (fn : List DefD) (ex : PySem.W.Frag → Bool) : PySem.W.Hook where
  α := AlE
  obs := fun s => obsS n fa fn ex s.heap.get?
  val := fun _ => (valD fn, true)
  says := fun _ h => ∃ K : PySem.W.Frag, K.In h ∧ SaysD fa fn K ∧ ex K = true
  of := fun _ _ e => ⟨_, frG_in, congrArg (fun z : AlE => z.1) e, congrArg (fun z : AlE => z.2) e⟩
  keeps := fun _ _ _ ⟨K, hK, c⟩ k => ⟨K, PySem.W.Frag.In.keeps hK k, c⟩
theorem obsS_eq {n : Nat} {fa : List Fa} {fn : List DefD} {ex : PySem.W.Frag → Bool} {g : Addr → Option Obj} {s : Shared} (h : ∀ a, g a = s.heap.get? a) : obsS n fa fn ex g = (hookS n fa fn ex).obs s := by
  have e : g = s.heap.get? := funext h
  rw [e] <;> rfl
end HX
namespace HW
open PySem PySem.Spec PyProof.Rows L2
open SX (S)
/-! ### exception classes of the program -/
/-- the j-th statement of a class -/
def clsM (st : Stmt) (j : Nat) : Stmt := match st with
  | .ClassDef _ _ _ body _ _ _ _ _ _ _ => body.getD j (.Pass ⟨0, 0, 0, 0⟩)
  | s => s
def oexB (K : PySem.W.Frag) (C : Addr) : Bool := match K.lookup C with
  | some ⟨.type "type", _, .cls cd, sl⟩ => (match cd.mro, sl.toList with
    | .ref C' :: bm, [_, _, _, _, some (.builtin n), _] => C' == C && n == "ValueError.__new__" && !cd.hasDel && cd.hasDict && PySem.HandSPX.refsVE bm
    | _, _ => false)
  | _ => false
theorem oexB_ok {K : PySem.W.Frag} {C : Addr} (q : oexB K C = true) : ∃ nm q N bs bm sn sub ab col dd k0 k1 k2 k3 k5, K.lookup C = some (excClassObj nm q C N bs bm true sn sub ab col dd k0 k1 k2 k3 k5 "ValueError.__new__") ∧ PySem.HandSPX.refsVE bm = true := by
  unfold oexB at q
  split at q
  · rename_i dd cd sl ho
    split at q
    · rename_i C' bm k0 k1 k2 k3 n k5 hm hs
      simp only [Bool.and_eq_true, beq_iff_eq, Bool.not_eq_true'] at q
      obtain ⟨⟨⟨⟨h1, h2⟩, h3⟩, h4⟩, h5⟩ := q
      subst h1
      subst h2
      obtain ⟨nm, bs, mro, ns, qn, hd, sn, sub, ab, col, del⟩ := cd
      dsimp only at hm h3 h4
      subst hm h3 h4
      have hsl : sl = #[k0, k1, k2, k3, some (.builtin "ValueError.__new__"), k5] := by
        obtain ⟨l⟩ := sl
        simp only at hs
        rw [hs]
      subst hsl
      exact ⟨nm, qn, ns, bs, bm, sn, sub, ab, col, dd, k0, k1, k2, k3, k5, ho, h5⟩
    · cases q
  · cases q
/-- the class x: raised, made by its own __init__, its fields read -/
structure ExF (K : PySem.W.Frag) (mg : Str → Option Value) (x : Str) : Prop where
  g : mg x = some (.ref (He.ga K x))
  oex : OexC K (He.ga K x)
  ini : PySem.W.findIn K (.ref (He.ga K x)) "__init__" = some (some (.ref (He.ma K (He.ga K x) "__init__")))
  ty : PySem.W.typeIn K (.ref (He.ma K (He.ga K x) "__init__")) = some (.type "function")
  xf : XfC K (He.ga K x)
def exfB (x : Str) (K : PySem.W.Frag) : Bool := He.eqO (PySem.W.nsIn K mainGlobals x) (some (some (.ref (He.ga K x)))) && (oexB K (He.ga K x) && (He.eqO (PySem.W.findIn K (.ref (He.ga K x)) "__setattr__") (some (some (.builtin "object.__setattr__"))) && (decide (PySem.W.subIn K (.ref (He.ga K x)) (.type "BaseException") = some true) &&
  (decide (PySem.W.typeIn K (.ref (He.ga K x)) = some (.type "type")) && (PySem.W.keepIn K (.ref (He.ga K x)) && (He.eqO (PySem.W.findIn K (.ref (He.ga K x)) "__init__") (some (some (.ref (He.ma K (He.ga K x) "__init__")))) && (decide (PySem.W.typeIn K (.ref (He.ma K (He.ga K x) "__init__")) = some (.type "function")) && xfB K (He.ga K x))))))))
theorem exfB_ok {K : PySem.W.Frag} {h : Heap} {mg : Str → Option Value} {x : Str} (X : K.In h) (G : h.Ns mainGlobals mg) (c : exfB x K = true) : ExF K mg x := by
  unfold exfB at c
  obtain ⟨h1, c⟩ := Bool.and_eq_true_iff.mp c
  obtain ⟨h2, c⟩ := Bool.and_eq_true_iff.mp c
  obtain ⟨h3, c⟩ := Bool.and_eq_true_iff.mp c
  obtain ⟨h4, c⟩ := Bool.and_eq_true_iff.mp c
  obtain ⟨h5, c⟩ := Bool.and_eq_true_iff.mp c
  obtain ⟨h6, c⟩ := Bool.and_eq_true_iff.mp c
  obtain ⟨h7, c⟩ := Bool.and_eq_true_iff.mp c
  obtain ⟨h8, c⟩ := Bool.and_eq_true_iff.mp c
  exact ⟨PySem.W.mg_of X G (He.eqO_ok h1), ⟨oexB_ok h2, He.eqO_ok h3, of_decide_eq_true h4, of_decide_eq_true h5, h6⟩, He.eqO_ok h7, of_decide_eq_true h8, xfB_ok c⟩
/-- the class x is asked for its __init__, which is ValueError's -/
structure BaseF (K : PySem.W.Frag) (mg : Str → Option Value) (x : Str) : Prop where
  g : mg x = some (.ref (He.ga K x))
  rd : PySem.W.readsIn K (He.ga K x) (.type "type") = true
  ga : PySem.W.specialIn K (.ref (He.ga K x)) "__getattribute__" = some (some (.builtin "type.__getattribute__"))
  at_ : PySem.W.findCls K (.ref (He.ga K x)) (.type "type") "__init__" = some (.val (.builtin "ValueError.__init__"))
def baseB (x : Str) (K : PySem.W.Frag) : Bool := He.eqO (PySem.W.nsIn K mainGlobals x) (some (some (.ref (He.ga K x)))) && (PySem.W.readsIn K (He.ga K x) (.type "type") && (He.eqO (PySem.W.specialIn K (.ref (He.ga K x)) "__getattribute__") (some (some (.builtin "type.__getattribute__"))) &&
  (match PySem.W.findCls K (.ref (He.ga K x)) (.type "type") "__init__" with
    | some (.val (.builtin n)) => n == "ValueError.__init__"
    | _ => false)))
theorem baseB_ok {K : PySem.W.Frag} {h : Heap} {mg : Str → Option Value} {x : Str} (X : K.In h) (G : h.Ns mainGlobals mg) (c : baseB x K = true) : BaseF K mg x := by
  unfold baseB at c
  obtain ⟨h1, c⟩ := Bool.and_eq_true_iff.mp c
  obtain ⟨h2, c⟩ := Bool.and_eq_true_iff.mp c
  obtain ⟨h3, c⟩ := Bool.and_eq_true_iff.mp c
  refine ⟨PySem.W.mg_of X G (He.eqO_ok h1), h2, He.eqO_ok h3, ?_⟩
  split at c
  · rename_i n e
    rw [e, beq_iff_eq.mp c]
  · cases c
/-! ### Base.__init__(self, ..) -/
section
variable {X : Cx} {e : Expr} {es : List Expr} {ta : TA} {p1 p2 pos : Pos} {x : Str}
theorem pe_baseInit {pl : Sem Bool} (B : BaseF X.K X.mg x) (hg : Gl X x) (ha : PA X (e :: es) ta) (hdb : (x == ("__debug__" : Str)) = false := by decide)
    (hc : eval (.Call (.Attribute (.Name x p1) "__init__" p2) (e :: es) [] pos) X.env = (do
      let ov ← eval (.Name x p1) X.env
      PySem.standAt p2.atName
      let (f, first) ← holding [ov] (getMethod ov "__init__" pl)
      callWith pos f first (backTo pos (starEach (e :: es) X.env)) (backToKw pos (keywordEach [] X.env))) := by rfl)
    (he : starEach (e :: es) X.env = (false, eval e X.env) :: starEach es X.env := by rfl) (hpl : (backTo pos (starEach es X.env)).any (·.1) = false := by rfl) :
    PE X (.Call (.Attribute (.Name x p1) "__init__" p2) (e :: es) [] pos) (tVeI X.K ta) := by
  refine ⟨fun pins s σ H Q I h => ?_⟩
  refine PySem.W.methodCall_KW (ld_glob I hg B.g ?_ hdb) hc
  refine PySem.W.method_cls I.kIn B.ga (PySem.W.cls_value I.kIn B.rd B.at_ (by decide +kernel) ?_)
  show wpAny _ _ (callWith pos (Value.builtin "ValueError.__init__") [] (backTo pos (starEach (e :: es) X.env)) []) _ _ _
  refine PyProof.Rows.callWith_method1 (thn (ha.run pos pins _ σ H _ (I.tok _) h) fun us s1 ⟨vs, H1, I1, r1, a, C, ws, ev, hl, T, ea, q⟩ => ?_) he hpl
  subst ev
  cases r1 with
  | @cons _ u0 _ ur ra rw' =>
    obtain rfl : u0 = Value.ref a := ra
    have hlen : ur.length ≤ sizeLine := by
      rw [← Paired.length rw', sizeLine_eq]
      omega
    exact oinit_ok T I1 ea hlen fun s' J => ⟨.non, H1, J, rfl, q⟩
end
/-! ### the promises of __init__ -/
/-- an __init__ that stores nothing -/
def spI0 (K : PySem.W.Frag) (C : Addr) : Sp := fun vs H Q _ => ∃ a, vs = [.ref a] ∧ OexC K C ∧ H a = some (exo a C none) ∧ Q .non H
/-- an __init__ that stores its argument in the field f -/
def spI1 (K : PySem.W.Frag) (C : Addr) (f : Str) : Sp := fun vs H Q _ => ∃ a v, vs = [.ref a, v] ∧ OexC K C ∧ PySem.W.findIn K (.ref C) f = some none ∧ H a = some (exo a C none) ∧ ∀ dx, H dx = none → dx ≠ a → Q .non (upd (upd H dx (exd dx [(f, v)])) a (exo a C (some dx)))
section
variable {P : Program} {w : World} {K : PySem.W.Frag} {mg : Str → Option Value} {base : Heap} {x qual : Str} {params : Arguments} {scope : Scope} {f : Addr} {fd : FuncData} {k : Nat} {C : Addr}
theorem fn_init0 {msg : Str} {j : Nat} {p1 p2 p3 p4 p5 p6 : Pos} (F : FunD K x qual params [.Expr (.Call (.Attribute (.Name "WindowError" p1) "__init__" p2) [.Name "self" p3, .Constant (.str msg) j p4] [] p5) p6] scope [] [] f fd) (S : FnScope ["self"] ["self"] scope) (B : BaseF K mg "WindowError")
    (hg : ∀ cdv A outer s H E, Gl (cxOf CX0 P w K mg base ["self"] qual scope f cdv A outer s H E).nox "WindowError")
    (hv : ∀ cdv A outer s H E, Vis (cxOf CX0 P w K mg base ["self"] qual scope f cdv A outer s H E).nox.env.scope "self")
    (hc : ∀ cdv A outer s H E, ∃ pl : Sem Bool, eval (.Call (.Attribute (.Name "WindowError" p1) "__init__" p2) [.Name "self" p3, .Constant (.str msg) j p4] [] p5) (cxOf CX0 P w K mg base ["self"] qual scope f cdv A outer s H E).nox.env = (do
      let ov ← eval (.Name "WindowError" p1) (cxOf CX0 P w K mg base ["self"] qual scope f cdv A outer s H E).nox.env
      PySem.standAt p2.atName
      let (g, first) ← holding [ov] (getMethod ov "__init__" pl)
      callWith p5 g first (backTo p5 (starEach [.Name "self" p3, .Constant (.str msg) j p4] (cxOf CX0 P w K mg base ["self"] qual scope f cdv A outer s H E).nox.env)) (backToKw p5 (keywordEach [] (cxOf CX0 P w K mg base ["self"] qual scope f cdv A outer s H E).nox.env))))
    (hs : ∀ cdv A outer s H E, swapsWith (.Call (.Attribute (.Name "WindowError" p1) "__init__" p2) [.Name "self" p3, .Constant (.str msg) j p4] [] p5) none p6.line (cxOf CX0 P w K mg base ["self"] qual scope f cdv A outer s H E).nox.env = pure false) :
    FnOk P w K mg base CX0 (k + 1) f fd ["self"] (spI0 K C) := by
  refine F.ok S (fun vs H Q E ⟨a, e, _⟩ => by rw [e]; rfl) fun cdv A outer s H vs Q E hr ⟨a, e, T, ha, q⟩ => ?_
  obtain ⟨pl, hcc⟩ := hc cdv A outer s H E
  refine ⟨_, PSs.nox (pss_cons (ps_expr (pe_baseInit (pl := pl) B (hg cdv A outer s H E) (pa_cons (pe_var (i := 0) rfl (hv cdv A outer s H E) (by decide) (by decide)) (pa_cons pe_str pa_nil rfl) rfl) (by decide) hcc) (hs cdv A outer s H E)) pss_nil), ?_⟩
  subst e
  refine ⟨_, rfl, ?_⟩
  exact ⟨a, C, [V.str msg], rfl, (by show 1 ≤ 1000; decide), T, ha, q⟩
theorem fn_init1 {msg fld : Str} {j : Nat} {p1 p2 p3 p4 p5 p6 p7 p8 p9 p10 : Pos} (hf1 : (fld == ("__debug__" : Str)) = false) (hf2 : (fld == ("__classdict__" : Str)) = false) (F : FunD K x qual params [.Expr (.Call (.Attribute (.Name "WindowError" p1) "__init__" p2) [.Name "self" p3, .Constant (.str msg) j p4] [] p5) p6, .Assign [.Attribute (.Name "self" p7) fld p8] (.Name fld p9) p10] scope [] [] f fd) (S : FnScope ["self", fld] ["self", fld] scope) (B : BaseF K mg "WindowError") (hno : PySem.W.findIn K (.ref C) fld = some none)
    (hg : ∀ cdv A outer s H E, Gl (cxOf CX0 P w K mg base ["self", fld] qual scope f cdv A outer s H E).nox "WindowError")
    (hv : ∀ cdv A outer s H E, Vis (cxOf CX0 P w K mg base ["self", fld] qual scope f cdv A outer s H E).nox.env.scope "self")
    (hv2 : ∀ cdv A outer s H E, Vis (cxOf CX0 P w K mg base ["self", fld] qual scope f cdv A outer s H E).nox.env.scope fld)
    (hc : ∀ cdv A outer s H E, ∃ pl : Sem Bool, eval (.Call (.Attribute (.Name "WindowError" p1) "__init__" p2) [.Name "self" p3, .Constant (.str msg) j p4] [] p5) (cxOf CX0 P w K mg base ["self", fld] qual scope f cdv A outer s H E).nox.env = (do
      let ov ← eval (.Name "WindowError" p1) (cxOf CX0 P w K mg base ["self", fld] qual scope f cdv A outer s H E).nox.env
      PySem.standAt p2.atName
      let (g, first) ← holding [ov] (getMethod ov "__init__" pl)
      callWith p5 g first (backTo p5 (starEach [.Name "self" p3, .Constant (.str msg) j p4] (cxOf CX0 P w K mg base ["self", fld] qual scope f cdv A outer s H E).nox.env)) (backToKw p5 (keywordEach [] (cxOf CX0 P w K mg base ["self", fld] qual scope f cdv A outer s H E).nox.env))))
    (hs : ∀ cdv A outer s H E, swapsWith (.Call (.Attribute (.Name "WindowError" p1) "__init__" p2) [.Name "self" p3, .Constant (.str msg) j p4] [] p5) none p6.line (cxOf CX0 P w K mg base ["self", fld] qual scope f cdv A outer s H E).nox.env = pure false)
    (hs2 : ∀ cdv A outer s H E, swapsWith (.Name fld p9) (some (.Attribute (.Name "self" p7) fld p8)) p10.line (cxOf CX0 P w K mg base ["self", fld] qual scope f cdv A outer s H E).nox.env = pure false) :
    FnOk P w K mg base CX0 (k + 1) f fd ["self", fld] (spI1 K C fld) := by
  refine F.ok S (fun vs H Q E ⟨a, v, e, _⟩ => by rw [e]; rfl) fun cdv A outer s H vs Q E hr ⟨a, v, e, T, hno2, ha, q⟩ => ?_
  obtain ⟨pl, hcc⟩ := hc cdv A outer s H E
  refine ⟨_, PSs.nox (pss_cons (ps_expr (pe_baseInit (pl := pl) B (hg cdv A outer s H E) (pa_cons (pe_var (i := 0) rfl (hv cdv A outer s H E) (by decide) (by decide)) (pa_cons pe_str pa_nil rfl) rfl) (by decide) hcc) (hs cdv A outer s H E)) (pss_cons (ps_ost (pe_var (i := 0) rfl (hv cdv A outer s H E) (by decide) (by decide)) (pe_var (i := 1) rfl (hv2 cdv A outer s H E) hf1 hf2) (hs2 cdv A outer s H E)) pss_nil)), ?_⟩
  subst e
  refine ⟨_, rfl, ?_⟩
  refine ⟨a, C, [V.str msg], rfl, (by show 1 ≤ 1000; decide), T, ha, ?_⟩
  exact ⟨_, rfl, _, rfl, a, C, rfl, T, hno, .inl ⟨ha, fun dx n ne => q dx n ne⟩⟩
end
end HW
set_option maxHeartbeats 4000000
namespace HW
open PySem PySem.Spec PyProof.Rows L2
open SX (S)
/-! ### raise -/
/-- a class whose __init__ keeps one field, ready to be raised -/
structure Ex1 (P : Program) (w : World) (K : PySem.W.Frag) (mg : Str → Option Value) (base : Heap) (k : Nat) (x fld : Str) : Prop where
  f : ExF K mg x
  no : PySem.W.findIn K (.ref (He.ga K x)) fld = some none
  ini : ∃ fd, FnOk P w K mg base CX0 k (He.ma K (He.ga K x) "__init__") fd ["self", fld] (spI1 K (He.ga K x) fld) ∧ Binds K fd ["self", fld] []
/-- .. that keeps none -/
structure Ex0 (P : Program) (w : World) (K : PySem.W.Frag) (mg : Str → Option Value) (base : Heap) (k : Nat) (x : Str) : Prop where
  f : ExF K mg x
  ini : ∃ fd, FnOk P w K mg base CX0 k (He.ma K (He.ga K x) "__init__") fd ["self"] (spI0 K (He.ga K x)) ∧ Binds K fd ["self"] []
/-- what an exception is known by: its class, its field -/
def XO (K : PySem.W.Frag) (L : List Addr) (H0 H' : Hp) (x : Str) (fo : Option (Str × PyData)) (cls : Value) (d : Option Addr) : Prop := cls = .ref (He.ga K x) ∧ Same H0 H' ∧ match fo with
  | none => d = none
  | some (f, y) => ∃ dd v, d = some dd ∧ H0 dd = none ∧ H' dd = some (.xd [(f, v)]) ∧ Va K (off L H') v y
/-- a def that raises -/
def spX (K : PySem.W.Frag) (R : List PyData → Str → Option (Str × PyData) → Prop) : Sp := fun vs H Q E => ∃ (L : List Addr) (ds : List PyData) (x : Str) (fo : Option (Str × PyData)), (∀ a ∈ L, H a ≠ none) ∧ VaAll K (off L H) vs ds ∧ R ds x fo ∧ ∀ cls d H', XO K L H H' x fo cls d → E cls d H'
structure FdX (P : Program) (w : World) (K : PySem.W.Frag) (mg : Str → Option Value) (base : Heap) (k : Nat) (x : Str) (ps : List Str) (R : List PyData → Str → Option (Str × PyData) → Prop) : Prop where
  ex : ∃ (f : Addr) (fd : FuncData), FnOk P w K mg base (L2.CX P w) k f fd ps (spX K R) ∧ mg x = some (.ref f) ∧ PySem.W.keepIn K (.ref f) = true ∧ Binds K fd ps []
theorem Ex1.mono {P : Program} {w : World} {K : PySem.W.Frag} {mg : Str → Option Value} {base : Heap} {j k : Nat} {x fld : Str} (F : Ex1 P w K mg base j x fld) (h : j ≤ k) : Ex1 P w K mg base k x fld := by
  obtain ⟨fd, h1, h2⟩ := F.ini
  exact ⟨F.f, F.no, fd, h1.mono h, h2⟩
theorem Ex0.mono {P : Program} {w : World} {K : PySem.W.Frag} {mg : Str → Option Value} {base : Heap} {j k : Nat} {x : Str} (F : Ex0 P w K mg base j x) (h : j ≤ k) : Ex0 P w K mg base k x := by
  obtain ⟨fd, h1, h2⟩ := F.ini
  exact ⟨F.f, fd, h1.mono h, h2⟩
theorem FdX.mono {P : Program} {w : World} {K : PySem.W.Frag} {mg : Str → Option Value} {base : Heap} {j k : Nat} {x : Str} {ps : List Str} {R : List PyData → Str → Option (Str × PyData) → Prop} (F : FdX P w K mg base j x ps R) (h : j ≤ k) : FdX P w K mg base k x ps R := by
  obtain ⟨f, fd, h1, h2⟩ := F.ex
  exact ⟨f, fd, h1.mono h, h2⟩
theorem same_trans {a b c : Hp} (h1 : Same a b) (h2 : Same b c) : Same a c := fun x o e => h2 x o (h1 x o e)
theorem same_offL {L : List Addr} {H H' : Hp} (s : Same H H') : Same (off L H) (off L H') := fun a o e => by
  obtain ⟨h1, h2⟩ := off_some e
  unfold off at e ⊢
  rw [if_neg h1]
  exact s a o h2
section
variable {X : Cx} {W : Wd} {Γ : List DV} {μ : Mu} {a : Expr} {rest : List Stmt} {D : Ends} {y : PyData} {x fld : Str} {k : Nat} {p pos pos2 : Pos} {W0 : WX}
/-- raise X(a) -/
theorem run_raise1 (F : Ex1 X.prog X.w X.K X.mg X.base k x fld) (hr : Room (k + 1) X.A) (tk : Takes X W0) (ha : Ed X W Γ μ a y) (h : ∀ σ H, Rep X.K W Γ μ σ H → ∀ cls d H', XO X.K W.M H H' x (some (fld, y)) cls d → W0 cls d σ H') (hg : Gl X x := by rfl) (hc : X.calm = true := by rfl)
    (hdb : (x == ("__debug__" : Str)) = false := by decide) (hs1 : starEach [a] X.env = (false, eval a X.env) :: starEach [] X.env := by rfl) (hpl : (backTo pos (starEach [] X.env)).any (·.1) = false := by rfl) : Run X W Γ μ (.Raise (some (.Call (.Name x p) [a] [] pos)) none pos2 :: rest) D := fun σ H R => by
  obtain ⟨fd, F1, hb⟩ := F.ini
  refine wSs_cons ((ps_raise hc tk (pmk_oex F.f.oex F.f.ini F.f.ty F1 hr hb .nil pass0 hg F.f.g (pa_cons wE.pe pa_nil hs1) hdb hs1 hpl)).w ?_)
  refine ha σ H R _ fun v H2 R2 e2 r2 => ⟨by show 1 ≤ 1000; decide, fun a0 hna => ⟨a0, v, rfl, F.f.oex, F.no, upd_same, fun dx hdx hne => ⟨rfl, dx, [(fld, v)], upd_same, ?_, ?_, ?_⟩⟩⟩
  · rw [upd_ne hne, upd_same]
  · rw [upd_ne hne] at hdx
    exact hdx
  · have hd1 : H2 dx = none := by
      rw [upd_ne hne] at hdx
      exact hdx
    have sm : Same H2 (upd (del (upd (upd (upd H2 a0 (exo a0 (He.ga X.K x) none)) dx (exd dx [(fld, v)])) a0 (exo a0 (He.ga X.K x) (some dx))) a0) dx (.xd [(fld, v)])) := fun b o e => by
      have h1 : b ≠ a0 := fun z => by rw [z, hna] at e; cases e
      have h2 : b ≠ dx := fun z => by rw [z, hd1] at e; cases e
      rw [upd_ne h2, del_ne h1, upd_ne h1, upd_ne h2, upd_ne h1]
      exact e
    refine h σ H2 R2 _ _ _ ⟨rfl, sm, dx, v, rfl, hd1, upd_same, ?_⟩
    exact (r2.up (same_offs fun a ha => List.mem_append_left _ ha)).up (same_offL sm)
end
section
variable {P : Program} {w : World} {K : PySem.W.Frag} {mg : Str → Option Value} {base : Heap} {x qual : Str} {params : Arguments} {body : List Stmt} {scope : Scope} {f : Addr} {fd : FuncData} {N ps : List Str} {k : Nat}
/-- a def that raises, where R tells what -/
theorem fd_exc (F : FunD K x qual params body scope [] [] f fd) (Sc : FnScope N ps scope) (R : List PyData → Str → Option (Str × PyData) → Prop) (hlen : ∀ ds x fo, R ds x fo → ds.length = ps.length)
    (h : ∀ (cdv : Value) (A : Around) (outer : List Env) (s : Shared) (H : Hp) (E : XK), Room k (A.deeper (envOfC qual scope s.heap.objs.size f cdv)) → ∀ (W : Wd) (ds : List PyData) (x : Str) (fo : Option (Str × PyData)), W.row = none → R ds x fo →
      (∀ σ H1 (Γ : List DV) (μ : Mu), Rep K W Γ μ σ H1 → ∀ cls d H', XO K W.M H1 H' x fo cls d → E cls d H') →
      Run (cxOf (L2.CX P w) P w K mg base N qual scope f cdv A outer s H E) W (ds.map .d ++ List.replicate (N.length - ps.length) .no) [] body { nx := fun _ _ => False, rt := fun _ _ => False, bk := fun _ _ => False, ct := fun _ _ => False }) :
    FnOk P w K mg base (L2.CX P w) (k + 1) f fd ps (spX K R) := by
  refine F.ok Sc (fun vs H Q E ⟨L, ds, x, fo, _, hv, r, _⟩ => by rw [hv.length]; exact hlen ds x fo r) fun cdv A outer s H vs Q E hr ⟨L, ds, x, fo, hL, hv, r, q⟩ => ?_
  refine ⟨_, wSs.ps, ?_⟩
  let W : Wd := ⟨H, L, none⟩
  have ok : WdOk K W := ⟨hL, fun _ _ _ e => nomatch e⟩
  have nr : ∀ a, ¬ W.isRow a := fun a ⟨_, _, e⟩ => nomatch e
  have sl : Slots K (off (hd W []) H) (start N vs) (ds.map .d ++ List.replicate (N.length - ps.length) .no) := by
    show Slots K (off (L ++ []) H) (vs.map some ++ List.replicate (N.length - vs.length) none) _
    rw [List.append_nil, hv.length, hlen ds x fo r]
    exact slots_start _ hv
  intro pins st I
  have z := h cdv A outer s H E hr W ds x fo rfl r (fun σ H1 Γ μ R1 cls d H' hx => ?_) (start N vs) H ⟨ok, ⟨fun _ _ _ e => e, fun _ _ _ e => nomatch e⟩, sl, fun _ z => (nomatch z), List.nodup_nil⟩ pins st I
  · refine wpAny_mono z (fun fl s' hq => ?_) fun _ _ z => z
    cases fl with
    | next =>
      obtain ⟨_, _, _, q'⟩ := hq
      exact q'.elim
    | brk =>
      obtain ⟨_, _, _, q'⟩ := hq
      exact q'.elim
    | cont =>
      obtain ⟨_, _, _, q'⟩ := hq
      exact q'.elim
    | ret u =>
      obtain ⟨_, _, _, _, _, q'⟩ := hq
      exact q'.elim
  · have sm : Same H H1 := fun a o e => R1.fr.keep a o (nr a) e
    obtain ⟨h1, h2, h3⟩ := hx
    refine q cls d H' ⟨h1, same_trans sm h2, ?_⟩
    cases fo with
    | none => exact h3
    | some fy =>
      obtain ⟨f, y⟩ := fy
      obtain ⟨dd, v, e1, e2, e3, e4⟩ := h3
      refine ⟨dd, v, e1, ?_, e3, e4⟩
      cases e : H dd with
      | none => rfl
      | some o =>
        rw [sm dd o e] at e2
        cases e2
end
end HW
set_option maxHeartbeats 4000000
namespace HW
open PySem PySem.Spec PyProof.Rows L2
open SX (S)
/-! ### calls that raise, try -/
theorem XO.down {K : PySem.W.Frag} {L L' : List Addr} {H0 H' : Hp} {x : Str} {fo : Option (Str × PyData)} {cls : Value} {d : Option Addr} (h : XO K L H0 H' x fo cls d) (hl : ∀ a ∈ L', a ∈ L) : XO K L' H0 H' x fo cls d := by
  obtain ⟨h1, h2, h3⟩ := h
  refine ⟨h1, h2, ?_⟩
  cases fo with
  | none => exact h3
  | some fy =>
    obtain ⟨f, y⟩ := fy
    obtain ⟨dd, v, e1, e2, e3, e4⟩ := h3
    exact ⟨dd, v, e1, e2, e3, e4.up (same_offs hl)⟩
theorem slots_no {K : PySem.W.Frag} {H : Hp} {σ : L2.St} {Γ : List DV} (h : Slots K H σ Γ) (i : Nat) : Slots K H (σ.set i none) (Γ.set i .no) := ⟨by rw [List.length_set, List.length_set, h.len], fun j dv q => by
  by_cases e : i = j
  · subst e
    have hl : i < Γ.length := by
      have := (List.getElem?_eq_some_iff.mp q).1
      simpa using this
    rw [List.getElem?_set_self hl] at q
    cases q
    exact ⟨none, by rw [List.getElem?_set_self (by rw [h.len]; exact hl)], trivial⟩
  · rw [List.getElem?_set_ne e] at q ⊢
    exact h.at_ j dv q⟩
/-- evaluating e raises -/
def EdX (X : Cx) (W : Wd) (Γ : List DV) (μ : Mu) (e : Expr) : Prop := ∀ σ H, Rep X.K W Γ μ σ H → ∀ Q : VK, wE X e σ H Q
abbrev DF : Ends := { nx := fun _ _ => False, rt := fun _ _ => False, bk := fun _ _ => False, ct := fun _ _ => False }
section
variable {X : Cx} {W : Wd} {Γ : List DV} {μ : Mu} {e : Expr} {es : List Expr} {rest : List Stmt} {D : Ends} {ds : List PyData} {x f : Str} {fo : Option (Str × PyData)} {ps : List Str} {k : Nat} {p pos : Pos} {W0 : WX} {R : List PyData → Str → Option (Str × PyData) → Prop}
/-- a call that raises -/
theorem ed_callX (F : FdX X.prog X.w X.K X.mg X.base k f ps R) (hr : Room k X.A) (tk : Takes X W0) (ha : EdA X W Γ μ (e :: es) ds) (hR : R ds x fo) (h : ∀ σ H, Rep X.K W Γ μ σ H → ∀ cls d H', XO X.K (hd W μ) H H' x fo cls d → W0 cls d σ H') (hg : Gl X f := by rfl)
    (hdb : (f == ("__debug__" : Str)) = false := by decide) (he : starEach (e :: es) X.env = (false, eval e X.env) :: starEach es X.env := by rfl) (hpl : (backTo pos (starEach es X.env)).any (·.1) = false := by rfl) : EdX X W Γ μ (.Call (.Name f p) (e :: es) [] pos) := fun σ H Rp Q => by
  obtain ⟨fa, fd, h1, h2, h3, h4⟩ := F.ex
  refine (pe_callS (E := WE W0) h1 hr hg h2 h3 h4 (fun σ => passAt tk σ) wA.pa hdb he hpl).w (ha σ H Rp _ fun vs H2 R2 e2 r2 => ?_)
  exact ⟨HW.hd W μ, ds, x, fo, R2.ne, r2, hR, fun cls d H' hx => h σ H2 R2 cls d H' hx⟩
theorem run_exprX (he : EdX X W Γ μ e) (hs : swapsWith e none pos.line X.env = pure false := by rfl) : Run X W Γ μ (.Expr e pos :: rest) D := fun σ H R =>
  wSs_cons ((ps_expr wE.pe hs).w (he σ H R _))
end
/-! ### try: .. except x as n: m = e -/
section
variable {X : Cx} {W : Wd} {Γ : List DV} {μ : Mu} {rest body : List Stmt} {D : Ends} {x xr n nm : Str} {fo : Option (Str × PyData)} {np pos pos' q1 q2 : Pos} {e0 : Expr} {y0 : PyData} {W0 : WX}
/-- what is known of the exception in its suite -/
structure Caught (X : Cx) (W W1 : Wd) (Γ : List DV) (μ : Mu) (xr : Str) (fo : Option (Str × PyData)) (a : Addr) (oe : Obj) (cls : Value) (d : Option Addr) : Prop where
  le : Wle W W1
  z : Zc cls d oe
  fields : ∃ vs, oe.data = .fields vs
  cls : cls = .ref (He.ga X.K xr)
  fld : match fo with
    | none => d = none
    | some (f, y) => ∃ dd v, d = some dd ∧ (∀ σ H (Γ' : List DV) (μ' : Mu), Rep X.K W1 Γ' μ' σ H → H dd = some (.xd [(f, v)]) ∧ Va X.K (off (hd W1 μ') H) v y)
end
end HW
set_option maxHeartbeats 4000000
namespace HW
open PySem PySem.Spec PyProof.Rows L2
open SX (S)
/-! ### what is refused -/
end HW
set_option maxHeartbeats 4000000
namespace HW
open PySem PySem.Spec PyProof.Rows L2
open SX (S)
/-! ### the least masks -/
end HW
set_option maxHeartbeats 4000000
namespace HW
open PySem PySem.Spec PyProof.Rows L2
open SX (S)
/-! ### rows counted -/
end HW
set_option maxHeartbeats 4000000
namespace HW
open PySem PySem.Spec PyProof.Rows L2
open SX (S)
/-! ### raise X() -/
section
variable {X : Cx}
theorem mk_endN {pins : List (Addr × Obj)} {σ : L2.St} {H1 H2 : Hp} {Q : XK} {hp hp2 h2 : Heap} {g1 g2 : Array GenState} {d1 d2 : Drawn} {t1 t2 : Nat} {os1 os2 : OsState} {a C : Addr} (T : Raises X (.ref C)) (I1 : Inv X pins σ H1 ⟨hp, g1, d1, t1, os1⟩)
    (ha : hp.objs.size ≤ a) (k : ∀ b o, hp.get? b = some o → hp2.get? b = some o) (un : Un (frs X.stack) [] (upd H1 a (exo a C none)) H2 hp2 h2) (hok : HOk X.prog X.w H2 h2) (ho : os2 = os1) (hb : AllBare g2)
    (ea : H2 a = some (exo a C none)) (q : Q (.ref C) none (del H2 a)) : MkP X pins σ Q (.ref a) ⟨h2, g2, d2, t2, os2⟩ := by
  obtain ⟨t0, hoe⟩ := exo_at hok ea
  have hn : H1 a = none := I1.hok.fresh ha
  obtain ⟨G, g1', g2'⟩ := restrict h2 fun b => decide (b ≠ a)
  have gk : ∀ b, b ≠ a → G.get? b = h2.get? b := fun b hb => g1' b (decide_eq_true hb)
  have ge : G.get? a = none := g2' a (by simp)
  have nha : ∀ {b : Addr} {o : Obj}, hp.get? b = some o → b ≠ a := fun {b o} z => Nat.ne_of_lt (Nat.lt_of_lt_of_le (Heap.lt_size z) ha)
  have up : ∀ {b : Addr}, b ≠ a → H1 b = none → upd H1 a (exo a C none) b = none := fun {b} hb n => by rw [upd_ne hb]; exact n
  have U : Un (frs X.stack) [] H1 (del H2 a) hp G := {
    keep := fun b o z n hf hx => by
      rw [gk b (nha z)]
      exact un.keep b o (k b o z) (up (nha z) n) hf hx
    slot := fun b o z n hf hx => by
      rw [gk b (nha z)]
      exact un.slot b o (k b o z) (up (nha z) n) hf hx
    free := fun b o z n hx => by
      rw [del_ne (nha z)]
      exact un.free b o (k b o z) (up (nha z) n) hx
    there := fun b o z hx => by
      rw [gk b (nha z)]
      exact un.there b o (k b o z) hx
    tups := fun b xs z => by
      rw [del_ne (ne_of_none z hn)]
      exact un.tups b xs (by rw [upd_ne (ne_of_none z hn)]; exact z)
    frzs := fun b o v z => by
      rw [del_ne (ne_of_none z hn)]
      exact un.frzs b o v (by rw [upd_ne (ne_of_none z hn)]; exact z)
    tbls := fun b ps z => by
      rw [del_ne (ne_of_none z hn)]
      exact un.tbls b ps (by rw [upd_ne (ne_of_none z hn)]; exact z) }
  have hok3 : HOk X.prog X.w (del H2 a) G := fun b o z => by
    have hba : b ≠ a := fun e => by
      rw [e, del_same] at z
      cases z
    rw [del_ne hba] at z
    have noa : ∀ {c : Addr}, H2 c = some (.own b) → c ≠ a := fun {c} hc => at_ne ea hc exo_own
    exact (hok b o z).stay (fun c v hc y => by
        have hca : c ≠ a := by
          rcases hc with hc | hc
          · rw [hc]
            exact hba
          · exact noa hc
        rw [gk c hca]
        exact y)
      (fun c hc => by rw [del_ne (noa hc)]; exact hc) (fun c xs hc => by rw [del_ne (at_ne ea hc exo_tup)]; exact hc)
  have J : Inv X pins σ (del H2 a) ⟨G, g2, d2, t2, os2⟩ := I1.call' (ch := []) ho U hok3 hb (fun b z => absurd z (by simp))
  refine ⟨a, _, _, ⟨G, g2, d2, t2, os2⟩, _, .ref C, none, rfl, J, fun b o z => ?_, ge, hoe, ⟨rfl, rfl⟩, rfl, rfl, by rw [del_same], rfl, hb, T, q⟩
  by_cases hba : b = a
  · rw [hba, ge] at z
    cases z
  · exact (gk b hba).symm.trans z
/-- C(), C's own __init__ keeping sp, nothing kept in it -/
theorem pmk_oex0 {CX : CXT} {x : Str} {C fI : Addr} {k : Nat} {fd : FuncData} {ps : List Str} {sp : Sp} {ds : List Value} {dvs : List V} {p pos : Pos} (T : OexC X.K C) (iC : PySem.W.findIn X.K (.ref C) "__init__" = some (some (.ref fI))) (tI : PySem.W.typeIn X.K (.ref fI) = some (.type "function"))
    (F1 : FnOk X.prog X.w X.K X.mg X.base CX k fI fd ps sp) (hr : Room (k + 1) X.A) (hb : Binds X.K fd ps ds) (hd : Vals dvs ds) (hx : Passes CX X (fun _ _ _ => False)) (hg : Gl X x) (hm : X.mg x = some (.ref C))
    (hdb : (x == ("__debug__" : Str)) = false := by decide) :
    PMk X (.Call (.Name x p) [] [] pos) (fun _ H1 Q => ∀ a, H1 a = none → sp (.ref a :: dvs) (upd H1 a (exo a C none)) (fun v H2 => v = .non ∧ H2 a = some (exo a C none) ∧ Q (.ref C) none (del H2 a)) (fun _ _ _ => False)) := by
  intro pins s σ H Q I h
  obtain ⟨nm, q, N, bs, bm, sn, sub, ab, col, dd, k0, k1, k2, k3, k5, hC, hbm⟩ := T.cls
  refine wpAny_Call_Name_kw (ld_glob I hg hm ?_ hdb)
  refine PySem.W.callWith_K0 I.kIn T.kC ?_
  show wpAny _ _ (call (.ref C) []) _ _ _
  obtain ⟨hp, g, dr, tk, os⟩ := s
  have hsz : hp.objs.size ≤ hp.objs.size + 1 := Nat.le_succ _
  have hn : H (hp.objs.size + 1) = none := I.hok.fresh hsz
  have hq := h (hp.objs.size + 1) hn
  have kk : ∀ b o, hp.get? b = some o → ((hp.push (PySem.W.kdv_tup [])).push (PySem.HandSPX.excO C hp.objs.size)).get? b = some o := fun b o e => Heap.get?_push_of_some _ (Heap.get?_push_of_some _ e)
  have hget : ((hp.push (PySem.W.kdv_tup [])).push (PySem.HandSPX.excO C hp.objs.size)).get? (hp.objs.size + 1) = some (PySem.HandSPX.excO C hp.objs.size) := by heap_get
  have I2 : Inv X pins σ (upd H (hp.objs.size + 1) (exo (hp.objs.size + 1) C none)) ⟨(hp.push (PySem.W.kdv_tup [])).push (PySem.HandSPX.excO C hp.objs.size), g, dr, tk, os⟩ :=
    I.laid (t' := tk) (a := hp.objs.size + 1) (o := exo (hp.objs.size + 1) C none) (h' := (hp.push (PySem.W.kdv_tup [])).push (PySem.HandSPX.excO C hp.objs.size)) kk hsz (exo_ok hget)
  have r2 : Vals (V.ref (hp.objs.size + 1) :: dvs) ([Value.ref (hp.objs.size + 1)] ++ ds) := .cons rfl hd
  have hl : ([Value.ref (hp.objs.size + 1)] ++ ds).length = ps.length := by
    have e := r2.length
    rw [F1.len _ _ _ _ hq] at e
    exact e.symm
  refine wpAny_call (PySem.HandSPX.call_own F.excBase_ValueError (fun Y => PySem.HandSPX.refsVE_contains Y bm hbm) (I.kIn _ _ hC) (PySem.W.looks_findIn I.kIn iC) (fun self => PySem.W.bind_fn I.kIn self tI) (Nat.zero_le _)
    (codeAny_mono (F1.run _ X.stack _ _ ⟨[Value.ref (hp.objs.size + 1)], []⟩ ([Value.ref (hp.objs.size + 1)] ++ ds) _ _ (fun _ _ _ => False) (hr.make C [] []) (I2.env0.make C [] []) (hb _ [Value.ref (hp.objs.size + 1)] I2.kIn hl) r2 hq) fun r s' hq' => ?_))
  cases r with
  | error er => exact hx pins σ _ _ er s' I2 hq'
  | ok fl =>
    cases fl with
    | ret u =>
      obtain ⟨v, H2, os2, bare2, un2, hok2, rv, ev, ea, q2⟩ := hq'
      subst ev
      obtain ⟨h2, g2, d2, t2, os'⟩ := s'
      exact ⟨rv, mk_endN (raises_own T.exC T.tyC) I hsz kk un2 hok2 os2 bare2 ea q2⟩
    | next => exact False.elim hq'
    | brk => exact False.elim hq'
    | cont => exact False.elim hq'
end
section
variable {X : Cx} {W : Wd} {Γ : List DV} {μ : Mu} {rest : List Stmt} {D : Ends} {x : Str} {k : Nat} {p pos pos2 : Pos} {W0 : WX}
/-- raise X() -/
theorem run_raise0 (F : Ex0 X.prog X.w X.K X.mg X.base k x) (hr : Room (k + 1) X.A) (tk : Takes X W0) (h : ∀ σ H, Rep X.K W Γ μ σ H → ∀ cls d H', XO X.K W.M H H' x none cls d → W0 cls d σ H') (hg : Gl X x := by rfl) (hc : X.calm = true := by rfl)
    (hdb : (x == ("__debug__" : Str)) = false := by decide) : Run X W Γ μ (.Raise (some (.Call (.Name x p) [] [] pos)) none pos2 :: rest) D := fun σ H R => by
  obtain ⟨fd, F1, hb⟩ := F.ini
  refine wSs_cons ((ps_raise hc tk (pmk_oex0 F.f.oex F.f.ini F.f.ty F1 hr hb .nil pass0 hg F.f.g hdb)).w fun a0 hna => ⟨a0, rfl, F.f.oex, upd_same, rfl, upd_same, ?_⟩)
  have sm : Same H (del (upd H a0 (exo a0 (He.ga X.K x) none)) a0) := fun b o e => by
    have h1 : b ≠ a0 := fun z => by rw [z, hna] at e; cases e
    rw [del_ne h1, upd_ne h1]
    exact e
  exact h σ H R _ _ _ ⟨rfl, sm, rfl⟩
end
end HW
set_option maxHeartbeats 4000000
namespace HW
open PySem PySem.Spec PyProof.Rows L2
open SX (S)
/-! ### try with several clauses without `as` -/
/-- the clauses name classes of the program -/
inductive AllCl (X : Cx) : List ExceptHandler → Prop
  | nil : AllCl X []
  | cons {x : Str} {b0 : Stmt} {st : List Stmt} {np pos' : Pos} {hds : List ExceptHandler} (F : Names X x (.ref (He.ga X.K x))) (r : AllCl X hds) : AllCl X (.ExceptHandler (some (.Name x np)) none (b0 :: st) pos' :: hds)
/-- of the clauses, st is the suite that xr comes to -/
inductive Chosen (X : Cx) (xr : Str) : List ExceptHandler → List Stmt → Prop
  | here {x : Str} {b0 : Stmt} {st : List Stmt} {np pos' : Pos} {hds : List ExceptHandler} (F : Names X x (.ref (He.ga X.K x))) (hm : PySem.W.exmOne X.K (.ref (He.ga X.K xr)) (.ref (He.ga X.K x)) = some true) (r : AllCl X hds) :
      Chosen X xr (.ExceptHandler (some (.Name x np)) none (b0 :: st) pos' :: hds) (b0 :: st)
  | there {x : Str} {b0 : Stmt} {st st2 : List Stmt} {np pos' : Pos} {hds : List ExceptHandler} (F : Names X x (.ref (He.ga X.K x))) (hm : PySem.W.exmOne X.K (.ref (He.ga X.K xr)) (.ref (He.ga X.K x)) = some false) (r : Chosen X xr hds st2) :
      Chosen X xr (.ExceptHandler (some (.Name x np)) none (b0 :: st) pos' :: hds) st2
theorem AllCl.app {X : Cx} {hds : List ExceptHandler} (h : AllCl X hds) : ∃ l, HdsOk X hds l := by
  induction h with
  | nil => exact ⟨_, .nil⟩
  | @cons x b0 st np pos' hds F r ih =>
    obtain ⟨l, hl⟩ := ih
    exact ⟨_, .cons (ts := fun a cls d D σ H => ∀ (oe : Obj) (pn : List (Addr × Obj)), Zc cls d oe → (∃ vs, oe.data = .fields vs) → wSs (X.suite a ((a, oe) :: pn)) (b0 :: st) D σ H) F (fun a oe cls d pn hz hv => ⟨fun pins s σ H D I h => h oe pn hz hv pins s I⟩) hl⟩
theorem Chosen.app {X : Cx} {xr : Str} {hds : List ExceptHandler} {st : List Stmt} (h : Chosen X xr hds st) : ∃ l, HdsOk X hds l ∧ ∀ (Wout : WX) (D : Ends) (σ : L2.St) (H : Hp) (d : Option Addr),
    (∀ a, H a = none → ∀ (oe : Obj) (pn : List (Addr × Obj)), Zc (.ref (He.ga X.K xr)) d oe → (∃ vs, oe.data = .fields vs) → wSs (X.suite a ((a, oe) :: pn)) st D σ H) → wMany X.K Wout D l (.ref (He.ga X.K xr)) d σ H := by
  induction h with
  | @here x b0 st np pos' hds F hm r =>
    obtain ⟨l, hl⟩ := r.app
    exact ⟨_, .cons (ts := fun a cls d D σ H => ∀ (oe : Obj) (pn : List (Addr × Obj)), Zc cls d oe → (∃ vs, oe.data = .fields vs) → wSs (X.suite a ((a, oe) :: pn)) (b0 :: st) D σ H) F (fun a oe cls d pn hz hv => ⟨fun pins s σ H D I h => h oe pn hz hv pins s I⟩) hl,
      fun Wout D σ H d q => ⟨true, hm, fun _ a na oe pn hz hv => q a na oe pn hz hv, fun z => nomatch z⟩⟩
  | @there x b0 st st2 np pos' hds F hm r ih =>
    obtain ⟨l, hl, hq⟩ := ih
    exact ⟨_, .cons (ts := fun a cls d D σ H => ∀ (oe : Obj) (pn : List (Addr × Obj)), Zc cls d oe → (∃ vs, oe.data = .fields vs) → wSs (X.suite a ((a, oe) :: pn)) (b0 :: st) D σ H) F (fun a oe cls d pn hz hv => ⟨fun pins s σ H D I h => h oe pn hz hv pins s I⟩) hl,
      fun Wout D σ H d q => ⟨false, hm, (fun z => nomatch z), fun _ => hq Wout D σ H d q⟩⟩
section
variable {X : Cx} {W : Wd} {Γ : List DV} {μ : Mu} {rest body : List Stmt} {D : Ends} {xr nm : Str} {fo : Option (Str × PyData)} {h0 : ExceptHandler} {hds : List ExceptHandler} {pos q1 q2 : Pos} {e0 : Expr} {y0 : PyData} {W0 : WX}
end
end HW
set_option maxHeartbeats 4000000
namespace HW
open PySem PySem.Spec PyProof.Rows L2
open SX (S)
/-! ### texts that are no masks, no rows, no views -/
def R_is_mask_t (ds : List PyData) (d : PyData) : Prop := ∃ m : List Nat, ds = [sD m] ∧ m.length ≤ 4000 ∧ d = .bool (maskB m)
def R_is_row_t (ds : List PyData) (d : PyData) : Prop := ∃ l : List Nat, ds = [sD l] ∧ l.length ≤ 4000 ∧ d = .bool (rowB l)
end HW
set_option maxHeartbeats 4000000
namespace HW
open PySem PySem.Spec PyProof.Rows L2
open SX (S)
/-! ### text.split(text) -/
section
variable {X : Cx} {W : Wd} {Γ : List DV} {μ : Mu} {o e : Expr} {a b : Str} {apos pos : Pos}
end
end HW
set_option maxHeartbeats 4000000
namespace HW
open PySem PySem.Spec PyProof.Rows L2
open SX (S)
/-! ### law 27: ten wrong calls -/
end HW
set_option maxHeartbeats 4000000
namespace HW
open PySem PySem.Spec PyProof.Rows L2
open SX (S)
/-! ### try: of all clauses, with `as` and without, the one that takes the exception -/
/-- of the clauses, the one that an exception of the class cr comes to: the slot of its name, its suite -/
inductive Pick (X : Cx) (cr : Value) : List ExceptHandler → Option Nat → Stmt → List Stmt → Prop
  | bare {x : Str} {c : Value} {b0 : Stmt} {st : List Stmt} {np hp : Pos} {hds : List ExceptHandler} (F : Names X x c) (hm : PySem.W.exmOne X.K cr c = some true) : Pick X cr (.ExceptHandler (some (.Name x np)) none (b0 :: st) hp :: hds) none b0 st
  | named {x n : Str} {c : Value} {i : Nat} {b0 : Stmt} {st : List Stmt} {np hp : Pos} {hds : List ExceptHandler} (F : Names X x c) (hm : PySem.W.exmOne X.K cr c = some true) (hi : X.N[i]? = some n) (hl : X.env.kindOf n = some .local) :
      Pick X cr (.ExceptHandler (some (.Name x np)) (some n) (b0 :: st) hp :: hds) (some i) b0 st
  | skip {x : Str} {c : Value} {nm : Option Str} {b0 : Stmt} {st s2 : List Stmt} {np hp : Pos} {hds : List ExceptHandler} {o : Option Nat} (F : Names X x c) (hm : PySem.W.exmOne X.K cr c = some false) (r : Pick X cr hds o b0 st) :
      Pick X cr (.ExceptHandler (some (.Name x np)) nm s2 hp :: hds) o b0 st
def slotE (o : Option Nat) (v : Option V) (σ : L2.St) : L2.St := match o with
  | none => σ
  | some i => σ.set i v
def endsE (o : Option Nat) (D : Ends) : Ends := ⟨fun σ H => D.nx (slotE o none σ) H, D.rt, fun σ H => D.bk (slotE o none σ) H, fun σ H => D.ct (slotE o none σ) H⟩
def seekX (X : Cx) (pins : List (Addr × Obj)) (D : Ends) (hl : List ExceptHandler) : Value → Shared → Prop := fun e s1 => wpAny (model X.prog X.w) X.A (noteFrame e X.env) (fun _ s2 => wpAny (model X.prog X.w) X.A (setFlight e none)
  (fun _ s3 => wpAny (model X.prog X.w) X.A (handleBy e X.env hl) (SP X pins D) X.xe s3) X.xe s2) X.xe s1
section
variable {X : Cx} {body : List Stmt} {h0 : ExceptHandler} {hds : List ExceptHandler} {pos : Pos} {tb : WX → TS} {cr : Value} {o : Option Nat} {b0 : Stmt} {st : List Stmt} {ts : Addr → Option Addr → TS}
theorem ps_try_pick (hs : X.stack = X.env :: X.outer) (hf : X.env.frame = some X.env.locals) (nd : X.N.Nodup) (pk : Pick X cr (h0 :: hds) o b0 st)
    (hb : ∀ (W : WX) (pn : List (Addr × Obj)) (xe : Value → Shared → Prop), Takes (X.tr pn xe) W → PassesOwn (model X.prog X.w) X.A X.env xe → PSs (X.tr pn xe) body (tb W))
    (hsu : ∀ (a : Addr) (oe : Obj) (d : Option Addr) (pn : List (Addr × Obj)), Zc cr d oe → (∃ vs, oe.data = .fields vs) → PSs (X.suite a ((a, oe) :: pn)) (b0 :: st) (ts a d)) :
    PS X (.Try body (h0 :: hds) [] [] pos) (fun D σ H => tb (fun cls d σ H => cls = cr ∧ ∀ a, H a = none → ts a d (endsE o D) (slotE o (some (.ref a)) σ) H) D σ H) := by
  constructor
  intro pins s σ H D I h
  have k0 := I.ok
  have kf : X.A.frames = some (X.env :: X.outer) := k0.frames.trans (congrArg some hs)
  refine wpAny_Try_except (wpAny_mono ((hb _ (X.pn ++ pins) (seekX X pins D (h0 :: hds)) (fun u s1 z => ?_) PassesOwn.looking).run [] s σ H D (I.toTry _) h) (fun f s1 z => ?_) fun _ _ z => z)
  · obtain ⟨xa, fB, s0, pins0, σ1, H1, cls, d, rfl, J0, nb, up, sky, na, os, ag, ec, w⟩ := z
    subst ec
    have J : Inv X pins σ1 H1 s0 := J0.ofTry k0
    have sk : Sky fB (X.env :: X.outer) xa (Zc cls d) X.env.locals s1.heap := hs ▸ sky
    show wpAny (model X.prog X.w) X.A (noteFrame (.ref xa) X.env) _ _ _
    refine Sky.land Zc.steady kf hf sk fun g fl ug => ?_
    have Jg : Inv X pins σ1 H1 { s1 with heap := g } := J.landed nb fl.1 (up.trans ug) os ag
    obtain ⟨ox, vx, gx, zx, dx⟩ := fl.there
    have offF : xa ∉ frs (X.env :: X.outer) := fun hm => by
      obtain ⟨_, o2, e2, nf⟩ := fl.2.2.1.mem hm
      rw [gx] at e2
      cases e2
      exact nf _ dx
    have offL : xa ≠ X.env.locals := fun z => offF (List.mem_filterMap.mpr ⟨_, List.mem_cons_self, hf.trans (congrArg some z.symm)⟩)
    have offS : xa ∉ X.fs := fun hm => by
      obtain ⟨e2, h2, q2⟩ := List.mem_filterMap.mp hm
      exact offF (List.mem_filterMap.mpr ⟨e2, List.mem_cons_of_mem _ h2, q2⟩)
    have Sg := Jg.suite gx dx na offL offS
    have nameOk : ∀ {x : Str} {c : Value} {np : Pos} {Q E : Value → Shared → Prop}, Names X x c → Q c { s1 with heap := g } → wpAny (model X.prog X.w) (X.A.mark (some (.ref xa))) (eval (.Name x np) X.env) Q E { s1 with heap := g } := fun {x c np Q E} F q => by
      rcases F with ⟨f1, f2, f3 | ⟨f3, f4, f5⟩⟩
      · exact ld_glob (X := X.suite xa ((xa, ox) :: (X.pn ++ pins))) Sg f1 f3 q f2
      · exact ld_blt (X := X.suite xa ((xa, ox) :: (X.pn ++ pins))) Sg f1 f3 f4 q f5 f2
    have LT : PySem.W.Looks (model X.prog X.w) g (typeOf (.ref xa)) cls := fun A Q E s k q => wpAny_typeOf_ref (k _ _ gx) (zx.1 ▸ q)
    clear h
    revert pk
    generalize h0 :: hds = hl
    intro pk
    induction pk with
    | @skip x c nm b0 st s2 np hp hds o F hm r ih =>
      refine wpAny_handleBy_cons (codeAny_handlers_test (nameOk F ((PySem.W.exm_one (M := model X.prog X.w) Jg.kIn LT hm).here ?_))) (nomatch ·)
      exact ih w hsu
    | @bare x c b0 st np hp hds F hm =>
      refine wpAny_handleBy_cons (codeAny_handlers_test (nameOk F ((PySem.W.exm_one (M := model X.prog X.w) Jg.kIn LT hm).here ?_))) (nomatch ·)
      refine codeAny_handlers_suite (HandSPX.lands_againZ fl fun g2 fl2 ug2 => ?_)
      have J2 : Inv X pins σ1 H1 { s1 with heap := g2 } := J.landed nb fl2.1 ((up.trans ug).trans ug2) os ag
      obtain ⟨ox2, vx2, gx2, zx2, dx2⟩ := fl2.there
      refine wpAny_mono ((hsu xa ox2 d (X.pn ++ pins) zx2 ⟨_, dx2⟩).run [] _ _ H1 _ (J2.suite gx2 dx2 na offL offS) (w xa na)) (fun f s6 z => ?_) fun _ _ z => z.elim
      cases f with
      | next => obtain ⟨σ6, H6, S6, q6⟩ := z; exact ⟨σ6, H6, S6.unsuite k0, q6⟩
      | brk => obtain ⟨σ6, H6, S6, q6⟩ := z; exact ⟨σ6, H6, S6.unsuite k0, q6⟩
      | cont => obtain ⟨σ6, H6, S6, q6⟩ := z; exact ⟨σ6, H6, S6.unsuite k0, q6⟩
      | ret u => obtain ⟨v6, σ6, H6, S6, r6, q6⟩ := z; exact ⟨v6, σ6, H6, S6.unsuite k0, r6, q6⟩
    | @named x n c i b0 st np hp hds F hm hi hln =>
      refine wpAny_handleBy_cons (codeAny_handlers_test (nameOk F ((PySem.W.exm_one (M := model X.prog X.w) Jg.kIn LT hm).here ?_))) (nomatch ·)
      refine codeAny_handlers_suite_as (HandSPX.lands_againZ fl fun g2 fl2 ug2 => ?_)
      have J2 : Inv X pins σ1 H1 { s1 with heap := g2 } := J.landed nb fl2.1 ((up.trans ug).trans ug2) os ag
      obtain ⟨ox2, vx2, gx2, zx2, dx2⟩ := fl2.there
      refine store_ok (X := X.suite xa ((xa, ox2) :: (X.pn ++ pins))) (v := .ref xa) (J2.suite gx2 dx2 na offL offS) nd hi (.inl hln) rfl (fun s5 S5 => ?_) (.inr hln)
      refine wpAny_mono ((hsu xa ox2 d (X.pn ++ pins) zx2 ⟨_, dx2⟩).run [] s5 _ H1 _ S5 (w xa na)) (fun f s6 z => ?_) fun _ _ z => z.elim
      cases f with
      | next => obtain ⟨σ6, H6, S6, q6⟩ := z; exact gone_ok (S6.unsuite k0) nd hi hln fun s7 J7 => ⟨_, H6, J7, q6⟩
      | brk => obtain ⟨σ6, H6, S6, q6⟩ := z; exact gone_ok (S6.unsuite k0) nd hi hln fun s7 J7 => ⟨_, H6, J7, q6⟩
      | cont => obtain ⟨σ6, H6, S6, q6⟩ := z; exact gone_ok (S6.unsuite k0) nd hi hln fun s7 J7 => ⟨_, H6, J7, q6⟩
      | ret u => obtain ⟨v6, σ6, H6, S6, r6, q6⟩ := z; exact gone_ok (S6.unsuite k0) nd hi hln fun s7 J7 => ⟨v6, _, H6, J7, r6, q6⟩
  · cases f with
    | next => obtain ⟨σ1, H1, J, q⟩ := z; exact wpAny_execs_nil ⟨σ1, H1, J.ofTry k0, q⟩
    | brk => obtain ⟨σ1, H1, J, q⟩ := z; exact ⟨σ1, H1, J.ofTry k0, q⟩
    | cont => obtain ⟨σ1, H1, J, q⟩ := z; exact ⟨σ1, H1, J.ofTry k0, q⟩
    | ret u => obtain ⟨v, σ1, H1, J, r, q⟩ := z; exact ⟨v, σ1, H1, J.ofTry k0, r, q⟩
end
/-! ### .. over a state of data -/
def setO (o : Option Nat) (a : Addr) (Γ : List DV) : List DV := match o with
  | none => Γ
  | some i => Γ.set i (.r a)
def clrO (o : Option Nat) (Γ : List DV) : List DV := match o with
  | none => Γ
  | some i => Γ.set i .no
section
variable {X : Cx} {W : Wd} {Γ : List DV} {μ : Mu} {rest body : List Stmt} {D : Ends} {xr nm : Str} {fo : Option (Str × PyData)} {h0 : ExceptHandler} {hds : List ExceptHandler} {pos q1 q2 : Pos} {e0 : Expr} {y0 : PyData} {o : Option Nat}
theorem caught_now {a : Addr} {oe : Obj} {cls : Value} {d : Option Addr} {σ2 : L2.St} {H2 H' : Hp} (R2 : Rep X.K W Γ μ σ2 H2) (xo : XO X.K (hd W μ) H2 H' xr fo cls d) (hz : Zc cls d oe) (hv : ∃ vs, oe.data = .fields vs) : Caught X W (W.now μ H') Γ μ xr fo a oe cls d := by
  have R3 : Rep X.K W Γ μ σ2 H' := R2.same xo.2.1
  refine ⟨R3.now_le, hz, hv, xo.1, ?_⟩
  obtain ⟨_, _, h3⟩ := xo
  cases fo with
  | none => exact h3
  | some fy =>
    obtain ⟨f, y⟩ := fy
    obtain ⟨dd, v, e1, e2, e3, e4⟩ := h3
    refine ⟨dd, v, e1, fun σ3 H3 Γ3 μ3 R6 => ?_⟩
    have pool : Same (off (hd W μ) H') (off (hd (W.now μ H') μ3) H3) := fun b o e => by
      obtain ⟨h1, h2⟩ := off_some e
      have z : (W.now μ H').H0 b = some o := by
        show off (μ.map (·.1)) H' b = some o
        rw [off_out (fun z => h1 (List.mem_append_right _ z))]
        exact h2
      rw [off_out (fun q => by
        rcases List.mem_append.mp q with q | q
        · exact h1 (List.mem_append_left _ q)
        · obtain ⟨p, hp, rfl⟩ := List.mem_map.mp q
          rw [(R6.mu p hp).1] at z
          cases z)]
      exact R6.fr.keep b o (fun q => h1 (List.mem_append_left _ (Rep.isRow_M R3.wd q))) z
    have hdd : dd ∉ hd W μ := fun q => R2.ne dd q e2
    refine ⟨(off_some (pool dd _ (by rw [off_out hdd]; exact e3))).2, e4.up pool⟩
/-- try: body (which raises xr); the clause that takes it says nm = e0 -/
theorem run_tryP (j : Nat) (pk : Pick X (.ref (He.ga X.K xr)) (h0 :: hds) o (.Assign [.Name nm q1] e0 q2) []) (ho : o ≠ some j)
    (hbody : ∀ (pn : List (Addr × Obj)) (xe : Value → Shared → Prop) (Wx : WX), Takes (X.tr pn xe) Wx → PassesOwn (model X.prog X.w) X.A X.env xe → (∀ σ H, Rep X.K W Γ μ σ H → ∀ cls d H', XO X.K (hd W μ) H H' xr fo cls d → Wx cls d σ H') → Run (X.tr pn xe) W Γ μ body DF)
    (he0 : ∀ (W1 : Wd) (a : Addr) (oe : Obj) (pn : List (Addr × Obj)) (cls : Value) (d : Option Addr), Caught X W W1 Γ μ xr fo a oe cls d → Ed (X.suite a ((a, oe) :: pn)) W1 (setO o a Γ) μ e0 y0)
    (h : Run X W ((clrO o Γ).set j (.d y0)) μ rest D) (nd : X.N.Nodup) (hj : X.N[j]? = some nm := by rfl) (hx : Loc X.env.scope nm := by first | exact Or.inl rfl | exact Or.inr rfl)
    (hsw : swapsWith e0 (some (.Name nm q1)) q2.line X.env = pure false := by rfl) (hfn : X.fn nm = true ∨ X.env.scope.names.lookup nm = some .local := by first | exact .inr rfl | exact .inl rfl)
    (hs : X.stack = X.env :: X.outer := by rfl) (hf : X.env.frame = some X.env.locals := by rfl) :
    Run X W Γ μ (.Try body (h0 :: hds) [] [] pos :: rest) D := fun σ H R => by
  refine wSs_cons ((ps_try_pick (tb := fun Wx D σ H => ∀ (pn : List (Addr × Obj)) (xe : Value → Shared → Prop), Takes (X.tr pn xe) Wx → PassesOwn (model X.prog X.w) X.A X.env xe → wSs (X.tr pn xe) body D σ H)
    (ts := fun a d D σ H => ∀ (oe : Obj) (pn : List (Addr × Obj)), Zc (.ref (He.ga X.K xr)) d oe → (∃ vs, oe.data = .fields vs) → wSs (X.suite a ((a, oe) :: pn)) [.Assign [.Name nm q1] e0 q2] D σ H)
    hs hf nd pk (fun Wx pn xe t hp => ⟨fun pins s σ H D I h => h pn xe t hp pins s I⟩) (fun a oe d pn hz hv => ⟨fun pins s σ H D I h => h oe pn hz hv pins s I⟩)).w ?_)
  intro pn xe t hp
  refine Run.mono (hbody pn xe _ t hp fun σ2 H2 R2 cls d H' xo => ⟨xo.1, fun a na oe pn2 hz hv => ?_⟩) (fun _ _ z => z.elim) (fun _ _ z => z.elim) (fun _ _ z => z.elim) (fun _ _ z => z.elim) σ H R
  obtain rfl : cls = .ref (He.ga X.K xr) := xo.1
  have R3 : Rep X.K W Γ μ σ2 H' := R2.same xo.2.1
  have R4 := R3.now
  have R5 : Rep X.K (W.now μ H') (setO o a Γ) μ (slotE o (some (.ref a)) σ2) H' := by
    cases o with
    | none => exact R4
    | some i => exact ⟨R4.wd, R4.fr, R4.sl.setr i, R4.mu, R4.nd⟩
  have cg := caught_now (a := a) R2 xo hz hv
  refine run_set (X := X.suite a ((a, oe) :: pn2)) j (he0 _ a oe pn2 _ d cg) (run_nil fun σ3 H3 R6 => ?_) nd hj hx hsw hfn _ _ R5
  have R7 : Rep X.K W ((setO o a Γ).set j (.d y0)) μ σ3 H3 := R6.wdown R3.now_le R3.wd
  refine h _ _ ?_
  cases o with
  | none => exact R7
  | some i =>
    have hij : i ≠ j := fun e => ho (congrArg some e)
    have z := slots_no R7.sl i
    have e : ((Γ.set i (.r a)).set j (.d y0)).set i .no = (Γ.set i .no).set j (.d y0) := by
      rw [List.set_comm _ _ (Ne.symm hij), List.set_set]
    have z' : Slots X.K (off (hd W μ) H3) (σ3.set i none) ((Γ.set i .no).set j (.d y0)) := e ▸ z
    exact ⟨R7.wd, R7.fr, z', R7.mu, R7.nd⟩
end
/-! ### f(..), f any expression that gives a def -/
section
variable {X : Cx} {W : Wd} {Γ : List DV} {μ : Mu} {fe e : Expr} {es : List Expr} {ds : List PyData} {d : PyData} {x : Str} {ps : List Str} {k : Nat} {f : Addr} {fd : FuncData} {pos : Pos} {CX : CXT} {sp : Sp} {E : L2.St → XK} {t : TA} {tf : TE}
end
section
variable {X : Cx} {W : Wd} {Γ : List DV} {μ : Mu} {fe e : Expr} {es : List Expr} {ds : List PyData} {d : PyData} {x y : Str} {fo : Option (Str × PyData)} {ps : List Str} {k : Nat} {f : Addr} {pos : Pos} {W0 : WX}
theorem FdX.at {P : Program} {w : World} {K : PySem.W.Frag} {mg : Str → Option Value} {base : Heap} {R : List PyData → Str → Option (Str × PyData) → Prop} (F : FdX P w K mg base k x ps R) : ∃ f, mg x = some (.ref f) := by
  obtain ⟨f, _, _, h, _⟩ := F.ex
  exact ⟨f, h⟩
theorem Fd.at {P : Program} {w : World} {K : PySem.W.Frag} {mg : Str → Option Value} {base : Heap} {sp : Sp} (F : Fd P w K mg base k x ps sp) : ∃ f, mg x = some (.ref f) := by
  obtain ⟨f, _, _, h, _⟩ := F.ex
  exact ⟨f, h⟩
end
end HW
set_option maxHeartbeats 4000000
namespace HW
open PySem PySem.Spec PyProof.Rows L2
open SX (S)
/-! ### values of any kind that are refused -/
/-- no text -/
def oddS (v : PyData) : Prop := v = .none ∨ (∃ b, v = .bool b) ∨ (∃ i, v = .int i) ∨ (∃ xs, v = .list xs) ∨ (∃ xs, v = .tuple xs) ∨ v = .dict []
/-- no integer -/
def oddA (v : PyData) : Prop := v = .none ∨ (∃ b, v = .bool b) ∨ (∃ l, v = .str l) ∨ (∃ xs, v = .list xs) ∨ (∃ xs, v = .tuple xs) ∨ v = .dict []
def noMask (v : PyData) : Prop := oddS v ∨ ∃ l : List Nat, v = sD l ∧ l.length ≤ 4000 ∧ maskB l = false
def noRow (v : PyData) : Prop := oddS v ∨ ∃ l : List Nat, v = sD l ∧ l.length ≤ 4000 ∧ rowB l = false
def noNum (a b : Int) (v : PyData) : Prop := oddA v ∨ ∃ i, v = .int i ∧ ¬ (a ≤ i ∧ i ≤ b)
section
variable {X : Cx} {W : Wd} {Γ : List DV} {μ : Mu} {e : Expr} {d : PyData} {pos p p2 : Pos}
/-- isinstance(e, str) of what is no text -/
theorem ed_isiS (ho : oddS d) (he : Ed X W Γ μ e d) (hm : X.mg "isinstance" = none) (hmT : X.mg "str" = none) (hg : Gl X "isinstance" := by rfl) (hgT : Gl X "str" := by rfl)
    (hs : starEach [e, .Name "str" p2] X.env = (false, eval e X.env) :: starEach [.Name "str" p2] X.env := by rfl) (hs2 : starEach [.Name "str" p2] X.env = (false, eval (.Name "str" p2) X.env) :: starEach [] X.env := by rfl) (hpl : (backTo pos (starEach [.Name "str" p2] X.env)).any (·.1) = false := by rfl) :
    Ed X W Γ μ (.Call (.Name "isinstance" p) [e, .Name "str" p2] [] pos) (.bool false) := by
  rcases ho with rfl | ⟨_, rfl⟩ | ⟨_, rfl⟩ | ⟨_, rfl⟩ | ⟨_, rfl⟩ | rfl <;> exact ed_isi (T := "str") he hm hmT (by decide +kernel) (fun K => rfl) rfl hg hgT (by decide) (by decide) hs hs2 hpl
end
def R_is_mask_o (ds : List PyData) (d : PyData) : Prop := ∃ v : PyData, ds = [v] ∧ oddS v ∧ d = .bool false
def R_is_from_a (ds : List PyData) (d : PyData) : Prop := ∃ (v : PyData) (a b : Int), ds = [v, .int a, .int b] ∧ noNum a b v ∧ d = .bool false
/-! what is raised: x behind the argument -/
def X_mask (ds : List PyData) (x : Str) (fo : Option (Str × PyData)) : Prop := ∃ v : PyData, ds = [v] ∧ noMask v ∧ x = "BadMask" ∧ fo = none
def X_row (ds : List PyData) (x : Str) (fo : Option (Str × PyData)) : Prop := ∃ v : PyData, ds = [v] ∧ noRow v ∧ x = "BadRow" ∧ fo = none
def X_letters (ds : List PyData) (x : Str) (fo : Option (Str × PyData)) : Prop := ∃ v : PyData, ds = [v] ∧ noNum 1 4 v ∧ x = "BadLetters" ∧ fo = none
end HW
set_option maxHeartbeats 4000000
namespace HW
open PySem PySem.Spec PyProof.Rows L2
open SX (S)
/-! ### what the defs raise, one error after the other (printed by genchain.py) -/
/-- no list, no tuple -/
def oddQ (v : PyData) : Prop := v = .none ∨ (∃ b, v = .bool b) ∨ (∃ i, v = .int i) ∨ (∃ l, v = .str l) ∨ v = .dict []
end HW
set_option maxHeartbeats 4000000
namespace HW
open PySem PySem.Spec PyProof.Rows L2
open SX (S)
/-! ### text * number, none too -/
/-! ### law 10 -/
end HW
set_option maxHeartbeats 4000000
namespace HW
open PySem PySem.Spec PyProof.Rows L2
open SX (S)
/-! ### how far a row can be made longer -/
/-! ### slices whose bound is drawn -/
def rAnyS (X : Cx) : V → Option Int → Option Int → Hp → VK → Prop := fun v l u H Q => ∃ d z, SlD X d l u z ∧ rDs X.K d l u z v l u H Q
theorem rAnyS.ok {X : Cx} : L2.SlR X (rAnyS X) := fun pins s σ H x v vl vu lo hi sl Q I rx hs pl pu ⟨d, z, h, q⟩ => h pins s σ H x v vl vu lo hi sl Q I rx hs pl pu q
section
variable {X : Cx} {W : Wd} {Γ : List DV} {μ : Mu} {a lo hi : Expr} {p2 pos : Pos} {A C : PyData → Prop} {U L : Int → Prop}
end
end HW
set_option maxHeartbeats 4000000
namespace HW
open PySem PySem.Spec PyProof.Rows L2
open SX (S)
/-! ### tuple * number: none and one, too -/
/-! ### {} as data -/
/-! ### places found -/
theorem shp_nD (l : List Nat) : Shp 1 (nD l) := Shp.list fun x hx => by
  obtain ⟨i, _, rfl⟩ := List.mem_map.mp hx
  exact Shp.int
/-! ### law 5 -/
/-! ### what is no list, no tuple -/
theorem run_ok {X : Cx} {W : Wd} {Γ : List DV} {μ : Mu} {sts : List Stmt} {D : Ends} (h : WdOk X.K W → Run X W Γ μ sts D) : Run X W Γ μ sts D := fun σ H R => h R.wd σ H R
section
variable {X : Cx} {W : Wd} {Γ : List DV} {μ : Mu} {e : Expr} {d : PyData} {pos p q1 q2 pt : Pos} {kt : Nat}
theorem ed_isQ (ho : oddQ d) (he : Ed X W Γ μ e d) (hm : X.mg "isinstance" = none) (hm1 : X.mg "list" = none) (hm2 : X.mg "tuple" = none) (hg : Gl X "isinstance" := by rfl) (hg1 : Gl X "list" := by rfl) (hg2 : Gl X "tuple" := by rfl)
    (hs : starEach [e, .Tuple [.Name "list" q1, .Name "tuple" q2] kt pt] X.env = (false, eval e X.env) :: starEach [.Tuple [.Name "list" q1, .Name "tuple" q2] kt pt] X.env := by rfl) (hs2 : starEach [.Tuple [.Name "list" q1, .Name "tuple" q2] kt pt] X.env = (false, eval (.Tuple [.Name "list" q1, .Name "tuple" q2] kt pt) X.env) :: starEach [] X.env := by rfl) (hpl : (backTo pos (starEach [.Tuple [.Name "list" q1, .Name "tuple" q2] kt pt] X.env)).any (·.1) = false := by rfl)
    (hs3 : starEach [.Name "list" q1, .Name "tuple" q2] X.env = (false, eval (.Name "list" q1) X.env) :: starEach [.Name "tuple" q2] X.env := by rfl) (hs4 : starEach [.Name "tuple" q2] X.env = (false, eval (.Name "tuple" q2) X.env) :: starEach [] X.env := by rfl) :
    Ed X W Γ μ (.Call (.Name "isinstance" p) [e, .Tuple [.Name "list" q1, .Name "tuple" q2] kt pt] [] pos) (.bool false) := by
  rcases ho with rfl | ⟨_, rfl⟩ | ⟨_, rfl⟩ | ⟨_, rfl⟩ | rfl <;> exact ed_isi2 he hm hm1 boot_list hm2 boot_tuple (by intro K; rfl) rfl hg hg1 hg2 (by decide) (by decide) (by decide) (by decide) hs hs2 hpl hs3 hs4
end
/-! ### law 18 -/
abbrev wMany : PyData := sD [109, 97, 110, 121]
end HW
set_option maxHeartbeats 4000000
namespace HW
open PySem PySem.Spec PyProof.Rows L2
open SX (S)
open PySem.W (dataLt AlikeAll AllAlike Sortable EachIs dataLe alike)
/-! ### sorted(set(..)) over any keys -/
section
variable {prog : Program} {w : World} {A : Around} {E : Value → Shared → Prop} {s : Shared} {K : Type} [DecidableEq K] {knd : KeyKind prog w K}
end
section
variable {X : Cx} {W : Wd} {Γ : List DV} {μ : Mu} {a : Expr} {p p2 q pos : Pos} {ws zs : List Nat}
end
/-! ### masks laid together -/
/-! ### law 2 -/
end HW
set_option maxHeartbeats 4000000
namespace HW
open PySem PySem.Spec PyProof.Rows L2
open SX (S)
open PySem.W (dataLt AlikeAll AllAlike Sortable EachIs dataLe alike)
/-! ### a local dict becomes data: locked -/
section
variable {X : Cx} {W : Wd} {Γ : List DV} {μ : Mu} {sts : List Stmt} {D : Ends} {l : Addr}
end
section
variable {X : Cx} {W : Wd} {Γ : List DV} {μ : Mu} {tg e : Expr} {apos cpos : Pos} {kvs : List (Key × PyData)}
end
/-! ### d.get(k, other) of a local dict -/
section
variable {X : Cx} {W : Wd} {Γ : List DV} {μ : Mu} {e f : Expr} {pos p apos : Pos} {n : Str} {l : Addr} {kvs : List (Key × PyData)} {k : Key} {d : PyData}
end
/-! ### list.index with a start -/
section
variable {X : Cx} {W : Wd} {Γ : List DV} {μ : Mu} {o e f : Expr} {apos pos : Pos} {ws : List (List Nat)} {w : List Nat} {j st : Nat}
end
/-! ### like views -/
section
variable (ws : List (List Nat))
/-! the first like ones -/
end
end HW
set_option maxHeartbeats 4000000
namespace HW
open PySem PySem.Spec PyProof.Rows L2
section
variable {ws : List (List Nat)} {z : List Nat} {i : Nat}
end
end HW
set_option maxHeartbeats 4000000
namespace HW
open PySem PySem.Spec PyProof.Rows L2
open SX (S)
/-! ### what raises within an expression -/
section
variable {X : Cx} {W : Wd} {Γ : List DV} {μ : Mu} {e a b : Expr} {es : List Expr} {rest : List Stmt} {D : Ends} {p pos : Pos}
end
/-! ### n1, n2, n3 = a, b, c -/
section
variable {X : Cx} {W : Wd} {Γ : List DV} {μ : Mu} {a b c : Expr} {rest : List Stmt} {D : Ends} {n1 n2 n3 : Str} {p1 p2 p3 pos : Pos}
end
/-! ### patterns, looks, steps -/
def patSB (t : List Nat) : Bool := decide (t.length ≤ 60) && t.all fun c => decide (c ∈ [97, 98, 99, 100, 63])
def noPat (v : PyData) : Prop := oddS v ∨ ∃ t : List Nat, v = sD t ∧ t.length ≤ 4000 ∧ patSB t = false
def X_need_pattern (ds : List PyData) (x : Str) (fo : Option (Str × PyData)) : Prop := ∃ p a1 a2 : PyData, ds = [p, a1, a2] ∧ ((noPat p ∧ x = "BadPattern" ∧ fo = none) ∨ ∃ t : List Nat, p = sD t ∧ patSB t = true ∧
  (X_mask [a1] x fo ∨ (R_need_mask [a1] .none ∧ (X_letters [a2] x fo ∨ (R_need_letters [a2] .none ∧ 6 < t.count 63 ∧ x = "TooMany" ∧ fo = some (("most" : Str), nn 6))))))
def R_need_looks (ds : List PyData) (d : PyData) : Prop := ∃ (m : List Nat) (t : Bool) (vs : List (List Nat)), ds = [sD m, seqD t (vs.map sD)] ∧ m.length ≤ 4000 ∧ 1 ≤ vs.length ∧ vs.length ≤ 60 ∧ (∀ v ∈ vs, lookB m v = true) ∧ d = .none
abbrev iD (i : Int) : PyData := .int i
def R_need_steps (ds : List PyData) (d : PyData) : Prop := ∃ (t : Bool) (zs : List Int) (q : Int), ds = [seqD t (zs.map iD), .int q] ∧ (zs.length : Int) = q ∧ (∀ z ∈ zs, -12 ≤ z ∧ z ≤ 12) ∧ d = .none
/-- the first of some things that is no step -/
def firstNoStep (xs : List PyData) (i : Nat) : Prop := (∃ z, xs[i]? = some z ∧ noNum (-12) 12 z) ∧ ∀ j, j < i → ∃ n : Int, xs[j]? = some (.int n) ∧ -12 ≤ n ∧ n ≤ 12
def X_need_steps (ds : List PyData) (x : Str) (fo : Option (Str × PyData)) : Prop := ∃ (v : PyData) (q : Int), ds = [v, .int q] ∧ x = "BadSteps" ∧
  (((oddQ v ∨ ∃ (t : Bool) (xs : List PyData), v = seqD t xs ∧ (xs.length : Int) ≠ q) ∧ fo = some (("index" : Str), .none)) ∨ ∃ (t : Bool) (xs : List PyData) (i : Nat), v = seqD t xs ∧ (xs.length : Int) = q ∧ firstNoStep xs i ∧ fo = some (("index" : Str), nn i))
def anyQ (v : PyData) : Prop := oddQ v ∨ ∃ (t : Bool) (xs : List PyData), v = seqD t xs
/-- how many steps are asked for -/
def stepN : PyData → Int
  | .list xs => if xs.length < 60 then xs.length else -1
  | .tuple xs => if xs.length < 60 then xs.length else -1
  | _ => -1
theorem stepN_seq (t : Bool) (xs : List PyData) : stepN (seqD t xs) = if xs.length < 60 then (xs.length : Int) else -1 := by cases t <;> rfl
theorem stepN_odd {v : PyData} (h : oddQ v) : stepN v = -1 := by
  rcases h with rfl | ⟨_, rfl⟩ | ⟨_, rfl⟩ | ⟨_, rfl⟩ | rfl <;> rfl
def X_first_filling (ds : List PyData) (x : Str) (fo : Option (Str × PyData)) : Prop := ∃ a0 a1 a2 : PyData, ds = [a0, a1, a2] ∧ (X_need_pattern [a0, a1, a2] x fo)
def X_steps_tell (ds : List PyData) (x : Str) (fo : Option (Str × PyData)) : Prop := ∃ a0 a1 a2 : PyData, ds = [a0, a1, a2] ∧ (X_row [a0] x fo ∨ (R_need_row [a0] .none ∧ (X_mask [a1] x fo ∨ (R_need_mask [a1] .none ∧ ((anyQ a2 ∧ X_need_steps [a2, .int (stepN a2)] x fo))))))
/-! ### the calls of law 33 -/
end HW
set_option maxHeartbeats 4000000
namespace HW
open PySem PySem.Spec PyProof.Rows L2
open SX (S)
/-! ### sets of tuples, whatever kind of key the items are (fewer than 64 of them) -/
section
variable {pr : Program} {wo : World} {κ : Type} [DecidableEq κ] {kd : PySem.KeyKind pr wo κ} {A : Around} {Er : Value → Shared → Prop} {st : Shared}
abbrev hT (kd : PySem.KeyKind pr wo κ) (ks : List κ) : Int := tupleKeyHash kd ks
/-! ### the set -/
def entL (kd : PySem.KeyKind pr wo κ) (L : List (Addr × List κ)) : List (Int × Value) := L.map fun p => (hT kd p.2, Value.ref p.1)
abbrev hsL (kd : PySem.KeyKind pr wo κ) (L : List (Addr × List κ)) : List Int := L.map fun p => hT kd p.2
structure TSet (kd : PySem.KeyKind pr wo κ) (h : Heap) (a : Addr) (L : List (Addr × List κ)) (es : Array (Int × Value)) (ep : Nat) (t : SetTable) : Prop where
  obj : ∃ o, h.get? a = some o ∧ o.ExactSet ∧ o.data = .set es ep t
  ents : es.toList = entL kd L
  tab : TabOk t (hsL kd L)
  uniq : (L.map (·.2)).Nodup
  keys : ∀ p ∈ L, IsTupleKey kd h p.2 p.1
  room : L.length * 5 < t.mask * 3
  few : L.length < 64
variable {a : Addr} {L : List (Addr × List κ)} {es : Array (Int × Value)} {ep : Nat} {t : SetTable}
theorem ent_len {es : Array (Int × Value)} {L : List (Addr × List κ)} (h : es.toList = entL kd L) : es.size = L.length := by
  have z := congrArg List.length h
  rw [Array.length_toList, entL, List.length_map] at z
  exact z
theorem fits_of {es : Array (Int × Value)} {t : SetTable} (h1 : t.place.size = es.size) (h2 : t.dummies = #[]) (h3 : es.size ≤ t.mask) : t.fits es.size = true := by
  rw [SetTable.fits, SetTable.fill, h2, Bool.and_eq_true, beq_iff_eq, decide_eq_true_eq]
  exact ⟨h1, by show t.place.size + 0 ≤ t.mask; omega⟩
theorem TSet.size (R : TSet kd st.heap a L es ep t) : es.size = L.length := ent_len R.ents
theorem TSet.plen (R : TSet kd st.heap a L es ep t) : t.place.size = L.length := by rw [R.tab.sz, List.length_map]
theorem TSet.fits (R : TSet kd st.heap a L es ep t) : t.fits es.size = true := by
  have h1 := R.plen
  have h2 := R.size
  have h3 := R.room
  exact fits_of (by omega) R.tab.dm (by omega)
end
section
variable {pr : Program} {wo : World} {κ : Type} [DecidableEq κ] {kd : PySem.KeyKind pr wo κ} {A : Around} {Er : Value → Shared → Prop} {st : Shared} {a : Addr} {L : List (Addr × List κ)} {es : Array (Int × Value)} {ep : Nat} {t : SetTable}
end
section
variable {pr : Program} {wo : World} {κ : Type} [DecidableEq κ] {kd : PySem.KeyKind pr wo κ} {A : Around} {Er : Value → Shared → Prop} {st : Shared}
theorem TSet.kept {h h' : Heap} {a : Addr} {L : List (Addr × List κ)} {es : Array (Int × Value)} {ep : Nat} {t : SetTable} (R : TSet kd h a L es ep t) (ha : ∀ o, h.get? a = some o → h'.get? a = some o) (hk : ∀ p ∈ L, IsTupleKey kd h' p.2 p.1) : TSet kd h' a L es ep t := by
  obtain ⟨o, ho, r⟩ := R.obj
  exact ⟨⟨o, ha o ho, r⟩, R.ents, R.tab, R.uniq, hk, R.room, R.few⟩
/-- the set holds the first i keys -/
def Holds (kd : PySem.KeyKind pr wo κ) (h : Heap) (S : Addr) (ks : List (Addr × List κ)) (i : Nat) : Prop := ∃ L es ep t, TSet kd h S L es ep t ∧ (∀ p ∈ L, p ∈ ks) ∧ L.length ≤ i ∧ ∀ k, k ∈ L.map (·.2) ↔ k ∈ (ks.take i).map (·.2)
end
/-! ### len(set(xs)), xs a list of fewer than 64 tuples of texts -/
abbrev tW (t : List (List Nat)) : PyData := .tuple (t.map sD)
section
variable {X : Cx} {W : Wd} {Γ : List DV} {μ : Mu} {a : Expr} {p p2 q pos : Pos} {ts : List (List (List Nat))}
end
end HW
set_option maxHeartbeats 4000000
namespace HW
open PySem PySem.Spec PyProof.Rows L2
open SX (S)
/-! ### words, split by spaces -/
section
variable {X : Cx} {W : Wd} {Γ : List DV} {μ : Mu} {o e : Expr} {apos pos : Pos} {ws : List (List Nat)}
end
section
variable {X : Cx} {i : Nat} {xs : List Nat}
end
/-! ### law 23's words -/
end HW
set_option maxHeartbeats 4000000
namespace HW
open PySem PySem.Spec PyProof.Rows L2
open SX (S)
/-! ### so many views, one behind the other -/
end HW
set_option maxHeartbeats 4000000
namespace HW
open PySem PySem.Spec PyProof.Rows L2
open SX (S)
/-! ### local lists that begin with an item; the last item of a local list -/
section
variable {X : Cx} {W W0 : Wd} {Γ : List DV} {μ : Mu} {e value i' : Expr} {rest : List Stmt} {D : Ends} {pos p p1 p2 pos' : Pos} {n : Str} {l : Addr} {d y : PyData} {ds ys : List PyData} {z : Int}
/-- x = [..], a new local list -/
theorem run_newLs (i : Nat) {es : List Expr} (ha : EdA X W Γ μ es ds) (hl : ds.length ≤ 1000) (h : ∀ l, Run X W (Γ.set i (.r l)) ((l, .lst ds) :: μ) rest D) (nd : X.N.Nodup) (hN : X.N[i]? = some n := by rfl) (hx : Loc X.env.scope n := by first | exact Or.inl rfl | exact Or.inr rfl)
    (hs : swapsWith (.List es p2) (some (.Name n p)) pos.line X.env = pure false := by rfl) (hf : X.fn n = true ∨ X.env.scope.names.lookup n = some .local := by first | exact .inr rfl | exact .inl rfl) : Run X W Γ μ (.Assign [.Name n p] (.List es p2) pos :: rest) D := fun σ H R =>
  wSs_cons ((ps_set nd hN hx (pe_lst wA.pa) hs hf).w (ha σ H R _ fun vs H2 R2 e2 r2 => ⟨by rw [r2.length]; exact Nat.le_trans hl (by decide), fun a hna => h a _ _ (by
    have R3 := R2.born (m := .lst ds) (o := .lst vs) hna ⟨vs, upd_same, r2⟩
    exact ⟨R3.wd, R3.fr, R3.sl.setr i, R3.mu, R3.nd⟩)⟩))
/-- x[-1] of a local list -/
theorem ed_lixL (i j : Nat) (he : Ed X W Γ μ e (.int (-1))) (hk : ys.getLast? = some d) (hi : Γ[i]? = some (.r l) := by rfl) (hj : μ[j]? = some (l, .lst ys) := by rfl) (hN : X.N[i]? = some n := by rfl) (hv : Vis X.env.scope n := by first | exact Or.inl rfl | exact Or.inr (Or.inl rfl) | exact Or.inr (Or.inr rfl))
    (h1 : (n == ("__debug__" : Str)) = false := by decide) (h2 : (n == ("__classdict__" : Str)) = false := by decide) (hs : PlainIx e := by exact fun _ _ => rfl) : Ed X W Γ μ (.Subscript (.Name n p) e pos) d := fun σ H R Q q => by
  refine (pe_ix ix_list (pe_var hN hv h1 h2) wE.pe hs).w ?_
  obtain ⟨o, g1, g2⟩ := R.sl.at_ i _ hi
  have g2' : o = some (.ref l) := g2
  subst g2'
  refine ⟨_, g1, he σ H R _ fun v H2 R2 e2 r2 => ?_⟩
  cases r2
  obtain ⟨xs, hx, hxv⟩ := (R2.mu _ (List.mem_of_getElem? hj)).2
  rw [List.getLast?_eq_getElem?] at hk
  obtain ⟨u, hu, ru⟩ := hxv.at hk
  exact ⟨l, xs, -1, u, rfl, rfl, SqL.of hx, at_last (by rw [List.getLast?_eq_getElem?, hxv.length]; exact hu), q u H2 R2 e2 ru⟩
theorem Slots.toR {K : PySem.W.Frag} {H : Hp} {σ : L2.St} {Γ : List DV} {i : Nat} {a : Addr} (h : Slots K H σ Γ) (hi : Γ[i]? = some (.d (ptD a))) : Slots K H σ (Γ.set i (.r a)) := ⟨by rw [List.length_set]; exact h.len, fun j dv q => by
  by_cases hj : j = i
  · subst hj
    rw [List.getElem?_set_self (List.getElem?_eq_some_iff.mp hi).1] at q
    cases q
    obtain ⟨o, e1, v, e2, r⟩ := h.at_ _ _ hi
    cases r
    exact ⟨o, e1, e2⟩
  · rw [List.getElem?_set_ne (Ne.symm hj)] at q
    exact h.at_ j dv q⟩
/-- x, y = a, [] where a tuple is made: y a new local list -/
theorem run_asgL1 {a : Expr} {x : PyData} (i j : Nat) {kt k2 : Nat} {pt pt2 pl : Pos} {n1 n2 : Str} (ha : Ed X W Γ μ a x) (h : ∀ l, Run X W ((Γ.set i (.d x)).set j (.r l)) ((l, .lst []) :: μ) rest D) (hN : X.N.Nodup) (hij : i ≠ j := by decide) (hjl : j < Γ.length := by simp) (hi : X.N[i]? = some n1 := by rfl) (hj : X.N[j]? = some n2 := by rfl)
    (hx1 : Loc X.env.scope n1 := by first | exact Or.inl rfl | exact Or.inr rfl) (hx2 : Loc X.env.scope n2 := by first | exact Or.inl rfl | exact Or.inr rfl)
    (hf1 : X.fn n1 = true ∨ X.env.scope.names.lookup n1 = some .local := by first | exact .inr rfl | exact .inl rfl) (hf2 : X.fn n2 = true ∨ X.env.scope.names.lookup n2 = some .local := by first | exact .inr rfl | exact .inl rfl) (hc : X.calm = true := by rfl)
    (hs : swapsWithSole [.Tuple [.Name n1 p1, .Name n2 p2] kt pt] (.Tuple [a, .List [] pl] k2 pt2) pos.line X.env = pure false := by rfl) (hw : swappedStores [.Tuple [.Name n1 p1, .Name n2 p2] kt pt] (.Tuple [a, .List [] pl] k2 pt2) X.env = pure none := by rfl)
    (h1 : (assignEach [.Tuple [.Name n1 p1, .Name n2 p2] kt pt] X.env).map (·.2) = [assign (.Tuple [.Name n1 p1, .Name n2 p2] kt pt) X.env] := by rfl)
    (hs1 : starEach [a, .List [] pl] X.env = (false, eval a X.env) :: starEach [.List [] pl] X.env := by rfl) (hs2 : starEach [.List [] pl] X.env = (false, eval (.List [] pl) X.env) :: starEach [] X.env := by rfl) :
    Run X W Γ μ (.Assign [.Tuple [.Name n1 p1, .Name n2 p2] kt pt] (.Tuple [a, .List [] pl] k2 pt2) pos :: rest) D := fun σ H R =>
  wSs_cons ((ps_asg (pe_tup (pa_cons wE.pe (pa_cons (pe_lst pa_nil) pa_nil hs2) hs1)) (pg_tup hc (pgs_cons (pg_name hN hi hx1 hf1) (pgs_cons (pg_name hN hj hx2 hf2) pgs_nil))) hs hw h1).w (ha σ H R _ fun v H2 R2 e2 r => ⟨Nat.zero_le _, fun l hl => ⟨by show 2 ≤ sizeLine; decide, fun t ht => by
    have sm := same_new (o := HO.lst []) hl
    have R3 := R2.born (m := .lst []) (o := .lst []) hl ⟨[], upd_same, .nil⟩
    have st := same_new (o := HO.tup [v, .ref l]) ht
    have R4 := R3.same st
    have r3 : Va X.K (off (hd W ((l, .lst []) :: μ)) (upd H2 l (.lst []))) v x := by
      have hlo : l ∉ hd W μ := new_out R2.ne hl
      refine r.up fun b o eb => ?_
      obtain ⟨b1, b2⟩ := off_some eb
      rw [off_out]
      · exact sm b o b2
      · intro hb
        rcases List.mem_append.mp hb with hb | hb
        · exact b1 (List.mem_append_left _ hb)
        · rcases List.mem_cons.mp hb with hb | hb
          · subst hb
            rw [hl] at b2
            cases b2
          · exact b1 (List.mem_append_right _ hb)
    have rt : Va X.K (off (hd W ((l, .lst []) :: μ)) (upd (upd H2 l (.lst [])) t (.tup [v, .ref l]))) (.ref t) (.tuple [x, ptD l]) :=
      .tup (.inl (.inl (off_upd (new_out R3.ne ht)))) (.cons (r3.up (XT.same st)) (.cons (.ptr l) .nil))
    refine (tg_pair (tg_name (K := X.K) i) (tg_name j)).run _ _ _ σ _ Γ _ rt ⟨_, _, rfl, trivial, trivial⟩ R4.sl fun σ3 s3 _ _ => ?_
    have s4 := Slots.toR (i := j) (a := l) s3 (by
      show ((Γ.set i (.d x)).set j (.d (ptD l)))[j]? = _
      exact List.getElem?_set_self (by rw [List.length_set]; exact hjl))
    rw [show ((Γ.set i (DV.d x)).set j (.d (ptD l))).set j (.r l) = (Γ.set i (.d x)).set j (.r l) from List.set_set ..] at s4
    exact h l _ _ ⟨R4.wd, R4.fr, s4, R4.mu, R4.nd⟩⟩⟩))
end
section
variable {X : Cx} {W : Wd} {Γ : List DV} {μ : Mu} {iter tg : Expr} {α : Type} {enc : α → PyData} {xs : List α}
theorem it_seq {t : Bool} {ds : List PyData} (h : Ed X W Γ μ iter (seqD t ds)) (e : ds = xs.map enc := by rfl) : IterD X W Γ μ tg iter enc xs := by
  cases t with
  | false => exact it_list h e
  | true => exact it_tup h e
end
/-! ### moves -/
/-- the places to which steps lead -/
def goL (p : Int) : List Int → List Int
  | [] => [p]
  | s :: ss => p :: goL (p + s) ss
theorem goL_len (p : Int) : ∀ ss, (goL p ss).length = ss.length + 1
  | [] => rfl
  | s :: ss => by rw [goL, List.length_cons, goL_len, List.length_cons]
theorem goL_snoc (s : Int) : ∀ (ss : List Int) (p : Int), goL p (ss ++ [s]) = goL p ss ++ [p + ss.sum + s]
  | [], p => by simp [goL]
  | x :: ss, p => by
    rw [List.cons_append, goL, goL_snoc s ss, goL, List.cons_append, List.sum_cons]
    congr 2
    rw [Int.add_assoc p x]
theorem goL_last : ∀ (ss : List Int) (p : Int), (goL p ss).getLast? = some (p + ss.sum)
  | [], p => by simp [goL]
  | x :: ss, p => by
    rw [goL, List.getLast?_cons, goL_last ss, List.sum_cons]
    simp [Int.add_assoc]
def inN (n : Nat) (xs : List Int) : Bool := xs.all fun a => decide (0 ≤ a) && decide (a < (n : Int))
def placesO (n : Nat) (p : Int) (ss : List Int) : Option (List Int) := if inN n (goL p ss) = true then some (goL p ss) else none
def optI : Option (List Int) → PyData
  | none => .none
  | some l => .list (l.map iD)
def R_places_by (ds : List PyData) (d : PyData) : Prop := ∃ (n p : Nat) (t : Bool) (ss : List Int), ds = [nn n, nn p, seqD t (ss.map iD)] ∧ ss.length ≤ 1000 ∧ d = optI (placesO n p ss)
def walkO (ws : List (List Nat)) (p : Nat) (ss : List Int) : Option (List (List Nat)) := (placesO ws.length p ss).map fun ps => ps.map fun a => ws.getD a.toNat []
def walkG (ws : List (List Nat)) (ss : List Int) (p : Nat) : Option (Nat × List (List Nat)) := (walkO ws p ss).map fun t => (p, t)
def walksL (ws : List (List Nat)) (ss : List Int) : List (Nat × List (List Nat)) := (List.range ws.length).filterMap (walkG ws ss)
abbrev wkD (q : Nat × List (List Nat)) : PyData := pr2 (nn q.1) (tW q.2)
def R_walks_of (ds : List PyData) (d : PyData) : Prop := ∃ (l m : List Nat) (t : Bool) (ss : List Int), ds = [sD l, sD m, seqD t (ss.map iD)] ∧ l.length ≤ 1000 ∧ 1 ≤ m.length ∧ m.length ≤ 1000 ∧ ss.length ≤ 900 ∧ d = .list ((walksL (viewsL l m) ss).map wkD)
theorem walks_len (ws : List (List Nat)) (ss : List Int) : (walksL ws ss).length ≤ ws.length := by
  have h := List.length_filterMap_le (walkG ws ss) (List.range ws.length)
  rw [List.length_range] at h
  exact h
theorem mem_walk {ws : List (List Nat)} {ss : List Int} {p : Nat} {t : List (List Nat)} (h : walkO ws p ss = some t) : t.length = ss.length + 1 ∧ ∀ v ∈ t, v ∈ ws := by
  unfold walkO placesO at h
  split at h
  · rename_i q
    cases h
    refine ⟨by rw [List.length_map, goL_len], fun v hv => ?_⟩
    obtain ⟨a, ha, rfl⟩ := List.mem_map.mp hv
    have z := List.all_eq_true.mp q a ha
    simp only [Bool.and_eq_true, decide_eq_true_eq] at z
    have hl : a.toNat < ws.length := by omega
    rw [List.getD_eq_getElem?_getD, List.getElem?_eq_getElem hl]
    exact List.getElem_mem hl
  · cases h
theorem mem_walks {ws : List (List Nat)} {ss : List Int} {q : Nat × List (List Nat)} (h : q ∈ walksL ws ss) : q.1 < ws.length ∧ q.2.length = ss.length + 1 ∧ ∀ v ∈ q.2, v ∈ ws := by
  obtain ⟨p, hp, e⟩ := List.mem_filterMap.mp h
  unfold walkG at e
  obtain ⟨t, ht, rfl⟩ := Option.map_eq_some_iff.mp e
  exact ⟨List.mem_range.mp hp, mem_walk ht⟩
/-- the looks fit a walk -/
def hitB (vs : List (List Nat)) (q : Nat × List (List Nat)) : Bool := (q.2.zip vs).all fun z => decide (missN z.1 z.2 = 0)
def startsL (ws : List (List Nat)) (ss : List Int) (vs : List (List Nat)) : List Nat := ((walksL ws ss).filter (hitB vs)).map (·.1)
def stepOk (ss : List Int) : Prop := ∀ z ∈ ss, -12 ≤ z ∧ z ≤ 12
def R_starts_by (ds : List PyData) (d : PyData) : Prop := ∃ (l m : List Nat) (t1 : Bool) (vs : List (List Nat)) (t2 : Bool) (ss : List Int), ds = [sD l, sD m, seqD t1 (vs.map sD), seqD t2 (ss.map iD)] ∧ rowB l = true ∧ maskB m = true ∧ 1 ≤ vs.length ∧ vs.length ≤ 60 ∧ (∀ v ∈ vs, lookB m v = true) ∧ ss.length + 1 = vs.length ∧ stepOk ss ∧ d = nD (startsL (viewsL l m) ss vs)
theorem flat_one (n : Nat) (d : PyData) : (List.replicate n [d]).flatten = List.replicate n d := by
  induction n with
  | zero => rfl
  | succ n ih => rw [List.replicate_succ, List.replicate_succ, List.flatten_cons, ih]; rfl
end HW
set_option maxHeartbeats 4000000
namespace HW
open PySem PySem.Spec PyProof.Rows L2
open SX (S)
/-! ### three names at once; a dict displayed and asked at once -/
section
variable {X : Cx} {W W0 : Wd} {Γ : List DV} {μ : Mu} {a b c e f v1 v2 : Expr} {rest : List Stmt} {D : Ends} {pos p p1 p2 p3 apos : Pos} {n1 n2 n3 : Str} {x y z d x1 x2 : PyData}
end
end HW
set_option maxHeartbeats 4000000
namespace HW
open PySem PySem.Spec PyProof.Rows L2
open SX (S)
end HW
set_option maxHeartbeats 4000000
namespace HW
open PySem PySem.Spec PyProof.Rows L2
open SX (S)
/-! ### how many rows there are: counted by numbers -/
end HW
set_option maxHeartbeats 4000000
namespace HW
open PySem PySem.Spec PyProof.Rows L2
open SX (S)
end HW
set_option maxHeartbeats 4000000
namespace HW
open PySem PySem.Spec PyProof.Rows L2
open SX (S)
/-! ### expressions that change or make local objects -/
def EvM (X : Cx) (W : Wd) (Γ : List DV) (μ : Mu) (e : Expr) (P : PyData → Mu → Prop) : Prop := ∀ σ H, Rep X.K W Γ μ σ H → ∀ Q : VK, (∀ v d μ' H2, Rep X.K W Γ μ' σ H2 → Same (off (hd W μ) H) (off (hd W μ') H2) → Va X.K (off (hd W μ') H2) v d → P d μ' → Q v H2) → wE X e σ H Q
def EvAM (X : Cx) (W : Wd) (Γ : List DV) (μ : Mu) (es : List Expr) (P : List PyData → Mu → Prop) : Prop := ∀ σ H, Rep X.K W Γ μ σ H → ∀ Q : List V → Hp → Prop, (∀ vs ds μ' H2, Rep X.K W Γ μ' σ H2 → Same (off (hd W μ) H) (off (hd W μ') H2) → VaAll X.K (off (hd W μ') H2) vs ds → P ds μ' → Q vs H2) → wA X es σ H Q
def EvTM (X : Cx) (W : Wd) (Γ : List DV) (μ : Mu) (e : Expr) (P : Bool → Mu → Prop) : Prop := ∀ σ H, Rep X.K W Γ μ σ H → ∀ Q : Bool → Hp → Prop, (∀ b μ' H2, Rep X.K W Γ μ' σ H2 → Same (off (hd W μ) H) (off (hd W μ') H2) → P b μ' → Q b H2) → wT X e σ H Q
def EvWM (X : Cx) (W : Wd) (Γ : List DV) (μ : Mu) (e : Expr) (P : Bool → Mu → Prop) : Prop := ∀ σ H, Rep X.K W Γ μ σ H → ∀ Q : Bool → Hp → Prop, (∀ b μ' H2, Rep X.K W Γ μ' σ H2 → Same (off (hd W μ) H) (off (hd W μ') H2) → P b μ' → Q b H2) → wW X e σ H Q
section
variable {X : Cx} {W W0 : Wd} {Γ : List DV} {μ : Mu} {e a b : Expr} {es : List Expr} {rest : List Stmt} {D : Ends} {pos p p1 p2 p3 : Pos} {n n1 n2 n3 : Str} {P A : PyData → Mu → Prop} {l : Addr}
theorem Ev.m {Q : PyData → Prop} (h : Ev X W Γ μ e Q) : EvM X W Γ μ e (fun d μ' => Q d ∧ μ' = μ) := fun σ H R q k => h σ H R q fun v d H2 R2 e2 r p => k v d μ H2 R2 e2 r ⟨p, rfl⟩
theorem Ed.m {d : PyData} (h : Ed X W Γ μ e d) : EvM X W Γ μ e (fun z μ' => z = d ∧ μ' = μ) := Ev.m h.ev
theorem EvM.imp (h : EvM X W Γ μ e A) (i : ∀ d μ', A d μ' → P d μ') : EvM X W Γ μ e P := fun σ H R q k => h σ H R q fun v d μ' H2 R2 e2 r p => k v d μ' H2 R2 e2 r (i d μ' p)
/-- where the local objects stay as they are -/
theorem EvM.ev {Q : PyData → Prop} (h : EvM X W Γ μ e (fun d μ' => Q d ∧ μ' = μ)) : Ev X W Γ μ e Q := fun σ H R q k => h σ H R q fun v d μ' H2 R2 e2 r ⟨p, eq⟩ => by
  subst eq
  exact k v d H2 R2 e2 r p
theorem EvM.ed {d : PyData} (h : EvM X W Γ μ e (fun z μ' => z = d ∧ μ' = μ)) : Ed X W Γ μ e d := (EvM.ev h).ed
theorem EvT.m {Q : Bool → Prop} (h : EvT X W Γ μ e Q) : EvTM X W Γ μ e (fun d μ' => Q d ∧ μ' = μ) := fun σ H R q k => h σ H R q fun b H2 R2 e2 p => k b μ H2 R2 e2 ⟨p, rfl⟩
theorem EdT.m {k : Bool} (h : EdT X W Γ μ e k) : EvTM X W Γ μ e (fun z μ' => z = k ∧ μ' = μ) := EvT.m (h.ev (P := fun z => z = k) rfl)
theorem EvTM.imp {P A : Bool → Mu → Prop} (h : EvTM X W Γ μ e A) (i : ∀ d μ', A d μ' → P d μ') : EvTM X W Γ μ e P := fun σ H R q k => h σ H R q fun b μ' H2 R2 e2 p => k b μ' H2 R2 e2 (i b μ' p)
theorem eam_nil : EvAM X W Γ μ [] (fun ds μ' => ds = [] ∧ μ' = μ) := fun σ H R q k => pa_nil.w (k [] [] μ H R (Same.refl _) .nil ⟨rfl, rfl⟩)
theorem eam_cons {B : PyData → Mu → List PyData → Mu → Prop} (h : EvM X W Γ μ e A) (hr : ∀ d μ1, A d μ1 → EvAM X W Γ μ1 es (B d μ1)) (hs : starEach (e :: es) X.env = (false, eval e X.env) :: starEach es X.env := by rfl) : EvAM X W Γ μ (e :: es) (fun ds μ' => ∃ d μ1 r, A d μ1 ∧ B d μ1 r μ' ∧ ds = d :: r) := fun σ H R q k =>
  (pa_cons wE.pe wA.pa hs).w (h σ H R _ fun v d μ1 H2 R2 s2 r2 p2 => hr d μ1 p2 σ H2 R2 _ fun vs ds μ2 H3 R3 s3 r3 p3 => k _ _ μ2 H3 R3 (same_trans s2 s3) (.cons (r2.up s3) r3) ⟨d, μ1, ds, p2, p3, rfl⟩)
theorem EvAM.imp {P A : List PyData → Mu → Prop} (h : EvAM X W Γ μ es A) (i : ∀ d μ', A d μ' → P d μ') : EvAM X W Γ μ es P := fun σ H R q k => h σ H R q fun v d μ' H2 R2 e2 r p => k v d μ' H2 R2 e2 r (i d μ' p)
theorem EvWM.t {P : Bool → Mu → Prop} (h : EvWM X W Γ μ e P) : EvTM X W Γ μ e P := fun σ H R q k => wW.pw.pt.w (h σ H R q k)
/-- a slot whose place is known -/
theorem run_toR (i : Nat) (l : Addr) (h : Run X W (Γ.set i (.r l)) μ rest D) (hi : Γ[i]? = some (.d (ptD l)) := by rfl) : Run X W Γ μ rest D := fun σ H R => h σ H ⟨R.wd, R.fr, Slots.toR R.sl hi, R.mu, R.nd⟩
/-- a name whose place is known, as data -/
theorem ed_ptr (i : Nat) {a : Addr} (hi : Γ[i]? = some (.r a) := by rfl) (hN : X.N[i]? = some n := by rfl) (hv : Vis X.env.scope n := by first | exact Or.inl rfl | exact Or.inr (Or.inl rfl) | exact Or.inr (Or.inr rfl))
    (h1 : (n == ("__debug__" : Str)) = false := by decide) (h2 : (n == ("__classdict__" : Str)) = false := by decide) : Ed X W Γ μ (.Name n pos) (ptD a) := fun σ H R Q q => by
  refine (pe_var hN hv h1 h2).w ?_
  obtain ⟨o, e1, e2⟩ := R.sl.at_ i _ hi
  have e2' : o = some (.ref a) := e2
  subst e2'
  exact ⟨_, e1, q _ H R XT.refl (.ptr a)⟩
/-- return, where the local objects are looked at -/
theorem run_retR {d : PyData} (he : Ed X W Γ μ e d) (hD : ∀ v σ H, Rep X.K W Γ μ σ H → Va X.K (off (hd W μ) H) v d → D.rt v H) : Run X W Γ μ (.Return (some e) pos :: rest) D := fun σ H R =>
  wSs_cons ((ps_ret wE.pe).w (he σ H R _ fun v H2 R2 e2 r => hD v σ H2 R2 r))
end
end HW
set_option maxHeartbeats 4000000
namespace HW
open PySem PySem.Spec PyProof.Rows L2
open SX (S)
/-! ### instances of a class of the program -/
abbrev FvR (K : PySem.W.Frag) (H : Hp) (gs : List (Str × V)) (fs : List (Str × PyData)) : Prop := Paired (fun (p : Str × V) (q : Str × PyData) => p.1 = q.1 ∧ Va K H p.2 q.2) gs fs
section
variable {K : PySem.W.Frag} {H H' : Hp} {gs : List (Str × V)} {fs : List (Str × PyData)}
theorem FvR.up (e : Same H H') (h : FvR K H gs fs) : FvR K H' gs fs := pmp h fun _ _ z => ⟨z.1, z.2.up e⟩
end
section
variable {P : Program} {w : World} {K : PySem.W.Frag} {mg : Str → Option Value} {base : Heap} {x qual : Str} {params : Arguments} {body : List Stmt} {scope : Scope} {f : Addr} {fd : FuncData} {N ps : List Str} {k : Nat}
end
/-- a method of a class, ready to be called -/
structure FdM (P : Program) (w : World) (K : PySem.W.Frag) (mg : Str → Option Value) (base : Heap) (k : Nat) (C : Addr) (m : Str) (ps : List Str) (sp : Sp) : Prop where
  ex : ∃ (f : Addr) (fd : FuncData), FnOk P w K mg base CX0 k f fd ps sp ∧ Meth K C m f ∧ Binds K fd ps []
theorem FdM.mono {P : Program} {w : World} {K : PySem.W.Frag} {mg : Str → Option Value} {base : Heap} {j k : Nat} {C : Addr} {m : Str} {ps : List Str} {sp : Sp} (F : FdM P w K mg base j C m ps sp) (h : j ≤ k) : FdM P w K mg base k C m ps sp := by
  obtain ⟨f, fd, h1, h2, h3⟩ := F.ex
  exact ⟨f, fd, h1.mono h, h2, h3⟩
section
variable {X : Cx} {W W0 : Wd} {Γ : List DV} {μ : Mu} {e value : Expr} {es : List Expr} {rest : List Stmt} {D : Ends} {pos p p1 p2 pos' apos : Pos} {n m fn : Str} {a C : Addr} {fs : List (Str × PyData)} {ds : List PyData} {d : PyData} {k : Nat} {ps : List Str}
end
end HW
set_option maxHeartbeats 4000000
namespace HW
open PySem PySem.Spec PyProof.Rows L2
open SX (S)
/-! ### a class that is made, a method that is called, and raises -/
section
variable {X : Cx} {CX : CXT} {k : Nat} {f C : Addr} {fd : FuncData} {ps : List Str} {sp : Sp} {E : L2.St → XK} {x m : Str} {p pos apos : Pos} {e o : Expr} {es : List Expr} {ta : TE} {t : TA}
end
/-- a class whose making raises -/
structure MkX (P : Program) (w : World) (K : PySem.W.Frag) (mg : Str → Option Value) (base : Heap) (k : Nat) (x : Str) (ps : List Str) (R : List PyData → Str → Option (Str × PyData) → Prop) : Prop where
  ex : ∃ (C f : Addr) (fd : FuncData) (j : Nat), j < k ∧ mg x = some (.ref C) ∧ Mk K C f ∧ FnOk P w K mg base (L2.CX P w) j f fd ps (spX K R) ∧ Binds K fd ps []
theorem MkX.mono {P : Program} {w : World} {K : PySem.W.Frag} {mg : Str → Option Value} {base : Heap} {j k : Nat} {x : Str} {ps : List Str} {R : List PyData → Str → Option (Str × PyData) → Prop} (F : MkX P w K mg base j x ps R) (h : j ≤ k) : MkX P w K mg base k x ps R := by
  obtain ⟨C, f, fd, i, h0, h1, h2, h3, h4⟩ := F.ex
  exact ⟨C, f, fd, i, Nat.lt_of_lt_of_le h0 h, h1, h2, h3, h4⟩
section
variable {X : Cx} {W : Wd} {Γ : List DV} {μ : Mu} {e : Expr} {es : List Expr} {ds : List PyData} {x f : Str} {fo : Option (Str × PyData)} {ps : List Str} {k : Nat} {p pos : Pos} {W0 : WX} {R : List PyData → Str → Option (Str × PyData) → Prop}
end
/-! ### masks and rows refused -/
end HW
namespace HW
open PySem PySem.Spec PyProof.Rows L2
open SX (S)
section
variable {X : Cx} {W : Wd} {Γ : List DV} {μ : Mu} {a b : Expr} {pos : Pos}
end
end HW
set_option maxHeartbeats 4000000
namespace HW
open PySem PySem.Spec PyProof.Rows L2
open SX (S)
/-! ### attributes as targets; len of an instance; an instance that is told -/
section
variable {X : Cx} {o : Expr} {f : Str} {pos : Pos} {to : TE}
end
section
variable {X : Cx} {W W0 : Wd} {Γ : List DV} {μ : Mu} {e value : Expr} {es : List Expr} {rest : List Stmt} {D : Ends} {pos p p1 p2 q1 q2 pos' apos : Pos} {n m f1 f2 : Str} {a C : Addr} {fs : List (Str × PyData)} {ds : List PyData} {d x y : PyData} {k : Nat} {ps : List Str}
end
end HW
set_option maxHeartbeats 4000000
namespace HW
open PySem PySem.Spec PyProof.Rows L2
open SX (S)
/-- a class of the program, ready to be made -/
structure MkT (P : Program) (w : World) (K : PySem.W.Frag) (mg : Str → Option Value) (base : Heap) (k : Nat) (C : Addr) (x : Str) (ps : List Str) (sp : Sp) : Prop where
  ex : ∃ (f : Addr) (fd : FuncData) (j : Nat), j < k ∧ mg x = some (.ref C) ∧ Mk K C f ∧ FnOk P w K mg base CX0 j f fd ps sp ∧ Binds K fd ps []
theorem MkT.mono {P : Program} {w : World} {K : PySem.W.Frag} {mg : Str → Option Value} {base : Heap} {j k : Nat} {C : Addr} {x : Str} {ps : List Str} {sp : Sp} (F : MkT P w K mg base j C x ps sp) (h : j ≤ k) : MkT P w K mg base k C x ps sp := by
  obtain ⟨f, fd, i, h0, h1, h2, h3, h4⟩ := F.ex
  exact ⟨f, fd, i, Nat.lt_of_lt_of_le h0 h, h1, h2, h3, h4⟩
section
variable {P : Program} {w : World} {K : PySem.W.Frag} {mg : Str → Option Value} {base : Heap} {x qual : Str} {params : Arguments} {body : List Stmt} {scope : Scope} {f : Addr} {fd : FuncData} {N ps : List Str} {k : Nat}
end
section
variable {X : Cx} {W W0 : Wd} {Γ : List DV} {μ : Mu} {e value : Expr} {es : List Expr} {rest : List Stmt} {D : Ends} {pos p p1 p2 q1 q2 pos' apos : Pos} {n m f1 f2 : Str} {a C : Addr} {fs : List (Str × PyData)} {ds : List PyData} {d x y : PyData} {k : Nat} {ps : List Str}
end
end HW
set_option maxHeartbeats 4000000
namespace HX
open PySem PySem.Spec PyProof.Rows L2 He
/-! the head's Hook with getters of properties -/
def prA (K : PySem.W.Frag) (p : Str × Option Str) : Addr := match PySem.W.recIn K (ma K (ga K p.1) (p.2.getD "")) "property" with
  | some (.ref g :: _) => g
  | _ => 0
def fnA (K : PySem.W.Frag) (a : Addr) : FnW := match K.lookup a with
  | some ⟨_, _, .func fd, _⟩ => some (fd.name, fd.qualname, fd.params, fd.body, fd.scope, fd.globals, fd.closure, fd.builtins)
  | _ => none
def okA (K : PySem.W.Frag) (a : Addr) (d : DefD) : Bool := PySem.W.keepIn K (.ref a) && (match K.lookup a with
  | some ⟨_, _, .func fd, _⟩ => PySem.W.codeIn K fd.code d.qual && (dflB K fd.defaults (d.dvs K) && kwdB K fd.kwdefaults (d.kws K))
  | _ => false)
theorem funD_at {K : PySem.W.Frag} {d : DefD} {a : Addr} (e : fnA K a = d.val) (c : okA K a d = true) : ∃ fd, FunD K d.name d.qual d.params d.body d.scope (d.dvs K) (d.kws K) a fd := by
  obtain ⟨kp, c2⟩ := ba c
  unfold fnA at e
  cases q : K.lookup a with
  | none =>
    rw [q] at c2
    cases c2
  | some o =>
    obtain ⟨oc, od, dt, osl⟩ := o
    rw [q] at c2 e
    cases dt with
    | func fd =>
      obtain ⟨n1, n2, n3, n4, n5, n6, n7, n8, n9, n10, n11, n12, n13, n14, n15⟩ := fd
      have e2 : (some (n1, n2, n3, n4, n5, n6, n7, n15) : FnW) = some (d.name, d.qual, d.params, .stmts d.body, d.scope, mainGlobals, [], builtinsNs) := e
      simp only [Option.some.injEq, Prod.mk.injEq] at e2
      obtain ⟨h1, h2, h3, h4, h5, h6, h7, h8⟩ := e2
      subst h1 h2 h3 h4 h5 h6 h7 h8
      have c3 : (PySem.W.codeIn K n13 d.qual && (dflB K n8 (d.dvs K) && kwdB K n9 (d.kws K))) = true := c2
      obtain ⟨k1, k2⟩ := ba c3
      obtain ⟨k3, k4⟩ := ba k2
      exact ⟨_, ⟨oc, od, n8, n9, n10, n11, n12, n13, n14, osl, rfl, q, k1, dflB_ok k3, kwdB_ok k4⟩, kp⟩
    | _ => cases c2
def obsQ (pn : List DefD) (K : PySem.W.Frag) : AlD := (pn.all fun d => okA K (prA K d.at_) d, pn.map fun d => fnA K (prA K d.at_))
def SaysP (pn : List DefD) (K : PySem.W.Frag) : Prop := obsQ pn K = valD pn
theorem SaysP.def_ {pn : List DefD} {K : PySem.W.Frag} (c : SaysP pn K) (i : Nat) {d : DefD} (h : pn[i]? = some d := by rfl) : ∃ fd, FunD K d.name d.qual d.params d.body d.scope (d.dvs K) (d.kws K) (prA K d.at_) fd := by
  have c2 : (pn.all fun d => okA K (prA K d.at_) d) = true := congrArg (fun z : AlD => z.1) c
  have e : pn.map (fun d => fnA K (prA K d.at_)) = pn.map DefD.val := congrArg (fun z : AlD => z.2) c
  have e2 : (pn.map fun d => fnA K (prA K d.at_))[i]? = (pn.map DefD.val)[i]? := by rw [e]
  rw [List.getElem?_map, List.getElem?_map, h] at e2
  exact funD_at (Option.some.inj e2) (List.all_eq_true.mp c2 d (List.mem_of_getElem? h))
end HX
namespace HW
open PySem PySem.Spec PyProof.Rows L2
open SX (S)
/-- a property of a class, ready to be read -/
structure FdP (P : Program) (w : World) (K : PySem.W.Frag) (mg : Str → Option Value) (base : Heap) (k : Nat) (C : Addr) (m : Str) (ps : List Str) (sp : Sp) : Prop where
  ex : ∃ (p g : Addr) (fd : FuncData), FnOk P w K mg base CX0 k g fd ps sp ∧ PropOf K C m p g ∧ Binds K fd ps []
theorem FdP.mono {P : Program} {w : World} {K : PySem.W.Frag} {mg : Str → Option Value} {base : Heap} {j k : Nat} {C : Addr} {m : Str} {ps : List Str} {sp : Sp} (F : FdP P w K mg base j C m ps sp) (h : j ≤ k) : FdP P w K mg base k C m ps sp := by
  obtain ⟨p, g, fd, h1, h2, h3⟩ := F.ex
  exact ⟨p, g, fd, h1.mono h, h2, h3⟩
/-- a method that raises and leaves all as it is -/
def spXT (K : PySem.W.Frag) (C : Addr) (R : List (Str × PyData) → List PyData → Str → Option (Str × PyData) → Prop) : Sp := fun vs H Q E => ∃ (L : List Addr) (a dx : Addr) (gs : List (Str × V)) (fs : List (Str × PyData)) (ws : List V) (ds : List PyData) (x : Str) (fo : Option (Str × PyData)), vs = .ref a :: ws ∧ (∀ b ∈ L, H b ≠ none) ∧ H a = some (.ins C dx gs) ∧ FvR K (off L H) gs fs ∧ VaAll K (off L H) ws ds ∧ R fs ds x fo ∧ ∀ cls d H', XO K L H H' x fo cls d → E cls d H'
structure FdMX (P : Program) (w : World) (K : PySem.W.Frag) (mg : Str → Option Value) (base : Heap) (k : Nat) (C : Addr) (m : Str) (ps : List Str) (R : List (Str × PyData) → List PyData → Str → Option (Str × PyData) → Prop) : Prop where
  ex : ∃ (f : Addr) (fd : FuncData), FnOk P w K mg base (L2.CX P w) k f fd ps (spXT K C R) ∧ Meth K C m f ∧ Binds K fd ps []
theorem FdMX.mono {P : Program} {w : World} {K : PySem.W.Frag} {mg : Str → Option Value} {base : Heap} {j k : Nat} {C : Addr} {m : Str} {ps : List Str} {R : List (Str × PyData) → List PyData → Str → Option (Str × PyData) → Prop} (F : FdMX P w K mg base j C m ps R) (h : j ≤ k) : FdMX P w K mg base k C m ps R := by
  obtain ⟨f, fd, h1, h2, h3⟩ := F.ex
  exact ⟨f, fd, h1.mono h, h2, h3⟩
section
variable {P : Program} {w : World} {K : PySem.W.Frag} {mg : Str → Option Value} {base : Heap} {x qual : Str} {params : Arguments} {body : List Stmt} {scope : Scope} {f : Addr} {fd : FuncData} {N ps : List Str} {k : Nat}
end
section
variable {X : Cx} {W : Wd} {Γ : List DV} {μ : Mu} {e : Expr} {es : List Expr} {rest : List Stmt} {D : Ends} {pos p apos : Pos} {n m fn x : Str} {a C dx : Addr} {gs : List (Str × V)} {fs : List (Str × PyData)} {ds : List PyData} {d : PyData} {k : Nat} {ps : List Str} {fo : Option (Str × PyData)} {W0 : WX} {R : List (Str × PyData) → List PyData → Str → Option (Str × PyData) → Prop}
end
end HW
set_option maxHeartbeats 4000000
namespace HW
open PySem PySem.Spec PyProof.Rows L2
open SX (S)
section
variable {X : Cx} {W : Wd} {Γ : List DV} {μ : Mu} {a : Expr} {pos p p2 pos2 : Pos} {ds : List PyData} {d : PyData}
end
/-! ### trackers -/
structure OkT (l m : List Nat) (ts : List (List Nat)) : Prop where
  row : rowB l = true
  mask : maskB m = true
  few : ts.length ≤ 900
  looks : ∀ v ∈ ts, lookB m v = true
end HW
set_option maxHeartbeats 4000000
namespace HW
open PySem PySem.Spec PyProof.Rows L2
open SX (S)
/-! ### law 22's words -/
theorem OkT.drop {l m : List Nat} {ts : List (List Nat)} (h : OkT l m ts) : OkT l m ts.dropLast := ⟨h.row, h.mask, by rw [List.length_dropLast]; have := h.few; omega, fun u hu => h.looks u (List.dropLast_subset _ hu)⟩
/-- some of the local objects, in another order -/
theorem Rep.sub {K : PySem.W.Frag} {W : Wd} {Γ : List DV} {μ μ' : Mu} {σ : L2.St} {H : Hp} (R : Rep K W Γ μ σ H) (s : ∀ p ∈ μ', p ∈ μ) (nd : (μ.map (·.1)).Nodup → (μ'.map (·.1)).Nodup) : Rep K W Γ μ' σ H := by
  have sub : Same (off (hd W μ) H) (off (hd W μ') H) := same_offs fun a ha => by
    rcases List.mem_append.mp ha with z | z
    · exact List.mem_append_left _ z
    · obtain ⟨p, hp, rfl⟩ := List.mem_map.mp z
      exact List.mem_append_right _ (List.mem_map.mpr ⟨p, s p hp, rfl⟩)
  exact ⟨R.wd, R.fr, R.sl.up sub, fun p hp => ⟨(R.mu p (s p hp)).1, (R.mu p (s p hp)).2.up sub fun _ z => z⟩, nd R.nd⟩
section
variable {X : Cx} {W : Wd} {Γ : List DV} {μ μ' : Mu} {e : Expr} {es : List Expr} {rest : List Stmt} {D : Ends} {pos p p2 : Pos} {n : Str} {a C : Addr} {fs : List (Str × PyData)} {ds : List PyData} {k : Nat} {ps : List Str}
theorem run_mu (s : ∀ p ∈ μ', p ∈ μ) (nd : (μ.map (·.1)).Nodup → (μ'.map (·.1)).Nodup) (h : Run X W Γ μ' rest D) : Run X W Γ μ rest D := fun σ H R => h σ H (R.sub s nd)
end
end HW
set_option maxHeartbeats 4000000
namespace HW
open PySem PySem.Spec PyProof.Rows L2
open SX (S)
/-! ### isinstance of a caught exception, with or without a dict -/
structure IsxC (K : PySem.W.Frag) (D : Addr) : Prop where
  ga : PySem.W.findIn K (.ref D) "__getattribute__" = some (some (.builtin "BaseException.__getattribute__"))
  gg : PySem.W.findIn K (.ref D) "__getattr__" = some none
  ex : PySem.W.subIn K (.ref D) (.type "BaseException") = some true
  hd : PySem.W.hasDictIn K D = true
  ha : PySem.W.findIn K (.ref D) "__class__" = some (some (.builtin "object.__class__"))
  hn : PySem.W.specialIn K (.builtin "object.__class__") "__get__" = some (some (.builtin "getset_descriptor.__get__"))
  ht : PySem.W.takesIn K (.builtin "object.__class__") = some true
  hm : PySem.W.mroIn K D (.type "object") = some true
def isxB (x : Str) (K : PySem.W.Frag) : Bool := decide (PySem.W.findIn K (.ref (He.ga K x)) "__getattribute__" = some (some (.builtin "BaseException.__getattribute__"))) && (decide (PySem.W.findIn K (.ref (He.ga K x)) "__getattr__" = some none) && (decide (PySem.W.subIn K (.ref (He.ga K x)) (.type "BaseException") = some true) && (PySem.W.hasDictIn K (He.ga K x) &&
  (decide (PySem.W.findIn K (.ref (He.ga K x)) "__class__" = some (some (.builtin "object.__class__"))) && (decide (PySem.W.specialIn K (.builtin "object.__class__") "__get__" = some (some (.builtin "getset_descriptor.__get__"))) && (decide (PySem.W.takesIn K (.builtin "object.__class__") = some true) && decide (PySem.W.mroIn K (He.ga K x) (.type "object") = some true)))))))
theorem isxB_ok {K : PySem.W.Frag} {x : Str} (c : isxB x K = true) : IsxC K (He.ga K x) := by
  unfold isxB at c
  obtain ⟨h1, c⟩ := Bool.and_eq_true_iff.mp c
  obtain ⟨h2, c⟩ := Bool.and_eq_true_iff.mp c
  obtain ⟨h3, c⟩ := Bool.and_eq_true_iff.mp c
  obtain ⟨h4, c⟩ := Bool.and_eq_true_iff.mp c
  obtain ⟨h5, c⟩ := Bool.and_eq_true_iff.mp c
  obtain ⟨h6, c⟩ := Bool.and_eq_true_iff.mp c
  obtain ⟨h7, h8⟩ := Bool.and_eq_true_iff.mp c
  exact ⟨of_decide_eq_true h1, of_decide_eq_true h2, of_decide_eq_true h3, h4, of_decide_eq_true h5, of_decide_eq_true h6, of_decide_eq_true h7, of_decide_eq_true h8⟩
/-- whether an instance of x is one of c -/
def IsK (K : PySem.W.Frag) (x c : Str) (b : Bool) : Prop := PySem.W.kitOne K (.ref (He.ga K x)) (.ref (He.ga K c)) = some b
def isKB (x c : Str) (b : Bool) (K : PySem.W.Frag) : Bool := decide (PySem.W.kitOne K (.ref (He.ga K x)) (.ref (He.ga K c)) = some b)
theorem isKB_ok {K : PySem.W.Frag} {x c : Str} {b : Bool} (h : isKB x c b K = true) : IsK K x c b := of_decide_eq_true (p := PySem.W.kitOne K (.ref (He.ga K x)) (.ref (He.ga K c)) = some b) h
/-- the exception's dict, where it has one -/
def DxOk (d : Option Addr) (H : Hp) : Prop := d = none ∨ ∃ dd fs, d = some dd ∧ H dd = some (.xd fs)
def rIsE1 (K : PySem.W.Frag) (D a : Addr) (d : Option Addr) : List V → Hp → VK → Prop := fun xs H Q => ∃ (c : V) (cv : Value) (b : Bool), xs = [.ref a, c] ∧ DxOk d H ∧ ClsV c cv ∧ PySem.W.kitOne K (.ref D) cv = some b ∧ Q (.bl b) H
def rIsE2 (K : PySem.W.Frag) (D a : Addr) (d : Option Addr) : List V → Hp → VK → Prop := fun xs H Q => ∃ (tp : Addr) (cs : List V) (us : List Value) (b : Bool), xs = [.ref a, .ref tp] ∧ DxOk d H ∧ H tp = some (.tup cs) ∧ Paired ClsV cs us ∧ PySem.W.kitAny K (.ref D) us = some b ∧ Q (.bl b) H
section
variable {X : Cx} {a D : Addr} {oe : Obj} {pn : List (Addr × Obj)} {d : Option Addr}
theorem isx_inst {pins : List (Addr × Obj)} {σ : L2.St} {H : Hp} {s : Shared} (I : Inv (X.suite a ((a, oe) :: pn)) pins σ H s) (hz : Zc (.ref D) d oe) (hf : ∃ vs, oe.data = .fields vs) (hx : DxOk d H) : ∃ od, PySem.W.InstAt s.heap a oe D od := by
  obtain ⟨hget, _⟩ := I.pin (a, oe) (List.mem_append.mpr (.inl List.mem_cons_self))
  obtain ⟨vs, hv⟩ := hf
  have nc : PySem.W.notCls oe = true := by unfold PySem.W.notCls; rw [hv] <;> rfl
  rcases hx with rfl | ⟨dd, fs, rfl, hd⟩
  · exact ⟨none, hget, hz.1, nc, by rw [hz.2]; trivial⟩
  · have hx : ObjOk X.prog X.w H s.heap dd (.xd fs) := I.hok dd _ hd
    obtain ⟨mA, hns, hr⟩ := hx
    obtain ⟨od, ho, hl⟩ := lookIn_ns hns
    exact ⟨some od, hget, hz.1, nc, by rw [hz.2]; exact ho⟩
theorem isx_kit (C : IsxC X.K D) (od : Option Obj) : PySem.W.KitX X.K (.ref a) (.ref D) (fun h => PySem.W.InstAt h a oe D od) := PySem.W.kitx_exc (by
  obtain ⟨cd, hc, _⟩ := PySem.W.any_some C.hd
  rw [hc]
  rfl) C.ga C.gg C.ex C.ha C.hn C.ht C.hm
theorem call_isE1 (C : IsxC X.K D) (hz : Zc (.ref D) d oe) (hf : ∃ vs, oe.data = .fields vs) : CallR (X.suite a ((a, oe) :: pn)) (.builtin "isinstance") (rIsE1 X.K D a d) := by
  intro pins s σ H xs us Q I r h
  obtain ⟨c, cv, b, rfl, hx, hcv, e, q⟩ := h
  obtain ⟨od, J⟩ := isx_inst I hz hf hx
  cases r with
  | cons rx rr =>
    cases rr with
    | cons rt rr =>
      cases rr
      cases rx
      have ec := hcv.eq rt
      subst ec
      exact PySem.W.kia_one (isx_kit C od) I.kIn J e (fun z => nomatch z) fun tk => ⟨.bl b, H, I.kept (t' := tk) fun _ _ z => z, rfl, q⟩
theorem call_isE2 (C : IsxC X.K D) (hz : Zc (.ref D) d oe) (hf : ∃ vs, oe.data = .fields vs) : CallR (X.suite a ((a, oe) :: pn)) (.builtin "isinstance") (rIsE2 X.K D a d) := by
  intro pins s σ H xs us Q I r h
  obtain ⟨tp, cs, ws, b, rfl, hx, hT, k, e, q⟩ := h
  obtain ⟨od0, J⟩ := isx_inst I hz hf hx
  obtain ⟨u1, u2, rfl, r1, r2⟩ := vals2 r
  cases (show u1 = Value.ref a from r1)
  cases (show u2 = Value.ref tp from r2)
  obtain ⟨_, its, rv, o, h1, h2, n, h3⟩ := (show ObjOk X.prog X.w H s.heap tp (.tup cs) from I.hok tp _ hT)
  have e3 := ClsV.all k rv
  subst e3
  obtain ⟨oc, od, dt, sl⟩ := o
  simp only at h2 h3
  subst h2 h3
  exact PySem.W.kia_tup (isx_kit C od0) I.kIn J h1 e (fun z => nomatch z) fun tk => ⟨.bl b, H, I.tok tk, rfl, q⟩
end
section
variable {X : Cx} {W W1 : Wd} {Γ Γ' : List DV} {μ : Mu} {xr c c1 c2 n : Str} {fo : Option (Str × PyData)} {a : Addr} {oe : Obj} {pn : List (Addr × Obj)} {cls : Value} {d : Option Addr} {pos p q1 q2 q3 pt : Pos} {b : Bool}
theorem Caught.dx {X : Cx} {W W1 : Wd} {Γ Γ' : List DV} {μ μ' : Mu} {xr : Str} {fo : Option (Str × PyData)} {a : Addr} {oe : Obj} {cls : Value} {d : Option Addr} {σ : L2.St} {H : Hp} (c : Caught X W W1 Γ μ xr fo a oe cls d) (R : Rep X.K W1 Γ' μ' σ H) : DxOk d H := by
  have h := c.fld
  cases fo with
  | none => exact .inl h
  | some fy =>
    obtain ⟨dd, v, e1, e2⟩ := h
    exact .inr ⟨dd, _, e1, (e2 σ H Γ' μ' R).1⟩
/-- isinstance(e, C) -/
theorem ed_isE (i : Nat) (C : IsxC X.K (He.ga X.K xr)) (hc : X.mg c = some (.ref (He.ga X.K c))) (hk : IsK X.K xr c b) (cg : Caught X W W1 Γ μ xr fo a oe cls d) (hm : X.mg "isinstance" = none)
    (hi : Γ'[i]? = some (.r a) := by rfl) (hN : X.N[i]? = some n := by rfl) (hv : Vis X.env.scope n := by first | exact Or.inl rfl | exact Or.inr (Or.inl rfl) | exact Or.inr (Or.inr rfl)) (h1 : (n == ("__debug__" : Str)) = false := by decide) (h2 : (n == ("__classdict__" : Str)) = false := by decide)
    (hg : Gl X "isinstance" := by rfl) (hgc : Gl X c := by rfl) (hdb : (c == ("__debug__" : Str)) = false := by decide)
    (hs : starEach [.Name n q1, .Name c q2] X.env = (false, eval (.Name n q1) X.env) :: starEach [.Name c q2] X.env := by rfl) (hs2 : starEach [.Name c q2] X.env = (false, eval (.Name c q2) X.env) :: starEach [] X.env := by rfl) (hpl : (backTo pos (starEach [.Name c q2] X.env)).any (·.1) = false := by rfl) :
    Ed (X.suite a ((a, oe) :: pn)) W1 Γ' μ (.Call (.Name "isinstance" p) [.Name n q1, .Name c q2] [] pos) (.bool b) := fun σ H R Q k => by
  have hz : Zc (.ref (He.ga X.K xr)) d oe := cg.cls ▸ cg.z
  refine (pe_callB (X := X.suite a ((a, oe) :: pn)) (call_isE1 C hz cg.fields) hg hm boot_isinstance (pa_cons (pe_var (X := X.suite a ((a, oe) :: pn)) (i := i) hN hv h1 h2) (pa_cons (pe_glob hgc hc (v := .ref (He.ga X.K c)) rfl hdb) pa_nil hs2) hs) (by decide) (by decide) hs hpl).w ?_
  obtain ⟨o, g1, g2⟩ := R.sl.at_ i _ hi
  have g2' : o = some (.ref a) := g2
  subst g2'
  exact ⟨_, g1, _, _, b, rfl, cg.dx R, .own _, hk, k _ H R XT.refl (.bl b)⟩
/-- isinstance(e, (A, B)) -/
theorem ed_isE2 {kt : Nat} {b1 b2 : Bool} (i : Nat) (C : IsxC X.K (He.ga X.K xr)) (hc1 : X.mg c1 = some (.ref (He.ga X.K c1))) (hc2 : X.mg c2 = some (.ref (He.ga X.K c2))) (hk1 : IsK X.K xr c1 b1) (hk2 : IsK X.K xr c2 b2) (cg : Caught X W W1 Γ μ xr fo a oe cls d) (hm : X.mg "isinstance" = none)
    (hi : Γ'[i]? = some (.r a) := by rfl) (hN : X.N[i]? = some n := by rfl) (hv : Vis X.env.scope n := by first | exact Or.inl rfl | exact Or.inr (Or.inl rfl) | exact Or.inr (Or.inr rfl)) (h1 : (n == ("__debug__" : Str)) = false := by decide) (h2 : (n == ("__classdict__" : Str)) = false := by decide)
    (hg : Gl X "isinstance" := by rfl) (hg1 : Gl X c1 := by rfl) (hg2 : Gl X c2 := by rfl) (hd1 : (c1 == ("__debug__" : Str)) = false := by decide) (hd2 : (c2 == ("__debug__" : Str)) = false := by decide)
    (hs : starEach [.Name n q1, .Tuple [.Name c1 q2, .Name c2 q3] kt pt] X.env = (false, eval (.Name n q1) X.env) :: starEach [.Tuple [.Name c1 q2, .Name c2 q3] kt pt] X.env := by rfl) (hs2 : starEach [.Tuple [.Name c1 q2, .Name c2 q3] kt pt] X.env = (false, eval (.Tuple [.Name c1 q2, .Name c2 q3] kt pt) X.env) :: starEach [] X.env := by rfl) (hpl : (backTo pos (starEach [.Tuple [.Name c1 q2, .Name c2 q3] kt pt] X.env)).any (·.1) = false := by rfl)
    (hs3 : starEach [.Name c1 q2, .Name c2 q3] X.env = (false, eval (.Name c1 q2) X.env) :: starEach [.Name c2 q3] X.env := by rfl) (hs4 : starEach [.Name c2 q3] X.env = (false, eval (.Name c2 q3) X.env) :: starEach [] X.env := by rfl) :
    Ed (X.suite a ((a, oe) :: pn)) W1 Γ' μ (.Call (.Name "isinstance" p) [.Name n q1, .Tuple [.Name c1 q2, .Name c2 q3] kt pt] [] pos) (.bool (b1 || b2)) := fun σ H R Q k => by
  have hz : Zc (.ref (He.ga X.K xr)) d oe := cg.cls ▸ cg.z
  refine (pe_callB (X := X.suite a ((a, oe) :: pn)) (call_isE2 C hz cg.fields) hg hm boot_isinstance (pa_cons (pe_var (X := X.suite a ((a, oe) :: pn)) (i := i) hN hv h1 h2) (pa_cons (pe_tup (pa_cons (pe_glob hg1 hc1 (v := .ref (He.ga X.K c1)) rfl hd1) (pa_cons (pe_glob hg2 hc2 (v := .ref (He.ga X.K c2)) rfl hd2) pa_nil hs4) hs3)) pa_nil hs2) hs) (by decide) (by decide) hs hpl).w ?_
  obtain ⟨o, g1, g2⟩ := R.sl.at_ i _ hi
  have g2' : o = some (.ref a) := g2
  subst g2'
  refine ⟨_, g1, by show 2 ≤ sizeLine; decide, fun t ht => ?_⟩
  have sm := same_new (o := HO.tup [.ref (He.ga X.K c1), .ref (He.ga X.K c2)]) ht
  refine ⟨t, _, _, _, rfl, cg.dx (R.same sm), upd_same, .cons (.own _) (.cons (.own _) .nil), ?_, k _ _ (R.same sm) (XT.same sm) (.bl (b1 || b2))⟩
  refine kitAny_cons hk1 (fun e => ?_) (fun e => by rw [e]; rfl)
  rw [e, Bool.false_or]
  refine kitAny_cons hk2 (fun e => ?_) (fun e => e)
  rw [e]
  rfl
end
end HW
set_option maxHeartbeats 4000000
namespace HW
open PySem PySem.Spec PyProof.Rows L2
open SX (S)
/-! ### a list that is told is new -/
def spN (K : PySem.W.Frag) (R : List PyData → PyData → Prop) : Sp := fun vs H Q _ => ∃ (L : List Addr) (ds ys : List PyData), (∀ a ∈ L, H a ≠ none) ∧ VaAll K (off L H) vs ds ∧ R ds (.list ys) ∧
  ∀ l H' us, H l = none → Same H H' → H' l = some (.lst us) → VaAll K (off (l :: L) H') us ys → Q (.ref l) H'
def RetN (K : PySem.W.Frag) (W : Wd) (P : PyData → Prop) : VK := fun v H => Fr W H ∧ ∃ l us ys, P (.list ys) ∧ v = .ref l ∧ W.H0 l = none ∧ H l = some (.lst us) ∧ VaAll K (off (l :: W.M) H) us ys
theorem Rep.bornN {K : PySem.W.Frag} {W : Wd} {Γ : List DV} {μ : Mu} {σ : L2.St} {H H' : Hp} {l : Addr} {us : List V} {ys : List PyData} (R : Rep K W Γ μ σ H) (hl : H l = none) (sm : Same H H') (hx : H' l = some (.lst us)) (hv : VaAll K (off (l :: hd W μ) H') us ys) : Rep K W Γ ((l, .lst ys) :: μ) σ H' ∧ Same (off (hd W μ) H) (off (hd W ((l, .lst ys) :: μ)) H') := by
  have RB := R.born hl (m := .lst []) (o := .lst []) ⟨[], upd_same, .nil⟩
  have up2 : Same (off (hd W μ) H) (off (hd W ((l, .lst ys) :: μ)) H') := fun a o e => by
    obtain ⟨h1, h2⟩ := off_some e
    have na : a ≠ l := fun z => by rw [z, hl] at h2; cases h2
    rw [off_out (fun z => by
      rcases List.mem_append.mp z with z | z
      · exact h1 (List.mem_append_left _ z)
      · rw [List.map_cons] at z
        rcases List.mem_cons.mp z with z | z
        · exact na z
        · exact h1 (List.mem_append_right _ z))]
    exact sm a o h2
  have oc : off (l :: hd W μ) H' = off (hd W ((l, .lst ys) :: μ)) H' := off_cong fun a => by
    show a ∈ l :: (W.M ++ μ.map (·.1)) ↔ a ∈ W.M ++ (l :: μ.map (·.1))
    simp only [List.mem_cons, List.mem_append]
    constructor
    · rintro (h | h | h)
      · exact .inr (.inl h)
      · exact .inl h
      · exact .inr (.inr h)
    · rintro (h | h | h)
      · exact .inr (.inl h)
      · exact .inl h
      · exact .inr (.inr h)
  refine ⟨⟨R.wd, (R.same sm).fr, R.sl.up up2, fun p hp => ?_, RB.nd⟩, up2⟩
  rcases List.mem_cons.mp hp with e | e
  · rw [e]
    exact ⟨(RB.mu _ List.mem_cons_self).1, us, hx, oc ▸ hv⟩
  · exact ⟨(R.mu p e).1, (R.mu p e).2.up up2 fun u e => sm _ _ e⟩
section
variable {P : Program} {w : World} {K : PySem.W.Frag} {mg : Str → Option Value} {base : Heap} {x qual : Str} {params : Arguments} {body : List Stmt} {scope : Scope} {f : Addr} {fd : FuncData} {N ps : List Str} {k : Nat}
theorem fd_new (F : FunD K x qual params body scope [] [] f fd) (S : FnScope N ps scope) (R : List PyData → PyData → Prop) (hlen : ∀ ds d, R ds d → ds.length = ps.length)
    (h : ∀ (cdv : Value) (A : Around) (outer : List Env) (s : Shared) (H : Hp) (E : XK), Room k (A.deeper (envOfC qual scope s.heap.objs.size f cdv)) → ∀ (W : Wd) (ds : List PyData) (d : PyData), W.row = none → R ds d →
      Run (cxOf CX0 P w K mg base N qual scope f cdv A outer s H E).nox W (ds.map .d ++ List.replicate (N.length - ps.length) .no) [] body { nx := fun _ _ => False, rt := RetN K W (fun z => z = d) }) :
    FnOk P w K mg base CX0 (k + 1) f fd ps (spN K R) := by
  refine F.ok S (fun vs H Q E ⟨L, ds, ys, _, hv, r, _⟩ => by rw [hv.length]; exact hlen ds _ r) fun cdv A outer s H vs Q E hr ⟨L, ds, ys, hL, hv, r, q⟩ => ?_
  refine ⟨_, PSs.nox wSs.ps, ?_⟩
  let W : Wd := ⟨H, L, none⟩
  have ok : WdOk K W := ⟨hL, fun _ _ _ e => nomatch e⟩
  have nr : ∀ a, ¬ W.isRow a := fun a ⟨_, _, e⟩ => nomatch e
  have sl : Slots K (off (hd W []) H) (start N vs) (ds.map .d ++ List.replicate (N.length - ps.length) .no) := by
    show Slots K (off (L ++ []) H) (vs.map some ++ List.replicate (N.length - vs.length) none) _
    rw [List.append_nil, hv.length, hlen ds _ r]
    exact slots_start _ hv
  have ret : ∀ v H', RetN K W (fun z => z = .list ys) v H' → Q v H' := fun v H' ⟨fr, l, us, ys', e, ev, h0, hx, hv'⟩ => by
    subst ev
    obtain rfl := PyData.list.inj e
    exact q l H' us h0 (fun a o e => fr.keep a o (nr a) e) hx hv'
  intro pins st I
  have z := h cdv A outer s H E hr W ds _ rfl r (start N vs) H ⟨ok, ⟨fun _ _ _ e => e, fun _ _ _ e => nomatch e⟩, sl, fun _ z => (nomatch z), List.nodup_nil⟩ pins st I
  refine wpAny_mono z (fun fl s' hq => ?_) fun _ _ z => z
  cases fl with
  | next =>
    obtain ⟨σ', H', I', q'⟩ := hq
    exact q'.elim
  | brk => exact hq
  | cont => exact hq
  | ret u =>
    obtain ⟨v, σ', H', I', r', q'⟩ := hq
    exact ⟨v, σ', H', I', r', ret _ _ q'⟩
end
section
variable {X : Cx} {W W0 : Wd} {Γ : List DV} {μ : Mu} {e elt tg iter : Expr} {ifs es : List Expr} {scope : Scope} {rest : List Stmt} {D : Ends} {pos p p1 p2 p3 : Pos} {n x : Str} {ds ys : List PyData} {l : Addr} {k : Nat} {ps : List Str} {P : PyData → Prop} {nx bk ct : L2.St → Hp → Prop}
/-- f(..), a new list -/
theorem em_new {R : List PyData → PyData → Prop} (F : Fd X.prog X.w X.K X.mg X.base k x ps (spN X.K R)) (hr : Room k X.A) (ha : EdA X W Γ μ (e :: es) ds) (hR : R ds (.list ys)) (hg : Gl X x := by rfl)
    (hdb : (x == ("__debug__" : Str)) = false := by decide) (he : starEach (e :: es) X.env = (false, eval e X.env) :: starEach es X.env := by rfl) (hpl : (backTo pos (starEach es X.env)).any (·.1) = false := by rfl) :
    EvM X W Γ μ (.Call (.Name x p) (e :: es) [] pos) (fun d μ' => ∃ l, d = ptD l ∧ μ' = (l, .lst ys) :: μ) := fun σ H Rp Q q => by
  obtain ⟨f, fd, h1, h2, h3, h4⟩ := F.ex
  refine (pe_call h1 hr hg h2 h3 h4 .nil pass0 wA.pa hdb he hpl).w (ha σ H Rp _ fun vs H2 R2 e2 r2 => ?_)
  show spN X.K R (vs ++ []) H2 Q _
  rw [List.append_nil]
  refine ⟨hd W μ, ds, ys, R2.ne, r2, hR, fun l H' us hl sm hx hv => ?_⟩
  obtain ⟨R3, s3⟩ := R2.bornN hl sm hx hv
  exact q (.ref l) (ptD l) _ H' R3 (same_trans e2 s3) (.ptr l) ⟨l, rfl, rfl⟩
/-- [.. for ..], a new list -/
theorem LcEv.evm {Z : List PyData → Prop} (h : LcEv X W Γ μ elt tg iter ifs scope Z) (hN : X.N.Nodup) (hc : X.calm = true := by rfl) (hs : ∀ x, foldedSetIterable iter X.env x = pure x := by intro _; rfl) :
    EvM X W Γ μ (.ListComp elt [⟨tg, iter, ifs, 0⟩] scope pos) (fun d μ' => ∃ l ys, Z ys ∧ d = ptD l ∧ μ' = (l, .lst ys) :: μ) := fun σ H R Q k => by
  obtain ⟨wi, g, tt, te, own, h1, h2, h3, h4, h5, h6⟩ := h.ex
  refine (pe_lc hc hN h1 h2 h3 h4 h5 hs).w (h6 σ H R Q fun ys v H2 z R2 x2 r rn => ?_)
  obtain ⟨D, ev, RN, sN⟩ := rn
  subst ev
  exact k (.ref D) (ptD D) _ H2 RN sN (.ptr D) ⟨D, ys, z, rfl, rfl⟩
theorem run_setLcM {Z : List PyData → Prop} {spos py : Pos} (i : Nat) (h : LcEv X W Γ μ elt tg iter ifs scope Z) (hr : ∀ l ys, Z ys → Run X W (Γ.set i (.r l)) ((l, .lst ys) :: μ) rest D) (hN : X.N.Nodup) (hn : X.N[i]? = some n := by rfl) (hl : X.env.scope.names.lookup n = some .local := by rfl)
    (hsw : swapsWith (.ListComp elt [⟨tg, iter, ifs, 0⟩] scope pos) (some (.Name n py)) spos.line X.env = pure true := by exact (sw_true rfl rfl rfl (by decide +kernel))) (hc : X.calm = true := by rfl) (hs : ∀ x, foldedSetIterable iter X.env x = pure x := by intro _; rfl) :
    Run X W Γ μ (.Assign [.Name n py] (.ListComp elt [⟨tg, iter, ifs, 0⟩] scope pos) spos :: rest) D := fun σ H R => by
  obtain ⟨wi, g, tt, te, own, h1, h2, h3, h4, h5, h6⟩ := h.ex
  refine wSs_cons ((ps_setLc hc hN hn hl hsw h1 h2 h3 h4 h5 hs).w ?_)
  refine h6 σ H R _ fun ys v H2 z R2 x2 r rn => ?_
  obtain ⟨D, ev, RN, sN⟩ := rn
  subst ev
  exact hr D ys z _ _ ⟨RN.wd, RN.fr, RN.sl.setr i, RN.mu, RN.nd⟩
theorem retN_of {σ : L2.St} {H : Hp} {μ : Mu} (R : Rep X.K W Γ μ σ H) (hm : (l, MO.lst ys) ∈ μ) (hp : P (.list ys)) : RetN X.K W P (.ref l) H := by
  obtain ⟨h0, us, hx, hv⟩ := R.mu _ hm
  refine ⟨R.fr, l, us, ys, hp, rfl, h0, hx, hv.up (same_offs fun a ha => ?_)⟩
  rcases List.mem_cons.mp ha with z | z
  · rw [z]
    exact List.mem_append_right _ (List.mem_map.mpr ⟨_, hm, rfl⟩)
  · exact List.mem_append_left _ z
/-- return of a new list -/
theorem run_retNM {A : PyData → Mu → Prop} (he : EvM X W Γ μ e A) (h : ∀ d μ', A d μ' → ∃ l ys, d = ptD l ∧ (l, MO.lst ys) ∈ μ' ∧ P (.list ys)) : Run X W Γ μ (.Return (some e) pos :: rest) ⟨nx, RetN X.K W P, bk, ct⟩ := fun σ H R =>
  wSs_cons ((ps_ret wE.pe).w (he σ H R _ fun v d μ' H2 R2 e2 r pa => by
    obtain ⟨l, ys, rfl, hm, hp⟩ := h d μ' pa
    cases r with
    | ptr => exact retN_of R2 hm hp))
theorem run_retNL (i j : Nat) (hp : P (.list ys)) (hi : Γ[i]? = some (.r l) := by rfl) (hj : μ[j]? = some (l, .lst ys) := by rfl) (hN : X.N[i]? = some n := by rfl) (hv : Vis X.env.scope n := by first | exact Or.inl rfl | exact Or.inr (Or.inl rfl) | exact Or.inr (Or.inr rfl))
    (h1 : (n == ("__debug__" : Str)) = false := by decide) (h2 : (n == ("__classdict__" : Str)) = false := by decide) : Run X W Γ μ (.Return (some (.Name n p)) pos :: rest) ⟨nx, RetN X.K W P, bk, ct⟩ :=
  run_retR (ed_ptr i hi hN hv h1 h2) fun v σ H R r => by
    cases r with
    | ptr => exact retN_of R (List.mem_of_getElem? hj) hp
end
end HW
set_option maxHeartbeats 4000000
namespace HW
open PySem PySem.Spec PyProof.Rows L2
open SX (S)
/-! ### local lists: changed, read, gathered -/
section
variable {X : Cx} {W : Wd} {Γ : List DV} {μ : Mu} {e : Expr} {es : List Expr} {rest : List Stmt} {D : Ends} {pos p p1 p2 p3 pos' : Pos} {n : Str} {ds ys : List PyData} {l : Addr}
/-- x.reverse() -/
theorem run_rev (i j : Nat) (h : Run X W Γ (μ.set j (l, .lst ys.reverse)) rest D) (hi : Γ[i]? = some (.r l) := by rfl) (hj : μ[j]? = some (l, .lst ys) := by rfl) (hN : X.N[i]? = some n := by rfl) (hv : Vis X.env.scope n := by first | exact Or.inl rfl | exact Or.inr (Or.inl rfl) | exact Or.inr (Or.inr rfl))
    (h1 : (n == ("__debug__" : Str)) = false := by decide) (h2 : (n == ("__classdict__" : Str)) = false := by decide)
    (hbase : attributeBase (.Name n p1) "reverse" X.env (eval (.Name n p1) X.env) = eval (.Name n p1) X.env := by rfl) (hline : (p2.endLine == p3.line) = true := by rfl)
    (hsw : swapsWith (.Call (.Attribute (.Name n p1) "reverse" p2) [] [] p3) none pos.line X.env = pure false := by rfl) : Run X W Γ μ (.Expr (.Call (.Attribute (.Name n p1) "reverse" p2) [] [] p3) pos :: rest) D := fun σ H R => by
  refine wSs_cons ((ps_expr (pe_bm0 PySem.F.plainAttrs_list PySem.F.slot_list_reverse PySem.F.type_list_reverse mt_reverse (pe_var hN hv h1 h2) hbase hline) hsw).w ?_)
  obtain ⟨o, e1, e2⟩ := R.sl.at_ i _ hi
  have e2' : o = some (.ref l) := e2
  subst e2'
  obtain ⟨xs, hx, hv⟩ := (R.mu _ (List.mem_of_getElem? hj)).2
  refine ⟨_, e1, .inl ⟨rfl, _, SqL.of hx⟩, ?_⟩
  exact ⟨l, xs, rfl, rfl, hx, h _ _ (R.chg hj ⟨xs.reverse, upd_same, va_rev hv⟩)⟩
/-- list(x), x a local list known by its place -/
theorem ed_copyD (i j : Nat) (hm : X.mg "list" = none) (hi : Γ[i]? = some (.d (ptD l)) := by rfl) (hj : μ[j]? = some (l, .lst ys) := by rfl) (hN : X.N[i]? = some n := by rfl) (hv : Vis X.env.scope n := by first | exact Or.inl rfl | exact Or.inr (Or.inl rfl) | exact Or.inr (Or.inr rfl))
    (h1 : (n == ("__debug__" : Str)) = false := by decide) (h2 : (n == ("__classdict__" : Str)) = false := by decide) (hg : Gl X "list" := by rfl) (hs1 : starEach [.Name n p] X.env = (false, eval (.Name n p) X.env) :: starEach [] X.env := by rfl) (hpl : (backTo pos (starEach [] X.env)).any (·.1) = false := by rfl) : Ed X W Γ μ (.Call (.Name "list" p2) [.Name n p] [] pos) (.list ys) := fun σ H R Q q => by
  refine (pe_callTy call_list_of hg hm boot_list (pa_cons (pe_var hN hv h1 h2) pa_nil hs1) (by decide) (by decide) hs1 hpl).w ?_
  obtain ⟨o, g1, v, g2, g3⟩ := R.sl.at_ i _ hi
  have g2' : o = some v := g2
  subst g2'
  cases g3 with
  | ptr =>
    obtain ⟨xs, hx, hxv⟩ := (R.mu _ (List.mem_of_getElem? hj)).2
    refine ⟨_, g1, _, _, rfl, .inl (SqL.of hx), fun a hna => ?_⟩
    have sm := same_new (o := HO.lst xs) hna
    exact q _ _ (R.same sm) (XT.same sm) (.lst (off_upd (new_out R.ne hna)) (hxv.up (XT.same sm)))
/-- x = [..], the items told with other local objects -/
theorem run_newLM (i : Nat) {P : List PyData → Mu → Prop} (ha : EvAM X W Γ μ es P) (h : ∀ ds μ1, P ds μ1 → ds.length ≤ 1000 ∧ ∀ l, Run X W (Γ.set i (.r l)) ((l, .lst ds) :: μ1) rest D) (nd : X.N.Nodup) (hN : X.N[i]? = some n := by rfl) (hx : Loc X.env.scope n := by first | exact Or.inl rfl | exact Or.inr rfl)
    (hs : swapsWith (.List es p2) (some (.Name n p)) pos.line X.env = pure false := by rfl) (hf : X.fn n = true ∨ X.env.scope.names.lookup n = some .local := by first | exact .inr rfl | exact .inl rfl) : Run X W Γ μ (.Assign [.Name n p] (.List es p2) pos :: rest) D := fun σ H R =>
  wSs_cons ((ps_set nd hN hx (pe_lst wA.pa) hs hf).w (ha σ H R _ fun vs ds μ1 H2 R2 e2 r2 pa => by
    obtain ⟨hl, h⟩ := h ds μ1 pa
    refine ⟨by rw [r2.length]; exact Nat.le_trans hl (by decide), fun a hna => h a _ _ ?_⟩
    have R3 := R2.born (m := .lst ds) (o := .lst vs) hna ⟨vs, upd_same, r2⟩
    exact ⟨R3.wd, R3.fr, R3.sl.setr i, R3.mu, R3.nd⟩))
/-- x.append(e), e told with other local objects -/
theorem run_appM (i j : Nat) {P : PyData → Mu → Prop} (he : EvM X W Γ μ e P) (h : ∀ d μ1, P d μ1 → ∃ j1 ys1, μ1[j1]? = some (l, .lst ys1) ∧ ys1.length < 16777216 ∧ Run X W Γ (μ1.set j1 (l, .lst (ys1 ++ [d]))) rest D)
    (hi : Γ[i]? = some (.r l) := by rfl) (hj : μ[j]? = some (l, .lst ys) := by rfl) (hN : X.N[i]? = some n := by rfl) (hv : Vis X.env.scope n := by first | exact Or.inl rfl | exact Or.inr (Or.inl rfl) | exact Or.inr (Or.inr rfl))
    (h1 : (n == ("__debug__" : Str)) = false := by decide) (h2 : (n == ("__classdict__" : Str)) = false := by decide)
    (hbase : attributeBase (.Name n p1) "append" X.env (eval (.Name n p1) X.env) = eval (.Name n p1) X.env := by rfl)
    (hfew : ((backTo p3 (starEach [e] X.env)).all (fun x => !x.1) && (backToKw p3 (keywordEach [] X.env)).all (fun x => x.1.isSome)
      && decide ([e].length + ([] : List Keyword).length + (if ([] : List Keyword).isEmpty then 0 else 1) < 30)) = true := by rfl)
    (hline : (p2.endLine == p3.line) = true := by rfl) (hs : starEach [e] X.env = (false, eval e X.env) :: starEach [] X.env := by rfl) (hplain : (backTo p3 (starEach [] X.env)).any (·.1) = false := by rfl)
    (hsw : swapsWith (.Call (.Attribute (.Name n p1) "append" p2) [e] [] p3) none pos.line X.env = pure false := by rfl) :
    Run X W Γ μ (.Expr (.Call (.Attribute (.Name n p1) "append" p2) [e] [] p3) pos :: rest) D := fun σ H R => by
  refine wSs_cons ((ps_expr (pe_bm PySem.F.plainAttrs_list PySem.F.slot_list_append PySem.F.type_list_append mt_append (pe_var hN hv h1 h2) (pa_cons wE.pe pa_nil hs) hbase hfew hline hs hplain) hsw).w ?_)
  obtain ⟨o, e1, e2⟩ := R.sl.at_ i _ hi
  have e2' : o = some (.ref l) := e2
  subst e2'
  obtain ⟨xs, hx, _⟩ := (R.mu _ (List.mem_of_getElem? hj)).2
  refine ⟨_, e1, .inl ⟨rfl, _, SqL.of hx⟩, ?_⟩
  refine he σ H R _ fun v d μ1 H2 R2 e2 r p => ?_
  obtain ⟨j1, ys1, hj1, hlen, hr⟩ := h d μ1 p
  obtain ⟨xs2, hx2, hv2⟩ := (R2.mu _ (List.mem_of_getElem? hj1)).2
  exact ⟨l, xs2, v, rfl, rfl, hx2, by rw [hv2.length]; exact hlen, hr _ _ (R2.chg hj1 ⟨xs2 ++ [v], upd_same, hv2.app (.cons r .nil)⟩)⟩
end
end HW
set_option maxHeartbeats 4000000
namespace HW
open PySem PySem.Spec PyProof.Rows L2
open SX (S)
/-! ### law 36's words -/
def R_law_base36 (ds : List PyData) (d : PyData) : Prop := ∃ i : Nat, ds = [nn i] ∧ i < 2 ∧ d = .bool true
theorem kn36 : levF [120, 46, 120] 2 2 5 = [] ∧ (∀ j, j < 5 → levF [120, 46, 120] 2 2 j ≠ []) := by decide +kernel
theorem small36 : Small [120, 46, 120] 2 := ⟨by decide, by decide, by decide, by decide, by decide⟩
theorem paired_iD36 {α : Type} {Q : Int → Prop} : ∀ {xs : List α} {ys : List PyData}, Paired (fun _ z => ∃ c, z = iD c ∧ Q c) xs ys → ∃ cs : List Int, ys = cs.map iD ∧ (∀ c ∈ cs, Q c) ∧ cs.length = xs.length
  | _, _, .nil => ⟨[], rfl, (fun _ h => nomatch h), rfl⟩
  | _, _, .cons ⟨c, e, q⟩ t => by
    obtain ⟨cs, e2, h, hl⟩ := paired_iD36 t
    exact ⟨c :: cs, by rw [e, e2]; rfl, fun x hx => by
      rcases List.mem_cons.mp hx with rfl | hx
      · exact q
      · exact h x hx, by rw [List.length_cons, List.length_cons, hl]⟩
end HW
set_option maxHeartbeats 0
namespace Tx
open PySem PySem.Spec PyProof.Rows L2
def top (i : Nat) : Stmt := PySem.Challenge.pw_holedwindows_k36_deeper_asked_again.main.body.getD i (.Pass ⟨0, 0, 0, 0⟩)
abbrev s_is_from : Stmt := top 18
abbrev s_is_mask : Stmt := top 19
abbrev s_need_mask : Stmt := top 20
abbrev s_is_row : Stmt := top 21
abbrev s_need_row : Stmt := top 22
abbrev s_need_letters : Stmt := top 23
abbrev s_seen_by : Stmt := top 24
abbrev s_view_by : Stmt := top 27
abbrev s_views_of : Stmt := top 28
abbrev s_tells_by : Stmt := top 29
abbrev s_unlike : Stmt := top 30
abbrev s_is_view : Stmt := top 33
abbrev s_misses : Stmt := top 34
abbrev s_stands_of : Stmt := top 38
abbrev s_both_views : Stmt := top 39
abbrev s_both_find : Stmt := top 40
abbrev s_need_small : Stmt := top 44
abbrev s_wider : Stmt := top 46
abbrev s_need_far : Stmt := top 47
abbrev s_apart_rows : Stmt := top 48
abbrev s_need_looks : Stmt := top 50
abbrev s_need_steps : Stmt := top 51
abbrev s_places_by : Stmt := top 52
abbrev s_walks_of : Stmt := top 53
abbrev s_starts_by : Stmt := top 54
abbrev s_steps_tell : Stmt := top 55
abbrev s_need_pattern : Stmt := top 58
abbrev s_fillings_of : Stmt := top 59
abbrev s_first_filling : Stmt := top 60
abbrev s__law_taken : Stmt := top 62
abbrev s__law_mask : Stmt := top 63
abbrev s__law_line : Stmt := top 64
abbrev s__law_open : Stmt := top 65
abbrev s__law_views : Stmt := top 66
abbrev s__law_look : Stmt := top 67
abbrev s__law_base : Stmt := top 68
abbrev s_law : Stmt := top 69
def d_is_from : He.DefD := ⟨("is_from", none), "is_from", "is_from", defArgs s_is_from, defBody s_is_from, defScope s_is_from, [], []⟩
def d_is_mask : He.DefD := ⟨("is_mask", none), "is_mask", "is_mask", defArgs s_is_mask, defBody s_is_mask, defScope s_is_mask, [], []⟩
def d_need_mask : He.DefD := ⟨("need_mask", none), "need_mask", "need_mask", defArgs s_need_mask, defBody s_need_mask, defScope s_need_mask, [], []⟩
def d_is_row : He.DefD := ⟨("is_row", none), "is_row", "is_row", defArgs s_is_row, defBody s_is_row, defScope s_is_row, [], []⟩
def d_need_row : He.DefD := ⟨("need_row", none), "need_row", "need_row", defArgs s_need_row, defBody s_need_row, defScope s_need_row, [], []⟩
def d_need_letters : He.DefD := ⟨("need_letters", none), "need_letters", "need_letters", defArgs s_need_letters, defBody s_need_letters, defScope s_need_letters, [], []⟩
def d_seen_by : He.DefD := ⟨("seen_by", none), "seen_by", "seen_by", defArgs s_seen_by, defBody s_seen_by, defScope s_seen_by, [], []⟩
def d_view_by : He.DefD := ⟨("view_by", none), "view_by", "view_by", defArgs s_view_by, defBody s_view_by, defScope s_view_by, [], []⟩
def d_views_of : He.DefD := ⟨("views_of", none), "views_of", "views_of", defArgs s_views_of, defBody s_views_of, defScope s_views_of, [], []⟩
def d_tells_by : He.DefD := ⟨("tells_by", none), "tells_by", "tells_by", defArgs s_tells_by, defBody s_tells_by, defScope s_tells_by, [], []⟩
def d_unlike : He.DefD := ⟨("unlike", none), "unlike", "unlike", defArgs s_unlike, defBody s_unlike, defScope s_unlike, [], []⟩
def d_is_view : He.DefD := ⟨("is_view", none), "is_view", "is_view", defArgs s_is_view, defBody s_is_view, defScope s_is_view, [], []⟩
def d_misses : He.DefD := ⟨("misses", none), "misses", "misses", defArgs s_misses, defBody s_misses, defScope s_misses, [], []⟩
def d_stands_of : He.DefD := ⟨("stands_of", none), "stands_of", "stands_of", defArgs s_stands_of, defBody s_stands_of, defScope s_stands_of, [], []⟩
def d_both_views : He.DefD := ⟨("both_views", none), "both_views", "both_views", defArgs s_both_views, defBody s_both_views, defScope s_both_views, [], []⟩
def d_both_find : He.DefD := ⟨("both_find", none), "both_find", "both_find", defArgs s_both_find, defBody s_both_find, defScope s_both_find, [], []⟩
def d_need_small : He.DefD := ⟨("need_small", none), "need_small", "need_small", defArgs s_need_small, defBody s_need_small, defScope s_need_small, [], []⟩
def d_wider : He.DefD := ⟨("wider", none), "wider", "wider", defArgs s_wider, defBody s_wider, defScope s_wider, [], []⟩
def d_need_far : He.DefD := ⟨("need_far", none), "need_far", "need_far", defArgs s_need_far, defBody s_need_far, defScope s_need_far, [], []⟩
def d_apart_rows : He.DefD := ⟨("apart_rows", none), "apart_rows", "apart_rows", defArgs s_apart_rows, defBody s_apart_rows, defScope s_apart_rows, [], []⟩
def d_need_looks : He.DefD := ⟨("need_looks", none), "need_looks", "need_looks", defArgs s_need_looks, defBody s_need_looks, defScope s_need_looks, [], []⟩
def d_need_steps : He.DefD := ⟨("need_steps", none), "need_steps", "need_steps", defArgs s_need_steps, defBody s_need_steps, defScope s_need_steps, [], []⟩
def d_places_by : He.DefD := ⟨("places_by", none), "places_by", "places_by", defArgs s_places_by, defBody s_places_by, defScope s_places_by, [], []⟩
def d_walks_of : He.DefD := ⟨("walks_of", none), "walks_of", "walks_of", defArgs s_walks_of, defBody s_walks_of, defScope s_walks_of, [], []⟩
def d_starts_by : He.DefD := ⟨("starts_by", none), "starts_by", "starts_by", defArgs s_starts_by, defBody s_starts_by, defScope s_starts_by, [], []⟩
def d_steps_tell : He.DefD := ⟨("steps_tell", none), "steps_tell", "steps_tell", defArgs s_steps_tell, defBody s_steps_tell, defScope s_steps_tell, [], []⟩
def d_need_pattern : He.DefD := ⟨("need_pattern", none), "need_pattern", "need_pattern", defArgs s_need_pattern, defBody s_need_pattern, defScope s_need_pattern, [], []⟩
def d_fillings_of : He.DefD := ⟨("fillings_of", none), "fillings_of", "fillings_of", defArgs s_fillings_of, defBody s_fillings_of, defScope s_fillings_of, [], []⟩
def d_first_filling : He.DefD := ⟨("first_filling", none), "first_filling", "first_filling", defArgs s_first_filling, defBody s_first_filling, defScope s_first_filling, [], []⟩
def d__law_taken : He.DefD := ⟨("_law_taken", none), "_law_taken", "_law_taken", defArgs s__law_taken, defBody s__law_taken, defScope s__law_taken, [], []⟩
def d__law_mask : He.DefD := ⟨("_law_mask", none), "_law_mask", "_law_mask", defArgs s__law_mask, defBody s__law_mask, defScope s__law_mask, [], []⟩
def d__law_line : He.DefD := ⟨("_law_line", none), "_law_line", "_law_line", defArgs s__law_line, defBody s__law_line, defScope s__law_line, [], []⟩
def d__law_open : He.DefD := ⟨("_law_open", none), "_law_open", "_law_open", defArgs s__law_open, defBody s__law_open, defScope s__law_open, [], []⟩
def d__law_views : He.DefD := ⟨("_law_views", none), "_law_views", "_law_views", defArgs s__law_views, defBody s__law_views, defScope s__law_views, [], []⟩
def d__law_look : He.DefD := ⟨("_law_look", none), "_law_look", "_law_look", defArgs s__law_look, defBody s__law_look, defScope s__law_look, [], []⟩
def d__law_base : He.DefD := ⟨("_law_base", none), "_law_base", "_law_base", defArgs s__law_base, defBody s__law_base, defScope s__law_base, [], []⟩
def d_law : He.DefD := ⟨("law", none), "law", "law", defArgs s_law, defBody s_law, defScope s_law, [], []⟩
abbrev m_BadPattern : Stmt := HW.clsM (top 10) 0
def i_BadPattern : He.DefD := ⟨("BadPattern", some "__init__"), "__init__", "BadPattern.__init__", defArgs m_BadPattern, defBody m_BadPattern, defScope m_BadPattern, [], []⟩
abbrev m_BadMask : Stmt := HW.clsM (top 2) 0
def i_BadMask : He.DefD := ⟨("BadMask", some "__init__"), "__init__", "BadMask.__init__", defArgs m_BadMask, defBody m_BadMask, defScope m_BadMask, [], []⟩
abbrev m_BadLetters : Stmt := HW.clsM (top 6) 0
def i_BadLetters : He.DefD := ⟨("BadLetters", some "__init__"), "__init__", "BadLetters.__init__", defArgs m_BadLetters, defBody m_BadLetters, defScope m_BadLetters, [], []⟩
abbrev m_TooMany : Stmt := HW.clsM (top 9) 0
def i_TooMany : He.DefD := ⟨("TooMany", some "__init__"), "__init__", "TooMany.__init__", defArgs m_TooMany, defBody m_TooMany, defScope m_TooMany, [], []⟩
abbrev m_BadRow : Stmt := HW.clsM (top 3) 0
def i_BadRow : He.DefD := ⟨("BadRow", some "__init__"), "__init__", "BadRow.__init__", defArgs m_BadRow, defBody m_BadRow, defScope m_BadRow, [], []⟩
abbrev m_BadSteps : Stmt := HW.clsM (top 11) 0
def i_BadSteps : He.DefD := ⟨("BadSteps", some "__init__"), "__init__", "BadSteps.__init__", defArgs m_BadSteps, defBody m_BadSteps, defScope m_BadSteps, [], []⟩
def fn0 : List He.DefD := [d_is_from, d_is_mask, d_need_mask, d_is_row, d_need_row, d_need_letters, d_seen_by, d_view_by, d_views_of, d_tells_by, d_unlike, d_is_view, d_misses, d_stands_of, d_both_views, d_both_find, d_need_small, d_wider, d_need_far, d_apart_rows, d_need_looks, d_need_steps, d_places_by, d_walks_of, d_starts_by]
def fn1 : List He.DefD := [d_steps_tell, d_need_pattern, d_fillings_of, d_first_filling, d__law_taken, d__law_mask, d__law_line, d__law_open, d__law_views, d__law_look, d__law_base, d_law, i_BadPattern, i_BadMask, i_BadLetters, i_TooMany, i_BadRow, i_BadSteps]
def fn : List He.DefD := fn0 ++ fn1
def fa0 : List He.Fa := [.glo "is_from", .glo "is_mask", .glo "need_mask", .glo "is_row", .glo "need_row", .glo "need_letters", .glo "seen_by", .glo "view_by", .glo "views_of", .glo "tells_by", .glo "unlike", .glo "is_view", .glo "misses", .glo "stands_of", .glo "both_views", .glo "both_find", .glo "need_small", .glo "wider", .glo "need_far", .glo "apart_rows", .glo "need_looks", .glo "need_steps", .glo "places_by", .glo "walks_of", .glo "starts_by"]
def fa1 : List He.Fa := [.glo "steps_tell", .glo "need_pattern", .glo "fillings_of", .glo "first_filling", .glo "_law_taken", .glo "_law_mask", .glo "_law_line", .glo "_law_open", .glo "_law_views", .glo "_law_look", .glo "_law_base", .glo "law", .free "all", .free "bool", .free "enumerate", .free "int", .free "isinstance", .free "len", .free "list", .free "range", .free "set", .free "str", .free "tuple", .free "zip", .free "min"]
def fa2 : List He.Fa := [.free "max", .free "sorted", .free "any", .free "dict", .free "abs", .free "sum", .noat "TooMany" "most", .noat "BadSteps" "index", .glo "BadView", .glo "BadViews", .exm "BadPattern" "BadPattern" true, .exm "BadSteps" "BadPattern" false, .exm "BadSteps" "BadSteps" true, .str "SEEN" "x", .str "HOLE" ".", .str "LETTERS" "abcd", .int "MOST_MASK" 12, .int "MOST_ROW" 60, .int "MOST_WRONG" 12, .str "OPEN" "?", .str "BACK" "back", .str "ON" "on", .int "MOST_UNREAD" 6]
def fa : List He.Fa := fa0 ++ fa1 ++ fa2
def names0 : List PySem.Str := ["__name__", "SEEN", "HOLE", "LETTERS", "MOST_MASK", "MOST_ROW", "MOST_WRONG", "OPEN", "BACK", "ON", "MOST_WIDTHS", "MOST_SEEN", "MOST_UNREAD", "WindowError", "BadMask", "BadRow", "BadView", "BadViews", "BadLetters", "BadNumber", "TooGreat", "TooMany", "BadPattern", "BadSteps", "is_from"]
def names1 : List PySem.Str := ["is_mask", "need_mask", "is_row", "need_row", "need_letters", "seen_by", "view_by", "views_of", "tells_by", "unlike", "is_view", "misses", "stands_of", "both_views", "both_find", "need_small", "wider", "need_far", "apart_rows", "need_looks", "need_steps", "places_by", "walks_of", "starts_by", "steps_tell"]
def names2 : List PySem.Str := ["need_pattern", "fillings_of", "first_filling", "_law_taken", "_law_mask", "_law_line", "_law_open", "_law_views", "_law_look", "_law_base"]
def names : List PySem.Str := names0 ++ names1 ++ names2
abbrev R : PySem.W.OpenRow := PySem.W.OpenLaw.row PySem.Challenge.rw_holedwindows_k36_deeper_asked_again
def ex (K : PySem.W.Frag) : Bool := HW.exfB "BadPattern" K && HW.exfB "BadMask" K && HW.exfB "BadLetters" K && HW.exfB "TooMany" K && HW.exfB "BadRow" K && HW.exfB "BadSteps" K && HW.baseB "WindowError" K && HW.isxB "BadPattern" K && HW.isxB "BadSteps" K && HW.isKB "BadPattern" "WindowError" true K && HW.isKB "BadPattern" "BadRow" false K && HW.isKB "BadPattern" "BadView" false K && HW.isKB "BadSteps" "WindowError" true K && HW.isKB "BadSteps" "BadViews" false K && HX.tupI "MOST_WIDTHS" [12, 8, 5, 4] K && HX.tupI "MOST_SEEN" [12, 4, 2, 1] K && true
abbrev hk : PySem.W.Hook := HX.hookS 4 fa fn ex
def ob (s : PySem.W.SharedT) : HX.AlE := HX.obsS 4 fa fn ex (HandSHeadRun.getT s)
theorem ob_eq (s : PySem.W.SharedT) : ob s = hk.obs s.abs := HX.obsS_eq (HandSHeadRun.getT_eq s)
theorem run (w : World) : HandSHeadRun.RunEq R (PySem.W.view R.prog [69]) hk ob 9000 names w := by
  intro os
  kernel_rfl
end Tx
set_option maxHeartbeats 4000000
namespace HW
open PySem PySem.Spec PyProof.Rows L2 Tx
open SX (S)
section
variable {P : Program} {w : World} {K : PySem.W.Frag} {mg : Str → Option Value} {base : Heap} {f : Addr} {fd : FuncData} {k : Nat}
theorem fi_BadPattern {C : Addr} (F : FunD K "__init__" "BadPattern.__init__" (defArgs m_BadPattern) (defBody m_BadPattern) (defScope m_BadPattern) [] [] f fd) (B : BaseF K mg "WindowError") : FnOk P w K mg base CX0 (k + 1) f fd ["self"] (spI0 K C) :=
  fn_init0 F ⟨rfl, rfl, rfl, by decide +kernel, rfl, by decide +kernel, by decide +kernel⟩ B (fun _ _ _ _ _ _ => rfl) (fun _ _ _ _ _ _ => Or.inl rfl) (fun _ _ _ _ _ _ => ⟨_, rfl⟩) (fun _ _ _ _ _ _ => rfl)
theorem fi_BadMask {C : Addr} (F : FunD K "__init__" "BadMask.__init__" (defArgs m_BadMask) (defBody m_BadMask) (defScope m_BadMask) [] [] f fd) (B : BaseF K mg "WindowError") : FnOk P w K mg base CX0 (k + 1) f fd ["self"] (spI0 K C) :=
  fn_init0 F ⟨rfl, rfl, rfl, by decide +kernel, rfl, by decide +kernel, by decide +kernel⟩ B (fun _ _ _ _ _ _ => rfl) (fun _ _ _ _ _ _ => Or.inl rfl) (fun _ _ _ _ _ _ => ⟨_, rfl⟩) (fun _ _ _ _ _ _ => rfl)
theorem fi_BadLetters {C : Addr} (F : FunD K "__init__" "BadLetters.__init__" (defArgs m_BadLetters) (defBody m_BadLetters) (defScope m_BadLetters) [] [] f fd) (B : BaseF K mg "WindowError") : FnOk P w K mg base CX0 (k + 1) f fd ["self"] (spI0 K C) :=
  fn_init0 F ⟨rfl, rfl, rfl, by decide +kernel, rfl, by decide +kernel, by decide +kernel⟩ B (fun _ _ _ _ _ _ => rfl) (fun _ _ _ _ _ _ => Or.inl rfl) (fun _ _ _ _ _ _ => ⟨_, rfl⟩) (fun _ _ _ _ _ _ => rfl)
theorem fi_TooMany {C : Addr} (F : FunD K "__init__" "TooMany.__init__" (defArgs m_TooMany) (defBody m_TooMany) (defScope m_TooMany) [] [] f fd) (B : BaseF K mg "WindowError") (hno : PySem.W.findIn K (.ref C) "most" = some none) : FnOk P w K mg base CX0 (k + 1) f fd ["self", "most"] (spI1 K C "most") :=
  fn_init1 (by decide) (by decide) F ⟨rfl, rfl, rfl, by decide +kernel, rfl, by decide +kernel, by decide +kernel⟩ B hno (fun _ _ _ _ _ _ => rfl) (fun _ _ _ _ _ _ => Or.inl rfl) (fun _ _ _ _ _ _ => Or.inl rfl) (fun _ _ _ _ _ _ => ⟨_, rfl⟩) (fun _ _ _ _ _ _ => rfl) (fun _ _ _ _ _ _ => rfl)
theorem fi_BadRow {C : Addr} (F : FunD K "__init__" "BadRow.__init__" (defArgs m_BadRow) (defBody m_BadRow) (defScope m_BadRow) [] [] f fd) (B : BaseF K mg "WindowError") : FnOk P w K mg base CX0 (k + 1) f fd ["self"] (spI0 K C) :=
  fn_init0 F ⟨rfl, rfl, rfl, by decide +kernel, rfl, by decide +kernel, by decide +kernel⟩ B (fun _ _ _ _ _ _ => rfl) (fun _ _ _ _ _ _ => Or.inl rfl) (fun _ _ _ _ _ _ => ⟨_, rfl⟩) (fun _ _ _ _ _ _ => rfl)
theorem fi_BadSteps {C : Addr} (F : FunD K "__init__" "BadSteps.__init__" (defArgs m_BadSteps) (defBody m_BadSteps) (defScope m_BadSteps) [] [] f fd) (B : BaseF K mg "WindowError") (hno : PySem.W.findIn K (.ref C) "index" = some none) : FnOk P w K mg base CX0 (k + 1) f fd ["self", "index"] (spI1 K C "index") :=
  fn_init1 (by decide) (by decide) F ⟨rfl, rfl, rfl, by decide +kernel, rfl, by decide +kernel, by decide +kernel⟩ B hno (fun _ _ _ _ _ _ => rfl) (fun _ _ _ _ _ _ => Or.inl rfl) (fun _ _ _ _ _ _ => Or.inl rfl) (fun _ _ _ _ _ _ => ⟨_, rfl⟩) (fun _ _ _ _ _ _ => rfl) (fun _ _ _ _ _ _ => rfl)
theorem fd_taken (F : FnP K "_law_taken" s__law_taken f fd) (hint : mg "int" = none) (hlen : mg "len" = none) : FnOk P w K mg base CX0 (k + 1) f fd ["_law_row", "_law_many"] (spW K R_taken_pre R_taken_post) := by
  have sc : FnScope ["_law_row", "_law_many", "_law_found", "_law_cell"] ["_law_row", "_law_many"] (defScope s__law_taken) := ⟨rfl, rfl, rfl, by decide +kernel, rfl, by decide +kernel, by decide +kernel⟩
  refine F.ok sc (fun vs H Q E ⟨M, r, scr, ns, ws, ds, e, _, _, _, _, _, _, hv, ⟨m, e2, _⟩, _⟩ => by rw [e, List.length_cons, hv.length, e2]; rfl) fun cdv A outer s H vs Q E hr ⟨M, r, scr, ns, ws, ds, e, hM, hrM, hR, hS, hne, hns, hv, ⟨m, e2, h0, h1⟩, q⟩ => ?_
  subst e
  subst e2
  cases hv with
  | cons hv1 hv2 =>
  cases hv2
  cases hv1
  obtain ⟨i, sd, rest, hrow, hi0⟩ := hR
  -- the end: r holds whatever it holds
  have fin : ∀ (k : Nat) (i' sd' q' : Int) (H' : Hp), (k : Int) < m → 0 ≤ i' → (∀ a o, a ≠ r → H a = some o → H' a = some o) → H' r = some (.lst [.ref scr, .int i', .int sd', .int q']) → Q (.int (k : Int)) H' := fun k i' sd' q' H' hk hi' keep hr' =>
    q _ H' (.int (k : Int)) ⟨m, k, rfl, rfl, hk⟩ keep ⟨i', sd', q', hr', hi'⟩ (.int _)
  have modk : ∀ z : Int, ∃ k : Nat, z % m = (k : Int) ∧ (k : Int) < m := fun z => ⟨(z % m).toNat, by rw [Int.toNat_of_nonneg (Int.emod_nonneg _ (by omega))], by rw [Int.toNat_of_nonneg (Int.emod_nonneg _ (by omega))]; exact Int.emod_lt_of_pos _ h0⟩
  have sq : ∀ {H' : Hp}, (∀ a o, a ≠ r → H a = some o → H' a = some o) → SqL K H' scr (ns.map V.int) := fun {H'} keep => SqL.up (fun o e => keep scr o hne e) hS
  refine ⟨_, PSs.nox wSs.ps, ?_⟩
  show wSs (cxOf CX0 P w K mg base ["_law_row", "_law_many", "_law_found", "_law_cell"] "_law_taken" (defScope s__law_taken) f cdv A outer s H E).nox _ _ (start _ _) H
  have nd := sc.nd
  have k1 : ∀ {o : HO} (a : Addr) (u : HO), a ≠ r → H a = some u → upd H r o a = some u := fun {o} a u n e => by rw [upd_ne n]; exact e
  refine wSs_cons ((ps_if wT.pt wSs.ps wSs.ps).w (at_cmp (k := decide (0 < rest)) op_gt (at_ix (at_var 0 rfl) at_int (SqL.of hrow) rfl) at_int (fun Q q => ⟨rest, 0, rfl, rfl, q⟩) ?_))
  by_cases hp : 0 < rest
  · rw [decide_eq_true hp]
    obtain ⟨k, ek, hk⟩ := modk rest
    refine iteT (wSs_cons ((ps_set (i := 2) nd rfl (.inl rfl) wE.pe).w (at_op (z := .int (rest % m)) op_mod (at_int1 (at_ix (at_var 0 rfl) at_int (SqL.of hrow) rfl) hint) (at_var 1 rfl) (fun Q q => ⟨rest, m, rfl, rfl, h0, q⟩) _ ?_)))
    refine wSs_cons ((ps_asg wE.pe (pg_sub wE.pe wE.pe set_list)).w (at_op (z := .int (rest / m)) op_fdiv (at_ix (at_var 0 rfl) at_int (SqL.of hrow) rfl) (at_var 1 rfl) (fun Q q => ⟨rest, m, rfl, rfl, ⟨h0, h1⟩, q⟩) _ ?_))
    refine at_k (at_var 0 rfl) (at_k at_int ⟨r, _, 3, 3, rfl, rfl, hrow, rfl, ?_⟩)
    refine wSs_cons ((ps_ret wE.pe).w (at_k (at_var 2 rfl) ?_))
    rw [ek]
    exact fin k i sd (rest / m) _ hk hi0 k1 upd_same
  · rw [decide_eq_false hp]
    refine iteF (pss_nil.w ?_)
    refine wSs_cons ((ps_asg wE.pe (pg_sub wE.pe wE.pe set_list)).w (at_op (z := .int (i + 1)) op_add (at_ix (at_var 0 rfl) at_int (SqL.of hrow) rfl) at_int (fun Q q => ⟨i, 1, rfl, rfl, q⟩) _ ?_))
    refine at_k (at_var 0 rfl) (at_k at_int ⟨r, _, 1, 1, rfl, rfl, hrow, rfl, ?_⟩)
    have hr1 : upd H r (.lst [.ref scr, .int (i + 1), .int sd, .int rest]) r = some (.lst [.ref scr, .int (i + 1), .int sd, .int rest]) := upd_same
    have keep1 : ∀ (a : Addr) (u : HO), a ≠ r → H a = some u → upd H r (.lst [.ref scr, .int (i + 1), .int sd, .int rest]) a = some u := k1
    revert hr1 keep1
    show _ → _ → wSs _ _ _ _ (upd H r (.lst [.ref scr, .int (i + 1), .int sd, .int rest]))
    generalize upd H r (.lst [.ref scr, .int (i + 1), .int sd, .int rest]) = H1
    intro hr1 keep1
    have k2 : ∀ {o : HO} (a : Addr) (u : HO), a ≠ r → H a = some u → upd H1 r o a = some u := fun {o} a u n e => by rw [upd_ne n]; exact keep1 a u n e
    refine wSs_cons ((ps_if wT.pt wSs.ps wSs.ps).w (at_cmp (k := decide (((ns.map V.int).length : Int) < i + 1)) op_gt (at_ix (at_var 0 rfl) at_int (SqL.of hr1) rfl) (at_len (at_ix (at_var 0 rfl) at_int (SqL.of hr1) rfl) (sq keep1) hlen) (fun Q q => ⟨i + 1, _, rfl, rfl, q⟩) ?_))
    by_cases hb : ((ns.map V.int).length : Int) < i + 1
    · rw [decide_eq_true hb]
      refine iteT (wSs_cons ((ps_asg wE.pe (pg_sub wE.pe wE.pe set_list)).w (at_op (z := .int ((sd * 48271 + 11) % 2147483647)) op_mod (at_int1 (at_op (z := .int (sd * 48271 + 11)) op_add (at_op (z := .int (sd * 48271)) op_mul (at_ix (at_var 0 rfl) at_int (SqL.of hr1) rfl) at_int (fun Q q => ⟨sd, 48271, rfl, rfl, .inr (by decide), q⟩)) at_int (fun Q q => ⟨_, 11, rfl, rfl, q⟩)) hint) at_int (fun Q q => ⟨_, 2147483647, rfl, rfl, (by decide : (0 : Int) < 2147483647), q⟩) _ ?_)))
      refine at_k (at_var 0 rfl) (at_k at_int ⟨r, _, 2, 2, rfl, rfl, hr1, rfl, ?_⟩)
      obtain ⟨k, ek, hk⟩ := modk ((sd * 48271 + 11) % 2147483647 / 7)
      refine wSs_cons ((ps_ret wE.pe).w (at_op (z := .int ((sd * 48271 + 11) % 2147483647 / 7 % m)) op_mod (at_int1 (at_op (z := .int ((sd * 48271 + 11) % 2147483647 / 7)) op_fdiv (at_ix (at_var 0 rfl) at_int (SqL.of upd_same) rfl) at_int (fun Q q => ⟨_, 7, rfl, rfl, ⟨by decide, by decide⟩, q⟩)) hint) (at_var 1 rfl) (fun Q q => ⟨_, m, rfl, rfl, h0, q⟩) _ ?_))
      rw [ek]
      exact fin k (i + 1) _ rest _ hk (by omega) k2 upd_same
    · rw [decide_eq_false hb]
      refine iteF (pss_nil.w ?_)
      obtain ⟨c, hc⟩ : ∃ c : Int, atI (ns.map V.int) (i + 1 - 1) = some (.int c) := by
        have hl : i.toNat < ns.length := by
          rw [List.length_map] at hb
          omega
        refine ⟨ns[i.toNat], at_nat (n := i.toNat) (by omega) ?_⟩
        rw [List.getElem?_map, List.getElem?_eq_getElem hl]
        rfl
      refine wSs_cons ((ps_set (i := 3) nd rfl (.inl rfl) wE.pe).w (at_ix (at_ix (at_var 0 rfl) at_int (SqL.of hr1) rfl) (at_op (z := .int (i + 1 - 1)) op_sub (at_ix (at_var 0 rfl) at_int (SqL.of hr1) rfl) at_int (fun Q q => ⟨i + 1, 1, rfl, rfl, q⟩)) (sq keep1) hc (by exact fun _ _ => rfl) _ ?_))
      refine wSs_cons ((ps_asg wE.pe (pg_sub wE.pe wE.pe set_list)).w (at_op (z := .int ((sd * 48271 + c + 11) % 2147483647)) op_mod (at_int1 (at_op (z := .int (sd * 48271 + c + 11)) op_add (at_op (z := .int (sd * 48271 + c)) op_add (at_op (z := .int (sd * 48271)) op_mul (at_ix (at_var 0 rfl) at_int (SqL.of hr1) rfl) at_int (fun Q q => ⟨sd, 48271, rfl, rfl, .inr (by decide), q⟩)) (at_var 3 rfl) (fun Q q => ⟨_, c, rfl, rfl, q⟩)) at_int (fun Q q => ⟨_, 11, rfl, rfl, q⟩)) hint) at_int (fun Q q => ⟨_, 2147483647, rfl, rfl, (by decide : (0 : Int) < 2147483647), q⟩) _ ?_))
      refine at_k (at_var 0 rfl) (at_k at_int ⟨r, _, 2, 2, rfl, rfl, hr1, rfl, ?_⟩)
      have hr2 : upd H1 r (.lst [.ref scr, .int (i + 1), .int ((sd * 48271 + c + 11) % 2147483647), .int rest]) r = some (.lst [.ref scr, .int (i + 1), .int ((sd * 48271 + c + 11) % 2147483647), .int rest]) := upd_same
      have keep2 : ∀ (a : Addr) (u : HO), a ≠ r → H a = some u → upd H1 r (.lst [.ref scr, .int (i + 1), .int ((sd * 48271 + c + 11) % 2147483647), .int rest]) a = some u := k2
      revert hr2 keep2
      show _ → _ → wSs _ _ _ _ (upd H1 r (.lst [.ref scr, .int (i + 1), .int ((sd * 48271 + c + 11) % 2147483647), .int rest]))
      generalize upd H1 r (.lst [.ref scr, .int (i + 1), .int ((sd * 48271 + c + 11) % 2147483647), .int rest]) = H2
      intro hr2 keep2
      have k3 : ∀ {o : HO} (a : Addr) (u : HO), a ≠ r → H a = some u → upd H2 r o a = some u := fun {o} a u n e => by rw [upd_ne n]; exact keep2 a u n e
      obtain ⟨k, ek, hk⟩ := modk c
      refine wSs_cons ((ps_if wT.pt wSs.ps wSs.ps).w (at_cmp (k := decide ((10 : Int) ^ (18 : Int).toNat ≤ c)) op_ge (at_var 3 rfl) (at_op (z := .int ((10 : Int) ^ (18 : Int).toNat)) op_pow at_int at_int (fun Q q => ⟨10, 18, rfl, rfl, ⟨by decide, by decide, by decide⟩, q⟩)) (fun Q q => ⟨c, _, rfl, rfl, q⟩) ?_))
      have out : ∀ (q' : Int) (H' : Hp), (∀ a o, a ≠ r → H a = some o → H' a = some o) → H' r = some (.lst [.ref scr, .int (i + 1), .int ((sd * 48271 + c + 11) % 2147483647), .int q']) →
          wSs (cxOf CX0 P w K mg base ["_law_row", "_law_many", "_law_found", "_law_cell"] "_law_taken" (defScope s__law_taken) f cdv A outer s H E).nox ((defBody s__law_taken).drop 6) { nx := fun x H' => Q .non H', rt := Q } [some (.ref r), some (.int m), none, some (.int c)] H' := fun q' H' keep hr' => by
        refine wSs_cons ((ps_ret wE.pe).w (at_op (z := .int (c % m)) op_mod (at_int1 (at_var 3 rfl) hint) (at_var 1 rfl) (fun Q q => ⟨c, m, rfl, rfl, h0, q⟩) _ ?_))
        rw [ek]
        exact fin k (i + 1) _ q' _ hk (by omega) keep hr'
      by_cases hg : (10 : Int) ^ (18 : Int).toNat ≤ c
      · rw [decide_eq_true hg]
        refine iteT (wSs_cons ((ps_asg wE.pe (pg_sub wE.pe wE.pe set_list)).w (at_op (z := .int (c / m)) op_fdiv (at_var 3 rfl) (at_var 1 rfl) (fun Q q => ⟨c, m, rfl, rfl, ⟨h0, h1⟩, q⟩) _ ?_)))
        refine at_k (at_var 0 rfl) (at_k at_int ⟨r, _, 3, 3, rfl, rfl, hr2, rfl, ?_⟩)
        exact pss_nil.w (out (c / m) _ k3 upd_same)
      · rw [decide_eq_false hg]
        exact iteF (pss_nil.w (out rest _ keep2 hr2))
theorem fd_law_mask (F : FnP K "_law_mask" s__law_mask f fd) (hrng : mg "range" = none) (F1 : DRAW P w K mg base k) : FnOk P w K mg base CX0 (k + 1) f fd ["_law_row", "_law_width"] (spW K pre_mask post_mask) := by
  have sc : FnScope ["_law_row", "_law_width", "_law_many", "_law_at"] ["_law_row", "_law_width"] (defScope s__law_mask) := ⟨rfl, rfl, rfl, by decide +kernel, rfl, by decide +kernel, by decide +kernel⟩
  refine fd_row F sc _ _ (fun ds ⟨m, e, _⟩ => by rw [e]; rfl) fun cdv A outer s H E hr W r scr ns ds hrow hR => ?_
  obtain ⟨wd, rfl, h1, h2⟩ := hR
  refine run_setP 2 (ev_takenN wd F1 hr hrow 0 (vr 1) rfl h1 (by omega)) (fun d ⟨mn, e, hm⟩ => ?_) sc.nd
  subst e
  refine run_if (k := decide (mn = 0)) (tc (vr 2) ed_int c_eqI |>.to (decide_eq_decide.mpr (by omega))) (fun q => run_ret (ed_S [120]) ⟨wd, [120], rfl, rfl, by decide, h1⟩) (fun q => run_skip ?_)
  have q' : mn ≠ 0 := of_decide_eq_false q
  have one : ∀ cs : List Nat, (∀ c ∈ cs, c = 120 ∨ c = 46) → cs.length = mn - 1 → maskB (120 :: cs ++ [120]) = true := fun cs hc hl => by
    unfold maskB
    simp only [Bool.and_eq_true, decide_eq_true_eq, List.all_eq_true]
    refine ⟨⟨⟨⟨by simp, by simp; omega⟩, fun c hcm => ?_⟩, rfl⟩, List.getLast?_concat⟩
    rw [List.mem_append, List.mem_cons] at hcm
    rcases hcm with (h | h) | h
    · subst h; simp
    · rcases hc c h with h | h <;> (subst h; simp)
    · rw [List.mem_singleton.mp h]; simp
  refine run_retV (ev_op (C := fun z => ∃ cs : List Nat, z = sD (120 :: cs ++ [120]) ∧ (∀ c ∈ cs, c = 120 ∨ c = 46) ∧ cs.length = mn - 1) (ev_op (C := fun z => ∃ cs : List Nat, z = sD (120 :: cs) ∧ (∀ c ∈ cs, c = 120 ∨ c = 46) ∧ cs.length = mn - 1) (ed_S [120]).ev (ev_joinC (Ws := fun cs => (∀ c ∈ cs, c = 120 ∨ c = 46) ∧ cs.length = mn - 1) (ed_S [])
    ((lcNV 3 (it_range (n := mn - 1) (ed_op (vr 2) ed_int o_sub) hrng) (fun xs e => by rw [e, List.length_range]; omega) (E := fun _ z => ∃ c, z = sg c ∧ (c = 120 ∨ c = 46)) (fun xs e x hx W1 lw s H C cl fp => (ev_ix (C := fun z => ∃ c, z = sg c ∧ (c = 120 ∨ c = 46)) (ed_S [46, 120]).ev (ev_takenN 2 F1 hr (lw.row.trans hrow) 0 ed_int rfl) (fun x y ex ⟨kk, ey, hk⟩ => by
      subst ex
      subst ey
      match kk, hk with
      | 0, _ => exact ⟨sg 46, ⟨46, rfl, .inr rfl⟩, i_str (n := 0) (by decide) rfl⟩
      | 1, _ => exact ⟨sg 120, ⟨120, rfl, .inl rfl⟩, i_str (n := 1) (by decide) rfl⟩))) sc.nd).ev sc.nd |>.imp fun d ⟨ys, e, xs, ex, hp⟩ => by
        subst ex
        obtain ⟨cs, e2, h3⟩ := paired_sg hp
        refine ⟨cs, by rw [e, e2], h3, ?_⟩
        have := plen hp
        rw [e2, List.length_map, List.length_range] at this
        exact this.symm) (fun cs h => by omega)) (fun x y ex ⟨cs, ey, hc⟩ => by
          subst ex
          subst ey
          exact ⟨sD (120 :: cs), ⟨cs, rfl, hc⟩, o_adds (l := [120]) (by simp; omega)⟩)) (ed_S [120]).ev (fun x y ⟨cs, ex, hc⟩ ey => by
          subst ex
          subst ey
          exact ⟨sD (120 :: cs ++ [120]), ⟨cs, rfl, hc⟩, o_adds (by simp; omega)⟩)) fun d ⟨cs, e, h3, h4⟩ => ⟨wd, 120 :: cs ++ [120], rfl, e, one cs h3 h4, by simp; omega⟩
theorem fd_law_line (F : FnP K "_law_line" s__law_line f fd) (hrng : mg "range" = none) (F1 : DRAW P w K mg base k) : FnOk P w K mg base CX0 (k + 1) f fd ["_law_row", "_law_most", "_law_letters"] (spW K pre_line post_line) := by
  have sc : FnScope ["_law_row", "_law_most", "_law_letters", "_law_at"] ["_law_row", "_law_most", "_law_letters"] (defScope s__law_line) := ⟨rfl, rfl, rfl, by decide +kernel, rfl, by decide +kernel, by decide +kernel⟩
  refine fd_row F sc _ _ (fun ds ⟨m, n, e, _⟩ => by rw [e]; rfl) fun cdv A outer s H E hr W r scr ns ds hrow hR => ?_
  obtain ⟨a, n, rfl, h1, h2, h3⟩ := hR
  refine run_retV (ev_joinC (Ws := fun cs => lowL n cs ∧ cs.length ≤ a) (ed_S [])
    ((lcNV 3 (it_rangeV (P := fun m => m ≤ a) (eva_cons (ev_takenN (a + 1) F1 hr hrow 0 (ed_op (vr 1) ed_int o_add) rfl (by omega) (by omega)) eva_nil |>.imp fun ds ⟨x, r, e, ⟨q, eq, hq⟩, er⟩ => ⟨(q : Int), by rw [e, er, eq], by omega, by omega, by omega⟩) hrng) (fun xs ⟨m, e, hm⟩ => by rw [e, List.length_range]; omega) (E := fun _ z => ∃ c, z = sg c ∧ (97 ≤ c ∧ c < 97 + n)) (fun xs e x hx W1 lw s H C cl fp => (ev_ix (C := fun z => ∃ c, z = sg c ∧ (97 ≤ c ∧ c < 97 + n)) (ed_S [97, 98, 99, 100]).ev (ev_takenN n F1 hr (lw.row.trans hrow) 0 (vr 2) rfl (by omega) (by omega)) (fun x y ex ⟨kk, ey, hk⟩ => by
      subst ex
      subst ey
      have hk4 : kk < 4 := by omega
      match kk, hk4, hk with
      | 0, _, hk => exact ⟨sg 97, ⟨97, rfl, by omega⟩, i_str (n := 0) (by decide) rfl⟩
      | 1, _, hk => exact ⟨sg 98, ⟨98, rfl, by omega⟩, i_str (n := 1) (by decide) rfl⟩
      | 2, _, hk => exact ⟨sg 99, ⟨99, rfl, by omega⟩, i_str (n := 2) (by decide) rfl⟩
      | 3, _, hk => exact ⟨sg 100, ⟨100, rfl, by omega⟩, i_str (n := 3) (by decide) rfl⟩))) sc.nd).ev sc.nd |>.imp fun d ⟨ys, e, xs, ⟨m, ex, hm⟩, hp⟩ => by
        subst ex
        obtain ⟨cs, e2, h3⟩ := paired_sg hp
        refine ⟨cs, by rw [e, e2], h3, ?_⟩
        have := plen hp
        rw [e2, List.length_map, List.length_range] at this
        omega) (fun cs h => by omega)) fun d ⟨cs, e, h3, h4⟩ => ⟨a, n, cs, rfl, e, h4, h3⟩
theorem fd_law_open (F : FnP K "_law_open" s__law_open f fd) (G : Gs mg) : FnOk P w K mg base CX0 (k + 1) f fd ["_law_mask_here"] (spR K R_open) := by
  have sc : FnScope ["_law_mask_here", "_law_at"] ["_law_mask_here"] (defScope s__law_open) := ⟨rfl, rfl, rfl, by decide +kernel, rfl, by decide +kernel, by decide +kernel⟩
  refine fd_pure F sc _ (fun ds d ⟨m, e, _⟩ => by rw [e]; rfl) fun cdv A outer s H E hr W ds d hrow hR => ?_
  obtain ⟨m, rfl, h1, rfl⟩ := hR
  refine run_ret (lcN1 1 (it_range (n := m.length) (ed_callB G.len boot_len (ea_cons (vr 0) ea_nil) (c_lenS (by omega))) G.range) (by simp; omega) (fun i => decide (m.getD i 0 = 120)) nn (fun i hi W1 lw s H C cl fp => tc (ed_ix (vr 0) (vr 1) (i_str (c := m.getD i 0) (n := i) (by omega) (by
      have : i < m.length := by simpa using hi
      rw [List.getD_eq_getElem?_getD, List.getElem?_eq_getElem this]
      rfl))) (ed_S [120]) (c_eqS (l := [m.getD i 0]) (m := [120])) |>.to (by simp)) (fun i hi hc W1 lw s H C cl fp => vr 1) sc.nd |>.ed sc.nd) rfl
theorem fd_law_views (F : FnP K "_law_views" s__law_views f fd) (G : Gs mg) (F1 : Fd P w K mg base k "_law_open" ["_law_mask_here"] (spR K R_open)) : FnOk P w K mg base CX0 (k + 1) f fd ["_law_line_here", "_law_mask_here"] (spR K R_lviews) := by
  have sc : FnScope ["_law_line_here", "_law_mask_here", "_law_found", "_law_place", "_law_at"] ["_law_line_here", "_law_mask_here"] (defScope s__law_views) := ⟨rfl, rfl, rfl, by decide +kernel, rfl, by decide +kernel, by decide +kernel⟩
  refine fd_pure F sc _ (fun ds d ⟨m, n, e, _⟩ => by rw [e]; rfl) fun cdv A outer s H E hr W ds d hrow hR => ?_
  obtain ⟨l, m, rfl, h1, h2, h3, rfl⟩ := hR
  have ho : (openL m).length ≤ m.length := by
    unfold openL
    refine Nat.le_trans (List.length_filter_le ..) ?_
    simp
  have hll : (lawV l m).length = l.length + 1 - m.length := by simp [lawV]
  refine run_newL 2 (fun a => ?_) sc.nd
  refine run_for 3 (it_range (n := l.length + 1 - m.length) (ed_op (ed_op (ed_callB G.len boot_len (ea_cons (vr 0) ea_nil) (c_lenS (by omega))) (ed_callB G.len boot_len (ea_cons (vr 1) ea_nil) (c_lenS (by omega))) o_sub) ed_int o_add) G.range)
    (fun i Γ μ => Γ = [.d (sD l), .d (sD m), .r a, .no, .no] ∧ μ = [(a, .lst (((lawV l m).take i).map sD))]) ⟨rfl, rfl⟩ (fun W1 lw i x Γ' μ' hx ⟨e1, e2⟩ => ?_) (fun Γ' μ' ⟨e1, e2⟩ => ?_) sc.nd
  · subst e1
    subst e2
    have hi : i < l.length + 1 - m.length := by
      have := (List.getElem?_eq_some_iff.mp hx).1
      simpa using this
    have hxi : x = i := by
      rw [List.getElem?_range hi] at hx
      exact (Option.some.inj hx).symm
    subst hxi
    have hv : (lawV l m)[x]? = some ((openL m).map fun a => l.getD (x + a) 0) := by
      unfold lawV
      rw [List.getElem?_map, List.getElem?_range hi]
      rfl
    refine run_app (ys := ((lawV l m).take x).map sD) 2 0 (ed_joinC ((openL m).map fun a => l.getD (x + a) 0) (ed_S []) (lcN0 4 (it_list (enc := nn) (xs := openL m) (ed_call F1 hr (ea_cons (vr 1) ea_nil) ⟨m, rfl, h3, rfl⟩)) (by omega) (fun a => sg (l.getD (x + a) 0)) (fun a ha W2 lw2 s2 H2 C2 cl2 fp2 => ed_ix (vr 0) (ed_op (vr 3) (vr 4) o_add) (i_str (n := x + a) (by omega) (by
        have h4 : a < m.length := by
          have := (List.mem_filter.mp ha).1
          simpa using this
        have : x + a < l.length := by omega
        rw [List.getD_eq_getElem?_getD, List.getElem?_eq_getElem this]
        rfl) (by push_cast; rfl))) sc.nd |>.ed sc.nd) (by rw [List.map_map]; rfl) (by simp; omega)) (by rw [List.length_map, List.length_take]; omega) ?_
    refine run_go [.d (sD l), .d (sD m), .r a, .no, .no] ⟨.inr rfl, .inr rfl, .inr rfl, .inl rfl, .inr rfl, trivial⟩ ?_
    refine ⟨rfl, ?_⟩
    show [(a, MO.lst (((lawV l m).take x).map sD ++ [sD ((openL m).map fun a => l.getD (x + a) 0)]))] = _
    rw [List.take_add_one, hv, List.map_append]
    rfl
  · subst e1
    subst e2
    refine run_retL 2 (hl := by simp) ?_
    rw [List.length_range, ← hll, List.take_length]
theorem fd_law_look (F : FnP K "_law_look" s__law_look f fd) (G : Gs mg) (F0 : DRAW P w K mg base k) (F1 : Fd P w K mg base k "_law_open" ["_law_mask_here"] (spR K R_open)) (F2 : Fd P w K mg base k "_law_views" ["_law_line_here", "_law_mask_here"] (spR K R_lviews)) : FnOk P w K mg base CX0 (k + 1) f fd ["_law_row", "_law_line_here", "_law_mask_here"] (spW K pre_look post_look) := by
  have sc : FnScope ["_law_row", "_law_line_here", "_law_mask_here", "_law_told", "_law_many", "_law_view", "_law_at", "_law_k"] ["_law_row", "_law_line_here", "_law_mask_here"] (defScope s__law_look) := ⟨rfl, rfl, rfl, by decide +kernel, rfl, by decide +kernel, by decide +kernel⟩
  refine fd_row F sc _ _ (fun ds ⟨l, m, e, _⟩ => by rw [e]; rfl) fun cdv A outer s H E hr W r scr ns ds hrow hR => ?_
  obtain ⟨l, m, rfl, hl, hlow, hm⟩ := hR
  have hu := hr.units
  have hml := maskB_len hm
  have hm1 := maskB_pos hm
  have hs1 := maskB_seen hm
  have hsl := seenL_len m
  have hvl := viewsL_len l m
  obtain ⟨M, hM⟩ : ∃ M, M = (seenL m).length := ⟨_, rfl⟩
  rw [← hM] at hs1 hsl
  have hlook : ∀ t, lookB m t = true → t.length = M := fun t ht => by rw [hM]; exact (lookB_iff.mp ht).1
  refine run_set (d := wD (viewsL l m)) 3 ((ed_call F2 hr (ea_cons (vr 1) (ea_cons (vr 2) ea_nil)) ⟨l, m, rfl, by omega, by omega, by omega, rfl⟩).to (by rw [lawV_eq])) ?_ sc.nd
  refine run_set (d := nn M) 4 ((lenL G (ed_call F1 hr (ea_cons (vr 2) ea_nil) ⟨m, rfl, by omega, rfl⟩)).to (by rw [List.length_map, open_seen, hM])) ?_ sc.nd
  refine run_setP (P := fun d => ∃ t : List Nat, d = sD t ∧ lookB m t = true) 5 ((ev_joinN (Q := fun c => 97 ≤ c ∧ c < 101) (P := fun xs : List Nat => xs = List.range M) 6 (ed_S []) (it_range (n := M) (vr 4) G.range) (fun xs h => by rw [h, List.length_range]; omega) (fun xs px x hx W1 lw s2 H2 C2 cl2 fp2 => (ev_sgn [97, 98, 99, 100] (by decide) (ed_S [97, 98, 99, 100]) ((ev_takenN 3 F0 hr (lw.row.trans hrow) 0 ed_int rfl).imp fun d ⟨q, e, hq⟩ => ⟨q, e, by simp; omega⟩)).imp fun z ⟨c, e, hc⟩ => ⟨c, e, by simp at hc; omega⟩) sc.nd).imp fun d ⟨cs, e, hc, xs, px, el⟩ => ⟨cs, e, lookB_iff.mpr ⟨by rw [el, px, List.length_range, hM], fun c h => .inr (hc c h)⟩⟩) (fun d ⟨t, e, ht⟩ => ?_) sc.nd
  subst e
  refine run_ifVJ (A := fun b => b = true → viewsL l m ≠ []) (fun Γ μ => ∃ t, lookB m t = true ∧ wk Γ [.r r, .d (sD l), .d (sD m), .d (wD (viewsL l m)), .d (nn M), .d (sD t), .no, .no] ∧ μ = []) (EvW.t (tvw_and (A := fun b => b = true → viewsL l m ≠ []) ((tc (vr 3) (ed_lst ea_nil (by simp)) (c_neNil hu (shp_w (views_128 fun c hc => by have := hlow c hc; omega)))).ev (fun q => by
      intro e
      rw [e] at q
      cases q)) (fun q => tvw_and1 (tc_ev (e := .Name "_law_row" ⟨0, 0, 0, 0⟩) (ev_takenN 4 F0 hr hrow 0 ed_int rfl) (ed_int.ev) (fun x y ⟨q1, ex, _⟩ ey => by
      subst ex
      subst ey
      exact ⟨_, fun _ => q rfl, c_gt⟩))) (fun q h => by cases h))) (fun q => ?_) (fun q => ?_) (fun Γ' μ' ⟨t, ht, w', e2⟩ => ?_)
  · have hne := q rfl
    have hp : 1 ≤ (viewsL l m).length := List.length_pos_iff.mpr hne
    refine run_setP (P := fun d => ∃ v, d = sD v ∧ v ∈ viewsL l m) 5 ((ev_pick ((viewsL l m).map sD) (vr 3) ((ev_taken (A := fun z => z = nn (viewsL l m).length) 4001 F0 hr hrow 0 ((lenLw G (vr 3)).evP rfl) (fun d e => ⟨(viewsL l m).length, e, hp, by omega⟩)).imp fun d ⟨z, q, ez, ed, hq, _⟩ => ⟨q, ed, by
      have e := PyData.int.inj ez
      rw [List.length_map]
      omega⟩)).imp fun z hz => by
        obtain ⟨v, hv, rfl⟩ := List.mem_map.mp hz
        exact ⟨v, rfl, hv⟩) (fun d ⟨v, e, hv⟩ => ?_) sc.nd
    subst e
    refine run_turn rfl ⟨v, ?_, wk_s (wk_s (wk_s (wk_s (wk_s (wk_s (wk_0 (wk_0 wk_n))))))), rfl⟩
    unfold viewsL at hv
    obtain ⟨p, hp, rfl⟩ := List.mem_map.mp hv
    have := List.mem_range.mp hp
    exact lookB_view hlow (by omega)
  · exact run_turn rfl ⟨t, ht, wk_s (wk_s (wk_s (wk_s (wk_s (wk_s (wk_0 (wk_0 wk_n))))))), rfl⟩
  subst e2
  refine run_weak ?_ w'
  clear w'
  refine run_forV 7 ((it_rangeV (P := fun n => n ≤ 2) (eva_cons (ev_takenN 3 F0 hr hrow 0 ed_int rfl) eva_nil |>.imp fun ds ⟨x, r, e, ⟨q, eq, hq⟩, er⟩ => ⟨(q : Int), by rw [e, er, eq], by omega, by omega, by omega⟩) G.range)) (fun Γ μ => ∃ t, lookB m t = true ∧ wk Γ [.r r, .d (sD l), .d (sD m), .no, .d (nn M), .d (sD t), .no, .no] ∧ μ = []) ⟨t, ht, wk_s (wk_s (wk_s (wk_0 (wk_s (wk_s (wk_s (wk_s wk_n))))))), rfl⟩ (fun xs px W1 lw x hx Γ' μ' ⟨t, ht, w', e2⟩ => ?_) (fun Γ' μ' ⟨t, ht, w', e2⟩ => ?_) sc.nd
  · subst e2
    refine run_weak ?_ (run_forS.wk_set w' 7)
    have hrow1 := lw.row.trans hrow
    have htl := hlook t ht
    refine run_setP (P := fun d => ∃ i : Nat, d = nn i ∧ i < M) 6 ((ev_taken (A := fun z => z = nn M) 12 F0 hr hrow1 0 ((vr 4).evP rfl) (fun d e => ⟨M, e, hs1, by omega⟩)).imp fun d ⟨z, q, ez, ed, hq, _⟩ => ⟨q, ed, by
      have e := PyData.int.inj ez
      omega⟩) (fun d ⟨i, e, hi⟩ => ?_) sc.nd
    subst e
    refine run_setP (P := fun d => ∃ t' : List Nat, d = sD t' ∧ lookB m t' = true) 5 (ev_op (ev_op (A := fun z => z = sD (t.take i)) (C := fun z => ∃ c, z = sD (t.take i ++ [c]) ∧ (c = 63 ∨ 97 ≤ c ∧ c < 101)) ((ed_sl (vr 5) so_none (so_some (vr 6)) (s_strT i (by omega))).evP rfl) (ev_sgn [97, 98, 99, 100, 63] (by decide) (ed_S [97, 98, 99, 100, 63]) (ev_takenN 5 F0 hr hrow1 0 ed_int rfl)) (fun x y ex ⟨c, ey, hc⟩ => by
        subst ex
        subst ey
        exact ⟨_, ⟨c, rfl, by simp at hc; omega⟩, o_adds (m := [c]) (by simp; omega)⟩)) (B := fun z => z = sD (t.drop (i + 1))) ((ed_sl (vr 5) (so_some (ed_op (vr 6) ed_int o_add)) so_none (s_strD (i + 1) (by omega))).evP rfl) (fun x y ⟨c, ex, hc⟩ ey => by
        subst ex
        subst ey
        exact ⟨_, ⟨chgL t i c, rfl, lookB_chg ht (by omega) hc⟩, o_adds (by simp; omega)⟩)) (fun d ⟨t', e, ht'⟩ => ?_) sc.nd
    subst e
    exact run_turn rfl ⟨t', ht', wk_s (wk_s (wk_s (wk_s (wk_s (wk_s (wk_0 (wk_0 wk_n))))))), rfl⟩
  · subst e2
    refine run_weak ?_ w'
    exact run_retV (vr 5).ev fun d e => ⟨l, m, t, rfl, e, ht⟩
theorem fd_is_row (F : FnP K "is_row" s_is_row f fd) (G : Gs mg) (gL : gLETTERS mg) (gR : gMOST_ROW mg) : FnOk P w K mg base CX0 (k + 1) f fd ["value"] (spR K R_is_row) := by
  have sc : FnScope ["value", "sign"] ["value"] (defScope s_is_row) := ⟨rfl, rfl, rfl, by decide +kernel, rfl, by decide +kernel, by decide +kernel⟩
  refine fd_pure F sc _ (fun ds d ⟨m, e, _⟩ => by rw [e]; rfl) fun cdv A outer s H E hr W ds d hrow hR => ?_
  obtain ⟨l, rfl, hm, rfl⟩ := hR
  unfold rowB at hm
  simp only [Bool.and_eq_true, decide_eq_true_eq] at hm
  obtain ⟨h1, h2⟩ := hm
  refine run_ret (ed_and (k := true) (l := true) (ed_isi (T := "str") (vr 0) G.isinstance G.str (by decide +kernel)) fun _ => ed_and (k := true) (l := true) ((ed_cmp (ed_callB G.len boot_len (ea_cons (vr 0) ea_nil) (c_lenS (by omega))) (ed_gint gR) c_le).to ?_) fun _ => ed_one ((ed_callB G.all boot_all (ea_cons (lcN0 1 (it_str (vr 0)) (by omega) (fun c => .bool (decide (c ∈ [97, 98, 99, 100]))) (fun c hc W1 l s H C cl fp => ed_cmp (vr 1) (ed_gS [97, 98, 99, 100] gL) c_inS) sc.nd |>.ed sc.nd) ea_nil) (c_all (bs := l.map fun c => decide (c ∈ [97, 98, 99, 100])) rfl |> fun z => by rw [List.map_map] at z; exact z)).to ?_)) rfl
  · exact congrArg PyData.bool (decide_eq_true (by omega))
  · rw [List.all_map]
    exact congrArg PyData.bool h2
theorem fd_need_row (F : FnP K "need_row" s_need_row f fd) (F1 : Fd P w K mg base k "is_row" ["value"] (spR K R_is_row)) : FnOk P w K mg base CX0 (k + 1) f fd ["row"] (spR K R_need_row) := by
  have sc : FnScope ["row"] ["row"] (defScope s_need_row) := ⟨rfl, rfl, rfl, by decide +kernel, rfl, by decide +kernel, by decide +kernel⟩
  refine fd_pure F sc _ (fun ds d ⟨m, e, _⟩ => by rw [e]; rfl) fun cdv A outer s H E hr W ds d hrow hR => ?_
  obtain ⟨m, rfl, hm, rfl⟩ := hR
  exact run_if (k := false) (t_not (k := true) (et_val (ed_call F1 hr (ea_cons (vr 0) ea_nil) ⟨m, rfl, hm, rfl⟩))) (fun q => nomatch q) (fun _ => run_skip (run_end rfl))
theorem fd_is_mask (F : FnP K "is_mask" s_is_mask f fd) (G : Gs mg) (gS : gSEEN mg) (gH : gHOLE mg) (gM : gMOST_MASK mg) : FnOk P w K mg base CX0 (k + 1) f fd ["value"] (spR K R_is_mask) := by
  have sc : FnScope ["value", "sign"] ["value"] (defScope s_is_mask) := ⟨rfl, rfl, rfl, by decide +kernel, rfl, by decide +kernel, by decide +kernel⟩
  refine fd_pure F sc _ (fun ds d ⟨m, e, _⟩ => by rw [e]; rfl) fun cdv A outer s H E hr W ds d hrow hR => ?_
  obtain ⟨m, rfl, hm, rfl⟩ := hR
  unfold maskB at hm
  simp only [Bool.and_eq_true, decide_eq_true_eq] at hm
  obtain ⟨⟨⟨⟨h1, h2⟩, h3⟩, h4⟩, h5⟩ := hm
  refine run_if (k := false) ((t_or (t_not (et_val (ed_isi (T := "str") (vr 0) G.isinstance G.str (by decide +kernel)))) fun _ => t_not (tc_chain ed_int (ed_callB G.len boot_len (ea_cons (vr 0) ea_nil) (c_lenS (by omega))) (fun _ => ed_gint gM) c_le c_le)).to ?_) (fun q => nomatch q) (fun _ => run_skip ?_)
  · have e1 : decide ((1 : Int) ≤ ((m.length : Nat) : Int)) = true := decide_eq_true (by omega)
    have e2 : decide (((m.length : Nat) : Int) ≤ (12 : Int)) = true := decide_eq_true (by omega)
    rw [e1, e2]
    rfl
  · refine run_ret ((ed_and (k := true) (l := true) ((ed_callB G.all boot_all (ea_cons (lcN0 1 (it_str (vr 0)) (by omega) (fun c => .bool (decide (c ∈ [120, 46]))) (fun c hc W1 l s H C cl fp => ed_cmp (vr 1) (ed_op (ed_gS [120] gS) (ed_gS [46] gH) (o_adds (by decide))) c_inS) sc.nd |>.ed sc.nd) ea_nil) (c_all (bs := m.map fun c => decide (c ∈ [120, 46])) rfl |> fun z => by rw [List.map_map] at z; exact z)).to ?_)
      (fun _ => ed_and (k := true) (l := true) ((ed_cmp (ed_ix (vr 0) ed_int (i_str (n := 0) (by omega) h4)) (ed_gS [120] gS) (c_eqS (l := [120]))).to ?_) fun _ => ed_one ((ed_cmp (ed_ix (vr 0) (ed_neg ed_int) (i_strL (by omega) h5)) (ed_gS [120] gS) (c_eqS (l := [120]))).to ?_)))) rfl
    · rw [List.all_map]
      exact congrArg PyData.bool h3
    · rfl
    · rfl
theorem fd_need_mask (F : FnP K "need_mask" s_need_mask f fd) (F1 : Fd P w K mg base k "is_mask" ["value"] (spR K R_is_mask)) : FnOk P w K mg base CX0 (k + 1) f fd ["mask"] (spR K R_need_mask) := by
  have sc : FnScope ["mask"] ["mask"] (defScope s_need_mask) := ⟨rfl, rfl, rfl, by decide +kernel, rfl, by decide +kernel, by decide +kernel⟩
  refine fd_pure F sc _ (fun ds d ⟨m, e, _⟩ => by rw [e]; rfl) fun cdv A outer s H E hr W ds d hrow hR => ?_
  obtain ⟨m, rfl, hm, rfl⟩ := hR
  exact run_if (k := false) (t_not (k := true) (et_val (ed_call F1 hr (ea_cons (vr 0) ea_nil) ⟨m, rfl, hm, rfl⟩))) (fun q => nomatch q) (fun _ => run_skip (run_end rfl))
theorem fd_seen_by (F : FnP K "seen_by" s_seen_by f fd) (G : Gs mg) (gS : gSEEN mg) : FnOk P w K mg base CX0 (k + 1) f fd ["mask"] (spR K R_seen_by) := by
  have sc : FnScope ["mask", "at", "sign"] ["mask"] (defScope s_seen_by) := ⟨rfl, rfl, rfl, by decide +kernel, rfl, by decide +kernel, by decide +kernel⟩
  refine fd_pure F sc _ (fun ds d ⟨m, e, _⟩ => by rw [e]; rfl) fun cdv A outer s H E hr W ds d hrow hR => ?_
  obtain ⟨m, rfl, hl, rfl⟩ := hR
  refine run_ret (lcP1 1 2 (it_enum (vr 0) G.enumerate rfl) (by simpa using hl) (fun q => decide (q.2 = 120)) (fun q => nn q.1) (fun q hq W1 l s H C cl fp => tc (vr 2) (ed_gS [120] gS) (c_eqS (m := [120])) |>.to ?_) (fun q hq hc W1 l s H C cl fp => vr 1) sc.nd |>.ed sc.nd) ?_
  · simp
  · show PyData.list _ = PyData.list _
    unfold seenL
    rw [List.map_map]
    rfl
theorem fn_stands_of (F : FnP K "stands_of" s_stands_of f fd) (G : Gs mg) (gB : gBACK mg) (gO : gON mg) (F1 : Fd P w K mg base k "seen_by" ["mask"] (spR K R_seen_by)) : FnOk P w K mg base CX0 (k + 1) f fd ["row", "mask"] (spN K R_stands_of) := by
  have sc : FnScope ["row", "mask", "found", "places", "place", "at"] ["row", "mask"] (defScope s_stands_of) := ⟨rfl, rfl, rfl, by decide +kernel, rfl, by decide +kernel, by decide +kernel⟩
  refine fd_new F sc _ (fun ds d ⟨l, m, e, _⟩ => by rw [e]; rfl) fun cdv A outer s H E hr W ds d hrow hR => ?_
  obtain ⟨l, m, rfl, hl, hm1, hml, rfl⟩ := hR
  have hsl := seenL_len m
  have g : ∀ i : Nat, i < l.length → l[i]? = some (l.getD i 0) := fun i hi => by
    rw [List.getD_eq_getElem?_getD, List.getElem?_eq_getElem hi]
    rfl
  refine run_parL0 2 3 (fun a => ed_call F1 hr (ea_cons (vr 1) ea_nil) ⟨m, rfl, by omega, rfl⟩) (fun a => ?_) sc.nd
  refine run_forS 4 (it_range (n := l.length) (lenS G (vr 0)) G.range) (fun i => [.d (sD l), .d (sD m), .r a, .d (nD (seenL m)), .no, .no]) (fun i => [(a, .lst (((List.range i).flatMap (standAt l m)).map zD))]) (fun W1 lw i x hx => ?_) ?_ sc.nd
  · have hi : i < l.length := by
      have := (List.getElem?_eq_some_iff.mp hx).1
      simpa using this
    have hxi : x = i := by
      rw [List.getElem?_range hi] at hx
      exact (Option.some.inj hx).symm
    subst hxi
    obtain ⟨acc, hacc⟩ : ∃ acc, acc = ((List.range x).flatMap (standAt l m)).map zD := ⟨_, rfl⟩
    have hal : acc.length ≤ 8000 := by
      have h := flat_len (standAt l m) 2 (List.range x) fun p _ => standAt_len l m p
      rw [List.length_range] at h
      rw [hacc, List.length_map]
      omega
    have hst : ((List.range (x + 1)).flatMap (standAt l m)).map zD = acc ++ (standAt l m x).map zD := by
      rw [List.range_succ, List.flatMap_append, List.map_append, hacc]
      simp
    rw [hst, ← hacc]
    refine run_ifS (k := decide (m.length ≤ x + 1)) [.d (sD l), .d (sD m), .r a, .d (nD (seenL m)), .d (nn x), .no] [(a, .lst (acc ++ (if m.length ≤ x + 1 then [((x, false), backL l m x)] else []).map zD))] (tc (vr 4) (ed_op (lenS G (vr 1)) ed_int o_sub) c_ge |>.to (decide_eq_decide.mpr (by omega))) (fun q => ?_) (fun q => ?_) ?_
    · have q' := of_decide_eq_true q
      refine run_app (ys := acc) (d := zD ((x, false), backL l m x)) 2 0 (ed_tup (ea_cons (ed_tup (ea_cons (vr 4) (ea_cons (ed_gS [98, 97, 99, 107] gB) ea_nil)) (by simp)) (ea_cons (ed_joinC (backL l m x) (ed_S []) (lcN0 5 (it_list (xs := seenL m) (enc := nn) (vr 3)) (by omega) (fun y => sg (l.getD (x - y) 0)) (fun y hy W2 lw2 s2 H2 C2 cl2 fp2 => ed_ix (vr 0) (ed_op (vr 4) (vr 5) o_sub) (i_str (n := x - y) (by omega) (g _ (by omega)) (by have := mem_seen hy; omega))) sc.nd |>.ed sc.nd) (by unfold backL; rw [List.map_map]; rfl) (by unfold backL; rw [List.length_map]; omega)) ea_nil)) (by simp)) (by omega) ?_
      refine run_e ?_
      rw [if_pos q']
      rfl
    · have q' := of_decide_eq_false q
      refine run_e ?_
      rw [if_neg q', List.map_nil, List.append_nil]
    obtain ⟨acc2, hacc2⟩ : ∃ acc2, acc2 = acc ++ (if m.length ≤ x + 1 then [((x, false), backL l m x)] else []).map zD := ⟨_, rfl⟩
    have hal2 : acc2.length ≤ 8001 := by
      rw [hacc2, List.length_append, List.length_map]
      split <;> simp <;> omega
    rw [← hacc2]
    have hst2 : acc ++ (standAt l m x).map zD = acc2 ++ (if x + m.length ≤ l.length then [((x, true), viewL l m x)] else []).map zD := by
      unfold standAt
      rw [List.map_append, ← List.append_assoc, hacc2]
    rw [hst2]
    refine run_if (k := decide (x + m.length ≤ l.length)) (tc (ed_op (vr 4) (lenS G (vr 1)) o_add) (lenS G (vr 0)) c_le |>.to (decide_eq_decide.mpr (by omega))) (fun q => ?_) (fun q => run_skip ?_)
    · have q' := of_decide_eq_true q
      refine run_app (ys := acc2) (d := zD ((x, true), viewL l m x)) 2 0 (ed_tup (ea_cons (ed_tup (ea_cons (vr 4) (ea_cons (ed_gS [111, 110] gO) ea_nil)) (by simp)) (ea_cons (ed_joinC (viewL l m x) (ed_S []) (lcN0 5 (it_list (xs := seenL m) (enc := nn) (vr 3)) (by omega) (fun y => sg (l.getD (x + y) 0)) (fun y hy W2 lw2 s2 H2 C2 cl2 fp2 => ed_ix (vr 0) (ed_op (vr 4) (vr 5) o_add) (i_str (n := x + y) (by omega) (g _ (by have := mem_seen hy; omega)) (by omega))) sc.nd |>.ed sc.nd) (by unfold viewL; rw [List.map_map]; rfl) (by unfold viewL; rw [List.length_map]; omega)) ea_nil)) (by simp)) (by omega) (run_skip ?_)
      refine run_e ?_
      rw [if_pos q']
      rfl
    · have q' := of_decide_eq_false q
      refine run_e ?_
      rw [if_neg q', List.map_nil, List.append_nil]
  · rw [List.length_range]
    exact run_retNL 2 0 rfl
theorem fn_both_views (F : FnP K "both_views" s_both_views f fd) (F1 : Fd P w K mg base k "need_row" ["row"] (spR K R_need_row)) (F2 : Fd P w K mg base k "need_mask" ["mask"] (spR K R_need_mask)) (F3 : Fd P w K mg base k "stands_of" ["row", "mask"] (spN K R_stands_of)) : FnOk P w K mg base CX0 (k + 1) f fd ["row", "mask"] (spN K R_both_views) := by
  have sc : FnScope ["row", "mask"] ["row", "mask"] (defScope s_both_views) := ⟨rfl, rfl, rfl, by decide +kernel, rfl, by decide +kernel, by decide +kernel⟩
  refine fd_new F sc _ (fun ds d ⟨l, m, e, _⟩ => by rw [e]; rfl) fun cdv A outer s H E hr W ds d hrow hR => ?_
  obtain ⟨l, m, rfl, h1, h3, rfl⟩ := hR
  have := rowB_len h1
  have := maskB_len h3
  have := maskB_pos h3
  exact run_expr (ed_call F1 hr (ea_cons (vr 0) ea_nil) ⟨l, rfl, h1, rfl⟩) (run_expr (ed_call F2 hr (ea_cons (vr 1) ea_nil) ⟨m, rfl, h3, rfl⟩) (run_retNM (em_new F3 hr (ea_cons (vr 0) (ea_cons (vr 1) ea_nil)) ⟨l, m, rfl, by omega, by omega, by omega, rfl⟩) (fun d μ1 ⟨a, e1, e2⟩ => ⟨a, _, e1, by rw [e2]; exact List.mem_cons_self, rfl⟩)))
theorem fd_is_view (F : FnP K "is_view" s_is_view f fd) (G : Gs mg) (gL : gLETTERS mg) (gO : gOPEN mg) (F1 : Fd P w K mg base k "seen_by" ["mask"] (spR K R_seen_by)) : FnOk P w K mg base CX0 (k + 1) f fd ["mask", "value"] (spR K R_is_view) := by
  have sc : FnScope ["mask", "value", "sign"] ["mask", "value"] (defScope s_is_view) := ⟨rfl, rfl, rfl, by decide +kernel, rfl, by decide +kernel, by decide +kernel⟩
  refine fd_pure F sc _ (fun ds d ⟨m, t, e, _⟩ => by rw [e]; rfl) fun cdv A outer s H E hr W ds d hrow hR => ?_
  obtain ⟨m, t, rfl, hm, ht, rfl⟩ := hR
  unfold lookB at ht
  rw [Bool.and_eq_true, decide_eq_true_iff] at ht
  obtain ⟨h1, h2⟩ := ht
  have h3 := seenL_len m
  refine run_if (k := false) ((t_or (t_not (et_val (ed_isi (T := "str") (vr 1) G.isinstance G.str (by decide +kernel)))) fun _ => tc (lenS G (vr 1)) (lenL G (ed_call F1 hr (ea_cons (vr 0) ea_nil) ⟨m, rfl, by omega, rfl⟩)) c_neI).to ?_) (fun q => nomatch q) (fun _ => run_skip ?_)
  · rw [List.length_map, h1]
    simp
  · refine run_ret (ed_callB G.all boot_all (ea_cons (lcN0 2 (it_str (vr 1)) (by omega) (fun c => .bool (decide (c ∈ [97, 98, 99, 100, 63]))) (fun c hc W1 l s H C cl fp => ed_cmp (vr 2) (ed_op (ed_gS [97, 98, 99, 100] gL) (ed_gS [63] gO) (o_adds (by decide))) c_inS) sc.nd |>.ed sc.nd) ea_nil) (c_all (bs := t.map fun c => decide (c ∈ [97, 98, 99, 100, 63])) rfl |> fun z => by rw [List.map_map] at z; exact z)) ?_
    rw [List.all_map]
    exact congrArg PyData.bool h2
theorem fd_stands_of (F : FnP K "stands_of" s_stands_of f fd) (G : Gs mg) (gB : gBACK mg) (gO : gON mg) (F1 : Fd P w K mg base k "seen_by" ["mask"] (spR K R_seen_by)) : FnOk P w K mg base CX0 (k + 1) f fd ["row", "mask"] (spR K R_stands_of) := by
  have sc : FnScope ["row", "mask", "found", "places", "place", "at"] ["row", "mask"] (defScope s_stands_of) := ⟨rfl, rfl, rfl, by decide +kernel, rfl, by decide +kernel, by decide +kernel⟩
  refine fd_pure F sc _ (fun ds d ⟨l, m, e, _⟩ => by rw [e]; rfl) fun cdv A outer s H E hr W ds d hrow hR => ?_
  obtain ⟨l, m, rfl, hl, hm1, hml, rfl⟩ := hR
  have hsl := seenL_len m
  have g : ∀ i : Nat, i < l.length → l[i]? = some (l.getD i 0) := fun i hi => by
    rw [List.getD_eq_getElem?_getD, List.getElem?_eq_getElem hi]
    rfl
  refine run_parL0 2 3 (fun a => ed_call F1 hr (ea_cons (vr 1) ea_nil) ⟨m, rfl, by omega, rfl⟩) (fun a => ?_) sc.nd
  refine run_forS 4 (it_range (n := l.length) (lenS G (vr 0)) G.range) (fun i => [.d (sD l), .d (sD m), .r a, .d (nD (seenL m)), .no, .no]) (fun i => [(a, .lst (((List.range i).flatMap (standAt l m)).map zD))]) (fun W1 lw i x hx => ?_) ?_ sc.nd
  · have hi : i < l.length := by
      have := (List.getElem?_eq_some_iff.mp hx).1
      simpa using this
    have hxi : x = i := by
      rw [List.getElem?_range hi] at hx
      exact (Option.some.inj hx).symm
    subst hxi
    obtain ⟨acc, hacc⟩ : ∃ acc, acc = ((List.range x).flatMap (standAt l m)).map zD := ⟨_, rfl⟩
    have hal : acc.length ≤ 8000 := by
      have h := flat_len (standAt l m) 2 (List.range x) fun p _ => standAt_len l m p
      rw [List.length_range] at h
      rw [hacc, List.length_map]
      omega
    have hst : ((List.range (x + 1)).flatMap (standAt l m)).map zD = acc ++ (standAt l m x).map zD := by
      rw [List.range_succ, List.flatMap_append, List.map_append, hacc]
      simp
    rw [hst, ← hacc]
    refine run_ifS (k := decide (m.length ≤ x + 1)) [.d (sD l), .d (sD m), .r a, .d (nD (seenL m)), .d (nn x), .no] [(a, .lst (acc ++ (if m.length ≤ x + 1 then [((x, false), backL l m x)] else []).map zD))] (tc (vr 4) (ed_op (lenS G (vr 1)) ed_int o_sub) c_ge |>.to (decide_eq_decide.mpr (by omega))) (fun q => ?_) (fun q => ?_) ?_
    · have q' := of_decide_eq_true q
      refine run_app (ys := acc) (d := zD ((x, false), backL l m x)) 2 0 (ed_tup (ea_cons (ed_tup (ea_cons (vr 4) (ea_cons (ed_gS [98, 97, 99, 107] gB) ea_nil)) (by simp)) (ea_cons (ed_joinC (backL l m x) (ed_S []) (lcN0 5 (it_list (xs := seenL m) (enc := nn) (vr 3)) (by omega) (fun y => sg (l.getD (x - y) 0)) (fun y hy W2 lw2 s2 H2 C2 cl2 fp2 => ed_ix (vr 0) (ed_op (vr 4) (vr 5) o_sub) (i_str (n := x - y) (by omega) (g _ (by omega)) (by have := mem_seen hy; omega))) sc.nd |>.ed sc.nd) (by unfold backL; rw [List.map_map]; rfl) (by unfold backL; rw [List.length_map]; omega)) ea_nil)) (by simp)) (by omega) ?_
      refine run_e ?_
      rw [if_pos q']
      rfl
    · have q' := of_decide_eq_false q
      refine run_e ?_
      rw [if_neg q', List.map_nil, List.append_nil]
    obtain ⟨acc2, hacc2⟩ : ∃ acc2, acc2 = acc ++ (if m.length ≤ x + 1 then [((x, false), backL l m x)] else []).map zD := ⟨_, rfl⟩
    have hal2 : acc2.length ≤ 8001 := by
      rw [hacc2, List.length_append, List.length_map]
      split <;> simp <;> omega
    rw [← hacc2]
    have hst2 : acc ++ (standAt l m x).map zD = acc2 ++ (if x + m.length ≤ l.length then [((x, true), viewL l m x)] else []).map zD := by
      unfold standAt
      rw [List.map_append, ← List.append_assoc, hacc2]
    rw [hst2]
    refine run_if (k := decide (x + m.length ≤ l.length)) (tc (ed_op (vr 4) (lenS G (vr 1)) o_add) (lenS G (vr 0)) c_le |>.to (decide_eq_decide.mpr (by omega))) (fun q => ?_) (fun q => run_skip ?_)
    · have q' := of_decide_eq_true q
      refine run_app (ys := acc2) (d := zD ((x, true), viewL l m x)) 2 0 (ed_tup (ea_cons (ed_tup (ea_cons (vr 4) (ea_cons (ed_gS [111, 110] gO) ea_nil)) (by simp)) (ea_cons (ed_joinC (viewL l m x) (ed_S []) (lcN0 5 (it_list (xs := seenL m) (enc := nn) (vr 3)) (by omega) (fun y => sg (l.getD (x + y) 0)) (fun y hy W2 lw2 s2 H2 C2 cl2 fp2 => ed_ix (vr 0) (ed_op (vr 4) (vr 5) o_add) (i_str (n := x + y) (by omega) (g _ (by have := mem_seen hy; omega)) (by omega))) sc.nd |>.ed sc.nd) (by unfold viewL; rw [List.map_map]; rfl) (by unfold viewL; rw [List.length_map]; omega)) ea_nil)) (by simp)) (by omega) (run_skip ?_)
      refine run_e ?_
      rw [if_pos q']
      rfl
    · have q' := of_decide_eq_false q
      refine run_e ?_
      rw [if_neg q', List.map_nil, List.append_nil]
  · rw [List.length_range]
    exact run_retL 2 rfl (hl := by simp)
theorem fd_misses (F : FnP K "misses" s_misses f fd) (G : Gs mg) (gO : gOPEN mg) : FnOk P w K mg base CX0 (k + 1) f fd ["view", "told"] (spR K R_misses) := by
  have sc : FnScope ["view", "told", "left", "right"] ["view", "told"] (defScope s_misses) := ⟨rfl, rfl, rfl, by decide +kernel, rfl, by decide +kernel, by decide +kernel⟩
  refine fd_pure F sc _ (fun ds d ⟨a, b, e, _⟩ => by rw [e]; rfl) fun cdv A outer s H E hr W ds d hrow hR => ?_
  obtain ⟨a, b, rfl, h1, h2, rfl⟩ := hR
  refine run_ret ((lenL G (lcP1 2 3 (it_zip (xs := a) (ys := b) (enc := sg) (enc2 := sg) (vr 0) (vr 1) G.zip rfl rfl) (by simp; omega) (fun q => decide (q.2 ≠ 63) && decide (q.1 ≠ q.2)) (fun _ => .int 1) (fun q hq W1 lw s H C cl fp => t_and (tc (vr 3) (ed_gS [63] gO) (c_neS (l := [q.2]) (m := [63])) |>.to (by simp)) fun _ => tc (vr 2) (vr 3) (c_neS (l := [q.1]) (m := [q.2])) |>.to (by simp)) (fun q hq hc W1 lw s H C cl fp => ed_int) sc.nd |>.ed sc.nd)).to (by rw [List.length_map]; rfl)) rfl
theorem fn_both_find (F : FnP K "both_find" s_both_find f fd) (F1 : Fd P w K mg base k "need_row" ["row"] (spR K R_need_row)) (F2 : Fd P w K mg base k "need_mask" ["mask"] (spR K R_need_mask)) (F5 : Fd P w K mg base k "is_view" ["mask", "value"] (spR K R_is_view)) (F3 : Fd P w K mg base k "stands_of" ["row", "mask"] (spR K R_stands_of)) (F4 : Fd P w K mg base k "misses" ["view", "told"] (spR K R_misses)) : FnOk P w K mg base CX0 (k + 1) f fd ["row", "mask", "told"] (spN K R_both_find) := by
  have sc : FnScope ["row", "mask", "told", "stand", "view"] ["row", "mask", "told"] (defScope s_both_find) := ⟨rfl, rfl, rfl, by decide +kernel, rfl, by decide +kernel, by decide +kernel⟩
  refine fd_new F sc _ (fun ds d ⟨l, m, t, e, _⟩ => by rw [e]; rfl) fun cdv A outer s H E hr W ds d hrow hR => ?_
  obtain ⟨l, m, t, rfl, h1, h3, ht, rfl⟩ := hR
  have := rowB_len h1
  have := maskB_len h3
  have := maskB_pos h3
  have hsl := standsL_len l m
  have htl := (lookB_iff.mp ht).1
  have := seenL_len m
  refine run_expr (ed_call F1 hr (ea_cons (vr 0) ea_nil) ⟨l, rfl, h1, rfl⟩) (run_expr (ed_call F2 hr (ea_cons (vr 1) ea_nil) ⟨m, rfl, h3, rfl⟩) ?_)
  refine run_if (k := false) (t_not (k := true) (et_val (ed_call F5 hr (ea_cons (vr 1) (ea_cons (vr 2) ea_nil)) ⟨m, t, rfl, by omega, ht, rfl⟩))) (fun q => nomatch q) (fun _ => run_skip ?_)
  exact run_retNM (LcEv.evm (lcP1 (e1 := fun z : Stand × List Nat => stD z.1) (e2 := fun z => sD z.2) 3 4 (it_list (xs := standsL l m) (enc := zD) (ed_call F3 hr (ea_cons (vr 0) (ea_cons (vr 1) ea_nil)) ⟨l, m, rfl, by omega, by omega, by omega, rfl⟩)) (by omega) (fun z => decide (missN z.2 t = 0)) (fun z => stD z.1) (fun z hz W1 lw s H C cl fp => tc (ed_call F4 hr (ea_cons (vr 4) (ea_cons (vr 2) ea_nil)) ⟨z.2, t, rfl, by have := stands_view_len hz; omega, by omega, rfl⟩) ed_int c_eqI |>.to (decide_eq_decide.mpr (by omega))) (fun z hz hc W1 lw s H C cl fp => vr 3) sc.nd) sc.nd) (fun d μ1 ⟨a, ys, hz, e1, e2⟩ => ⟨a, ys, e1, by rw [e2]; exact List.mem_cons_self, by rw [hz]⟩)
theorem fd_need_looks (F : FnP K "need_looks" s_need_looks f fd) (G : Gs mg) (gR : gMOST_ROW mg) (F1 : Fd P w K mg base k "is_view" ["mask", "value"] (spR K R_is_view)) : FnOk P w K mg base CX0 (k + 1) f fd ["mask", "looks"] (spR K R_need_looks) := by
  have sc : FnScope ["mask", "looks", "index", "look"] ["mask", "looks"] (defScope s_need_looks) := ⟨rfl, rfl, rfl, by decide +kernel, rfl, by decide +kernel, by decide +kernel⟩
  refine fd_pure F sc _ (fun ds d ⟨m, t, vs, e, _⟩ => by rw [e]; rfl) fun cdv A outer s H E hr W ds d hrow hR => ?_
  obtain ⟨m, t, vs, rfl, h1, h2, h3, h5, rfl⟩ := hR
  refine run_if (k := false) ((t_or (t_not (k := true) (et_val (ed_isLT (vr 1) G.isinstance G.list G.tuple))) fun _ => t_not (tc_chain ed_int (lenSq G (vr 1)) (fun _ => ed_gint gR) c_le c_le)).to ?hc) (fun e => nomatch e) (fun _ => run_skip ?_)
  case hc =>
    have e1 : (decide ((1 : Int) ≤ ((vs.map sD).length : Int)) && decide (((vs.map sD).length : Int) ≤ (60 : Int))) = true := by
      rw [List.length_map, Bool.and_eq_true]
      exact ⟨decide_eq_true (by omega), decide_eq_true (by omega)⟩
    rw [e1]
    rfl
  refine run_for2S (e1 := fun q : Nat × List Nat => nn q.1) (e2 := fun q : Nat × List Nat => sD q.2) 2 3 (it_enumN (xs := vs) (enc := sD) (vr 1) G.enumerate seqD_items) (fun _ => [.d (sD m), .no, .no, .no]) (fun _ => []) (fun W1 lw i q hq => ?_) ?_ sc.nd
  · rw [List.getElem?_mapIdx] at hq
    obtain ⟨v, hv, rfl⟩ := Option.map_eq_some_iff.mp hq
    refine run_if (k := false) (t_not (k := true) (et_val (ed_call F1 hr (ea_cons (vr 0) (ea_cons (vr 3) ea_nil)) ⟨m, v, rfl, h1, h5 v (List.mem_of_getElem? hv), rfl⟩))) (fun e => nomatch e) (fun _ => run_skip run_e)
  · exact run_end rfl
theorem fd_is_from (F : FnP K "is_from" s_is_from f fd) (G : Gs mg) : FnOk P w K mg base CX0 (k + 1) f fd ["value", "low", "high"] (spR K R_is_from) := by
  have sc : FnScope ["value", "low", "high"] ["value", "low", "high"] (defScope s_is_from) := ⟨rfl, rfl, rfl, by decide +kernel, rfl, by decide +kernel, by decide +kernel⟩
  refine fd_pure F sc _ (fun ds d ⟨v, a, b, e, _⟩ => by rw [e]; rfl) fun cdv A outer s H E hr W ds d hrow hR => ?_
  obtain ⟨v, a, b, rfl, rfl⟩ := hR
  exact run_ret (ed_and (k := true) (l := decide (a ≤ v) && decide (v ≤ b)) (ed_isi (T := "int") (vr 0) G.isinstance G.int (by decide +kernel)) fun _ => ed_and (k := true) (l := decide (a ≤ v) && decide (v ≤ b)) (ed_not (k := false) (ed_isi (T := "bool") (vr 0) G.isinstance G.bool (by decide +kernel))) fun _ => ed_one (ed_chain (vr 1) (vr 0) (fun _ => vr 2) c_le c_le)) rfl
theorem fd_need_steps (F : FnP K "need_steps" s_need_steps f fd) (G : Gs mg) (gM : gMOST_MASK mg) (F1 : Fd P w K mg base k "is_from" ["value", "low", "high"] (spR K R_is_from)) : FnOk P w K mg base CX0 (k + 1) f fd ["steps", "many"] (spR K R_need_steps) := by
  have sc : FnScope ["steps", "many", "index", "step"] ["steps", "many"] (defScope s_need_steps) := ⟨rfl, rfl, rfl, by decide +kernel, rfl, by decide +kernel, by decide +kernel⟩
  refine fd_pure F sc _ (fun ds d ⟨_, _, _, e, _⟩ => by rw [e]; rfl) fun cdv A outer s H E hr W ds d hrow hR => ?_
  obtain ⟨t, zs, q, rfl, hq, hz, rfl⟩ := hR
  refine run_if (k := false) ((t_or (t_not (k := true) (et_val (ed_isLT (vr 0) G.isinstance G.list G.tuple))) fun _ => tc (lenSq G (vr 0)) (vr 1) c_neI).to ?hc) (fun e => nomatch e) (fun _ => run_skip ?_)
  case hc =>
    rw [List.length_map, decide_eq_true hq]
    rfl
  refine run_for2S (e1 := fun q : Nat × Int => nn q.1) (e2 := fun q : Nat × Int => iD q.2) 2 3 (it_enumN (xs := zs) (enc := iD) (vr 0) G.enumerate seqD_items) (fun _ => [.no, .no, .no, .no]) (fun _ => []) (fun W1 lw i q hq => ?_) ?_ sc.nd
  · rw [List.getElem?_mapIdx] at hq
    obtain ⟨v, hv, rfl⟩ := Option.map_eq_some_iff.mp hq
    obtain ⟨h1, h2⟩ := hz v (List.mem_of_getElem? hv)
    refine run_if (k := false) (t_not (k := true) (et_val ((ed_call F1 hr (ea_cons (vr 3) (ea_cons (ed_neg (ed_gint gM)) (ea_cons (ed_gint gM) ea_nil))) ⟨v, -12, 12, rfl, rfl⟩).to (congrArg PyData.bool (by simp [h1, h2]))))) (fun e => nomatch e) (fun _ => run_skip run_e)
  · exact run_end rfl
theorem fd_view_by (F : FnP K "view_by" s_view_by f fd) (G : Gs mg) (F1 : Fd P w K mg base k "seen_by" ["mask"] (spR K R_seen_by)) : FnOk P w K mg base CX0 (k + 1) f fd ["row", "mask", "place"] (spR K R_view_by) := by
  have sc : FnScope ["row", "mask", "place", "at"] ["row", "mask", "place"] (defScope s_view_by) := ⟨rfl, rfl, rfl, by decide +kernel, rfl, by decide +kernel, by decide +kernel⟩
  refine fd_pure F sc _ (fun ds d ⟨l, m, p, e, _⟩ => by rw [e]; rfl) fun cdv A outer s H E hr W ds d hrow hR => ?_
  obtain ⟨l, m, p, rfl, h1, h2, h3, rfl⟩ := hR
  have h4 := seenL_len m
  refine run_ret (ed_joinC (viewL l m p) (ed_S []) (lcN0 3 (it_list (enc := nn) (xs := seenL m) (ed_call F1 hr (ea_cons (vr 1) ea_nil) ⟨m, rfl, by omega, rfl⟩)) (by omega) (fun a => sg (l.getD (p + a) 0)) (fun a ha W2 lw2 s2 H2 C2 cl2 fp2 => ed_ix (vr 0) (ed_op (vr 2) (vr 3) o_add) (i_str (n := p + a) (by omega) (by
        have h5 := mem_seen ha
        have : p + a < l.length := by omega
        rw [List.getD_eq_getElem?_getD, List.getElem?_eq_getElem this]
        rfl) (by push_cast; rfl))) sc.nd |>.ed sc.nd) (by unfold viewL; rw [List.map_map]; rfl) (by unfold viewL; simp; omega)) rfl
theorem fd_views_of (F : FnP K "views_of" s_views_of f fd) (G : Gs mg) (F1 : Fd P w K mg base k "view_by" ["row", "mask", "place"] (spR K R_view_by)) : FnOk P w K mg base CX0 (k + 1) f fd ["row", "mask"] (spR K R_views_of) := by
  have sc : FnScope ["row", "mask", "place"] ["row", "mask"] (defScope s_views_of) := ⟨rfl, rfl, rfl, by decide +kernel, rfl, by decide +kernel, by decide +kernel⟩
  refine fd_pure F sc _ (fun ds d ⟨l, m, e, _⟩ => by rw [e]; rfl) fun cdv A outer s H E hr W ds d hrow hR => ?_
  obtain ⟨l, m, rfl, h1, h2, h3, rfl⟩ := hR
  refine run_ret (lcN0 2 (it_range (n := l.length + 1 - m.length) (ed_op (ed_op (ed_callB G.len boot_len (ea_cons (vr 0) ea_nil) (c_lenS (by omega))) (ed_callB G.len boot_len (ea_cons (vr 1) ea_nil) (c_lenS (by omega))) o_sub) ed_int o_add) G.range) (by simp; omega) (fun p => sD (viewL l m p)) (fun p hp W2 lw2 s2 H2 C2 cl2 fp2 => ed_call F1 hr (ea_cons (vr 0) (ea_cons (vr 1) (ea_cons (vr 2) ea_nil))) ⟨l, m, p, rfl, by omega, by omega, by
    have := List.mem_range.mp hp
    omega, rfl⟩) sc.nd |>.ed sc.nd) ?_
  show PyData.list _ = PyData.list _
  unfold viewsL
  rw [List.map_map]
  rfl
theorem fd_places_by (F : FnP K "places_by" s_places_by f fd) (G : Gs mg) : FnOk P w K mg base CX0 (k + 1) f fd ["many", "place", "steps"] (spR K R_places_by) := by
  have sc : FnScope ["many", "place", "steps", "found", "step", "at"] ["many", "place", "steps"] (defScope s_places_by) := ⟨rfl, rfl, rfl, by decide +kernel, rfl, by decide +kernel, by decide +kernel⟩
  refine fd_pure F sc _ (fun ds d ⟨_, _, _, _, e, _⟩ => by rw [e]; rfl) fun cdv A outer s H E hr W ds d hrow hR => ?_
  obtain ⟨n, p, t, ss, rfl, hl, rfl⟩ := hR
  refine run_newLs (ds := [nn p]) 3 ?h0 (by simp) (fun l => ?_) sc.nd
  case h0 => exact ea_cons (vr 1) ea_nil
  have go : ∀ (i : Nat) (x : Int), ss[i]? = some x → (goL p (ss.take i)).map iD ++ [iD ((p : Int) + (ss.take i).sum + x)] = (goL p (ss.take (i + 1))).map iD := fun i x hx => by
    rw [List.take_add_one, hx]
    show _ = (goL p (ss.take i ++ [x])).map iD
    rw [goL_snoc, List.map_append]
    rfl
  refine run_forS 4 (it_seq (ds := ss.map iD) (xs := ss) (enc := iD) (vr 2)) (fun _ => [.d (nn n), .no, .no, .r l, .no, .no]) (fun i => [(l, .lst ((goL p (ss.take i)).map iD))]) (fun W1 lw i x hx => ?_) ?_ sc.nd
  · have hi := (List.getElem?_eq_some_iff.mp hx).1
    refine run_app (ys := (goL p (ss.take i)).map iD) (d := iD ((p : Int) + (ss.take i).sum + x)) 3 0 ?he (by rw [List.length_map, goL_len, List.length_take]; omega) ?_
    case he =>
      refine ed_op (x := iD ((p : Int) + (ss.take i).sum)) ?_ (vr 4) o_add
      refine ed_lixL 3 0 (ed_neg ed_int) ?_
      rw [List.getLast?_map, goL_last]
      rfl
    rw [← go i x hx]
    exact run_e
  · refine run_fix 3 (run_ret (d := optI (placesO n p ss)) ?_ rfl)
    rw [List.take_length]
    have hgl := goL_len p ss
    refine Ed.to (ed_if (k := inN n (goL p ss)) (x := .list ((goL p ss).map iD)) (y := .none) (et_val ?_) (fun _ => vr 3) (fun _ => ed_non)) ?_
    · refine Ed.to (ed_callB G.all boot_all (ea_cons (LcEv.ed (lcN0 5 (it_list (xs := goL p ss) (enc := iD) (vr 3)) (by omega) (fun a => .bool (decide (0 ≤ a) && decide (a < (n : Int)))) (fun a ha W1 l s H C cl fp => ?_) sc.nd) sc.nd) ea_nil) (?_ : CallD _ _ _ (.bool (((goL p ss).map fun a => decide (0 ≤ a) && decide (a < (n : Int))).all id)))) ?_
      · exact ed_chain ed_int (vr 5) (fun _ => vr 0) c_le c_lt
      · have z := c_all (X := (cxOf CX0 P w K mg base ["many", "place", "steps", "found", "step", "at"] "places_by" (defScope s_places_by) f cdv A outer s H E).nox) (bs := (goL p ss).map fun a => decide (0 ≤ a) && decide (a < (n : Int))) rfl
        rw [List.map_map] at z
        exact z
      · rw [List.all_map]
        rfl
    · unfold placesO
      split <;> rfl
theorem fd_walks_of (F : FnP K "walks_of" s_walks_of f fd) (G : Gs mg) (F1 : Fd P w K mg base k "views_of" ["row", "mask"] (spR K R_views_of)) (F2 : Fd P w K mg base k "places_by" ["many", "place", "steps"] (spR K R_places_by)) : FnOk P w K mg base CX0 (k + 1) f fd ["row", "mask", "steps"] (spR K R_walks_of) := by
  have sc : FnScope ["row", "mask", "steps", "told", "found", "place", "places", "at"] ["row", "mask", "steps"] (defScope s_walks_of) := ⟨rfl, rfl, rfl, by decide +kernel, rfl, by decide +kernel, by decide +kernel⟩
  refine fd_pure F sc _ (fun ds d ⟨_, _, _, _, e, _⟩ => by rw [e]; rfl) fun cdv A outer s H E hr W ds d hrow hR => ?_
  obtain ⟨l, m, t, ss, rfl, h1, h2, h3, h4, rfl⟩ := hR
  have hvl := viewsL_len l m
  obtain ⟨ws, ew⟩ : ∃ ws, ws = viewsL l m := ⟨_, rfl⟩
  refine run_asgL1 (x := wD ws) 3 4 (Ed.to (ed_call F1 hr (ea_cons (vr 0) (ea_cons (vr 1) ea_nil)) ⟨l, m, rfl, by omega, h2, by omega, rfl⟩) (by rw [ew])) (fun a => ?_) sc.nd
  rw [← ew] at hvl ⊢
  refine run_forS 5 (it_range (n := ws.length) (lenLw G (vr 3)) G.range) (fun _ => [.no, .no, .d (seqD t (ss.map iD)), .d (wD ws), .r a, .no, .no, .no]) (fun i => [(a, .lst (((List.range i).filterMap (walkG ws ss)).map wkD))]) (fun W1 lw i x hx => ?_) ?_ sc.nd
  · have hi := (List.getElem?_eq_some_iff.mp hx).1
    rw [List.length_range] at hi
    obtain rfl : x = i := by
      rw [List.getElem?_range hi] at hx
      exact (Option.some.inj hx).symm
    have hle : ((List.range x).filterMap (walkG ws ss)).length ≤ x := by
      have h := List.length_filterMap_le (walkG ws ss) (List.range x)
      rwa [List.length_range] at h
    refine run_set (d := optI (placesO ws.length x ss)) 6 (ed_call F2 hr (ea_cons (lenLw G (vr 3)) (ea_cons (vr 5) (ea_cons (vr 2) ea_nil))) ⟨ws.length, x, t, ss, rfl, by omega, rfl⟩) ?_ sc.nd
    rw [List.range_succ, List.filterMap_append, List.map_append]
    by_cases q : inN ws.length (goL x ss) = true
    · have e1 : placesO ws.length x ss = some (goL x ss) := if_pos q
      have e2 : walkG ws ss x = some (x, (goL x ss).map fun a => ws.getD a.toNat []) := by unfold walkG walkO; rw [e1]; rfl
      have e3 : [x].filterMap (walkG ws ss) = [(x, (goL x ss).map fun a => ws.getD a.toNat [])] := by simp [e2]
      rw [e1, e3]
      refine run_if (k := true) (tc (vr 6) ed_non c_notN) (fun _ => ?_) (fun e => nomatch e)
      refine run_app (ys := ((List.range x).filterMap (walkG ws ss)).map wkD) (d := wkD (x, (goL x ss).map fun a => ws.getD a.toNat [])) 4 0 (ed_tup ?he (by simp)) (by rw [List.length_map]; omega) (run_skip run_e)
      case he =>
        refine ea_cons (vr 5) (ea_cons ?_ ea_nil)
        refine Ed.to (ed_callT G.tuple boot_tuple (ea_cons (LcEv.ed (lcN0 7 (it_list (xs := goL x ss) (enc := iD) (vr 6)) (by rw [goL_len]; omega) (fun a => sD (ws.getD a.toNat [])) (fun a ha W1 l s H C cl fp => ?_) sc.nd) sc.nd) ea_nil) c_tupL) ?_
        · have z := List.all_eq_true.mp q a ha
          simp only [Bool.and_eq_true, decide_eq_true_eq] at z
          have hlt : a.toNat < ws.length := by omega
          refine ed_ix (vr 3) (vr 7) (i_list (n := a.toNat) ?_ ?_)
          · rw [List.getElem?_map, List.getD_eq_getElem?_getD, List.getElem?_eq_getElem hlt]
            rfl
          · exact (Int.toNat_of_nonneg z.1).symm
        · show PyData.tuple _ = PyData.tuple _
          rw [List.map_map]
          rfl
    · have e1 : placesO ws.length x ss = none := if_neg q
      have e2 : walkG ws ss x = none := by unfold walkG walkO; rw [e1]; rfl
      have e3 : [x].filterMap (walkG ws ss) = [] := by simp [e2]
      rw [e1, e3, List.map_nil, List.append_nil]
      exact run_if (k := false) (tc (vr 6) ed_non c_notN) (fun e => nomatch e) (fun _ => run_skip run_e)
  · rw [List.length_range]
    exact run_retL 4 rfl (hl := by simp)
theorem fn_starts_by (F : FnP K "starts_by" s_starts_by f fd) (G : Gs mg) (F1 : Fd P w K mg base k "need_row" ["row"] (spR K R_need_row)) (F2 : Fd P w K mg base k "need_mask" ["mask"] (spR K R_need_mask)) (F3 : Fd P w K mg base k "need_looks" ["mask", "looks"] (spR K R_need_looks)) (F4 : Fd P w K mg base k "need_steps" ["steps", "many"] (spR K R_need_steps)) (F5 : Fd P w K mg base k "walks_of" ["row", "mask", "steps"] (spR K R_walks_of)) (F6 : Fd P w K mg base k "misses" ["view", "told"] (spR K R_misses)) : FnOk P w K mg base CX0 (k + 1) f fd ["row", "mask", "looks", "steps"] (spN K R_starts_by) := by
  have sc : FnScope ["row", "mask", "looks", "steps", "found", "place", "told", "view", "look"] ["row", "mask", "looks", "steps"] (defScope s_starts_by) := ⟨rfl, rfl, rfl, by decide +kernel, rfl, by decide +kernel, by decide +kernel⟩
  refine fd_new F sc _ (fun ds d ⟨_, _, _, _, _, _, e, _⟩ => by rw [e]; rfl) fun cdv A outer s H E hr W ds d hrow hR => ?_
  obtain ⟨l, m, t1, vs, t2, ss, rfl, hl, hm, hv1, hv2, hlk, hlen, hst, rfl⟩ := hR
  have h1 := rowB_len hl
  have h2 := maskB_len hm
  have h3 := maskB_pos hm
  have hvl := viewsL_len l m
  have hvs := views_small l m
  have hsl := seenL_len m
  refine run_expr (ed_call F1 hr (ea_cons (vr 0) ea_nil) ⟨l, rfl, hl, rfl⟩) (run_expr (ed_call F2 hr (ea_cons (vr 1) ea_nil) ⟨m, rfl, hm, rfl⟩) ?_)
  refine run_expr (ed_call F3 hr (ea_cons (vr 1) (ea_cons (vr 2) ea_nil)) ⟨m, t1, vs, rfl, by omega, hv1, hv2, hlk, rfl⟩) ?_
  refine run_expr (ed_call F4 hr (ea_cons (vr 3) (ea_cons (ed_op (lenSq G (vr 2)) ed_int o_sub) ea_nil)) ⟨t2, ss, _, rfl, by rw [List.length_map]; omega, hst, rfl⟩) ?_
  refine run_newL 4 (fun a => ?_) sc.nd
  have hwl := walks_len (viewsL l m) ss
  have hmem : ∀ q ∈ walksL (viewsL l m) ss, ∀ v ∈ q.2, v.length ≤ 12 := fun q hq v hv => by
    have := hvs v ((mem_walks hq).2.2 v hv)
    omega
  refine run_for2S (e1 := fun q : Nat × List (List Nat) => nn q.1) (e2 := fun q : Nat × List (List Nat) => tW q.2) 5 6 (it_list (xs := walksL (viewsL l m) ss) (enc := wkD) (ed_call F5 hr (ea_cons (vr 0) (ea_cons (vr 1) (ea_cons (vr 3) ea_nil))) ⟨l, m, t2, ss, rfl, by omega, h3, by omega, by omega, rfl⟩)) (fun _ => [.no, .no, .d (seqD t1 (vs.map sD)), .no, .r a, .no, .no, .no, .no]) (fun i => [(a, .lst ((((walksL (viewsL l m) ss).take i).filter (hitB vs)).map fun q => nn q.1))]) (fun W1 lw i q hq => ?_) ?_ sc.nd
  · have hi := (List.getElem?_eq_some_iff.mp hq).1
    have hqm := List.mem_of_getElem? hq
    have hql := (mem_walks hqm).2.1
    rw [take_succ_filter hq, List.map_append]
    have hfl : (((walksL (viewsL l m) ss).take i).filter (hitB vs)).length ≤ 61 := by
      have := List.length_filter_le (hitB vs) ((walksL (viewsL l m) ss).take i)
      rw [List.length_take] at this
      omega
    refine run_if (k := hitB vs q) (et_val ?hc) (fun e => ?_) (fun e => ?_)
    case hc =>
      refine Ed.to (ed_callB G.all boot_all (ea_cons (LcEv.ed (lcP0 (e1 := fun z : List Nat × List Nat => sD z.1) (e2 := fun z : List Nat × List Nat => sD z.2) 7 8 (it_zip (xs := q.2) (ys := vs) (enc := sD) (enc2 := sD) (vr 6) (vr 2) G.zip rfl seqD_items) (by rw [List.length_zip]; omega) (fun z => .bool (decide (missN z.1 z.2 = 0))) (fun z hz W1 lw s H C cl fp => ?_) sc.nd) sc.nd) ea_nil) (?_ : CallD _ _ _ (.bool (((q.2.zip vs).map fun z => decide (missN z.1 z.2 = 0)).all id)))) ?_
      · obtain ⟨z1, z2⟩ := List.of_mem_zip hz
        have := hmem q hqm _ z1
        have := (lookB_iff.mp (hlk _ z2)).1
        refine Ed.to (ed_cmp (ed_call F6 hr (ea_cons (vr 7) (ea_cons (vr 8) ea_nil)) ⟨z.1, z.2, rfl, by omega, by omega, rfl⟩) ed_int c_eqI) ?_
        exact congrArg PyData.bool (decide_eq_decide.mpr (by omega))
      · have z := c_all (X := (cxOf CX0 P w K mg base ["row", "mask", "looks", "steps", "found", "place", "told", "view", "look"] "starts_by" (defScope s_starts_by) f cdv A outer s H E).nox) (bs := (q.2.zip vs).map fun z => decide (missN z.1 z.2 = 0)) rfl
        rw [List.map_map] at z
        exact z
      · rw [List.all_map]
        rfl
    · rw [if_pos e]
      exact run_app (ys := (((walksL (viewsL l m) ss).take i).filter (hitB vs)).map fun q => nn q.1) (d := nn q.1) 4 0 (vr 5) (by rw [List.length_map]; omega) (run_skip run_e)
    · rw [if_neg (by rw [e]; simp), List.map_nil, List.append_nil]
      exact run_skip run_e
  · rw [List.take_length]
    refine run_retNL 4 0 ?_
    show _ = PyData.list _
    unfold startsL
    rw [List.map_map]
    rfl
theorem fd_need_letters (F : FnP K "need_letters" s_need_letters f fd) (G : Gs mg) (gL : gLETTERS mg) (F1 : Fd P w K mg base k "is_from" ["value", "low", "high"] (spR K R_is_from)) : FnOk P w K mg base CX0 (k + 1) f fd ["letters"] (spR K R_need_letters) := by
  have sc : FnScope ["letters"] ["letters"] (defScope s_need_letters) := ⟨rfl, rfl, rfl, by decide +kernel, rfl, by decide +kernel, by decide +kernel⟩
  refine fd_pure F sc _ (fun ds d ⟨n, e, _⟩ => by rw [e]; rfl) fun cdv A outer s H E hr W ds d hrow hR => ?_
  obtain ⟨n, rfl, h1, h2, rfl⟩ := hR
  refine run_if (k := false) (t_not (k := true) (et_val ((ed_call F1 hr (ea_cons (vr 0) (ea_cons ed_int (ea_cons (ed_callB G.len boot_len (ea_cons (ed_gS [97, 98, 99, 100] gL) ea_nil) (c_lenS (by decide))) ea_nil))) ⟨(n : Int), 1, 4, rfl, rfl⟩).to ?_))) (fun q => nomatch q) (fun _ => run_skip (run_end rfl))
  have e1 : decide ((1 : Int) ≤ (n : Int)) = true := decide_eq_true (by omega)
  have e2 : decide ((n : Int) ≤ (4 : Int)) = true := decide_eq_true (by omega)
  rw [e1, e2]
  rfl
theorem fd_need_small (F : FnP K "need_small" s_need_small f fd) (G : Gs mg) (gW : gWID K mg) (gS : gSEE K mg) (F1 : Fd P w K mg base k "need_mask" ["mask"] (spR K R_need_mask)) (F2 : Fd P w K mg base k "need_letters" ["letters"] (spR K R_need_letters)) (F3 : Fd P w K mg base k "seen_by" ["mask"] (spR K R_seen_by)) : FnOk P w K mg base CX0 (k + 1) f fd ["mask", "letters"] (spR K R_need_small) := by
  have sc : FnScope ["mask", "letters"] ["mask", "letters"] (defScope s_need_small) := ⟨rfl, rfl, rfl, by decide +kernel, rfl, by decide +kernel, by decide +kernel⟩
  refine fd_pure F sc _ (fun ds d ⟨m, n, e, _⟩ => by rw [e]; rfl) fun cdv A outer s H E hr W ds d hrow hR => ?_
  obtain ⟨m, n, rfl, hs, rfl⟩ := hR
  have hm := maskB_len hs.mask
  have lo := hs.lo
  have hi := hs.hi
  have h1 := hs.wide
  have h2 := hs.seen
  have ix : ∀ a b c d : Nat, ([(a : Int), b, c, d].map PyData.int)[n - 1]? = some (nn ([a, b, c, d].getD (n - 1) 0)) := fun a b c d => by
    match n, lo, hi with
    | 1, _, _ => rfl
    | 2, _, _ => rfl
    | 3, _, _ => rfl
    | 4, _, _ => rfl
  refine run_expr (ed_call F1 hr (ea_cons (vr 0) ea_nil) ⟨m, rfl, hs.mask, rfl⟩) (run_expr (ed_call F2 hr (ea_cons (vr 1) ea_nil) ⟨n, rfl, lo, hi, rfl⟩) ?_)
  refine run_if (k := false) (t_or (k := false) (l := false) (tc (ed_callB G.len boot_len (ea_cons (vr 0) ea_nil) (c_lenS (by omega))) (ed_ix (ed_gtup gW) (ed_op (vr 1) ed_int o_sub) (i_tup (n := n - 1) (ix 12 8 5 4) (by omega))) c_gt |>.to ?_) fun _ => tc (ed_callB G.len boot_len (ea_cons (ed_call F3 hr (ea_cons (vr 0) ea_nil) ⟨m, rfl, by omega, rfl⟩) ea_nil) c_lenL) (ed_ix (ed_gtup gS) (ed_op (vr 1) ed_int o_sub) (i_tup (n := n - 1) (ix 12 4 2 1) (by omega))) c_gt |>.to ?_) (fun q => nomatch q) (fun _ => run_skip (run_end rfl))
  · exact decide_eq_false (by omega)
  · rw [List.length_map]
    exact decide_eq_false (by omega)
theorem fd_need_far (F : FnP K "need_far" s_need_far f fd) (gW : ∃ t, mg "MOST_WRONG" = some (.int 12 t)) (F1 : Fd P w K mg base k "need_small" ["mask", "letters"] (spR K R_need_small)) (F2 : Fd P w K mg base k "is_from" ["value", "low", "high"] (spR K R_is_from)) : FnOk P w K mg base CX0 (k + 1) f fd ["mask", "letters", "far"] (spR K R_need_far) := by
  have sc : FnScope ["mask", "letters", "far"] ["mask", "letters", "far"] (defScope s_need_far) := ⟨rfl, rfl, rfl, by decide +kernel, rfl, by decide +kernel, by decide +kernel⟩
  refine fd_pure F sc _ (fun ds d ⟨m, n, far, e, _⟩ => by rw [e]; rfl) fun cdv A outer s H E hr W ds d hrow hR => ?_
  obtain ⟨m, n, far, rfl, hs, h1, h2, rfl⟩ := hR
  refine run_expr (ed_call F1 hr (ea_cons (vr 0) (ea_cons (vr 1) ea_nil)) ⟨m, n, rfl, hs, rfl⟩) ?_
  refine run_if (k := false) (t_not (k := true) (et_val ((ed_call F2 hr (ea_cons (vr 2) (ea_cons ed_int (ea_cons (ed_gint gW) ea_nil))) ⟨(far : Int), 1, 12, rfl, rfl⟩).to ?_))) (fun q => nomatch q) (fun _ => run_skip (run_end rfl))
  have e1 : decide ((1 : Int) ≤ (far : Int)) = true := decide_eq_true (by omega)
  have e2 : decide ((far : Int) ≤ (12 : Int)) = true := decide_eq_true (by omega)
  rw [e1, e2]
  rfl
theorem fd_unlike (F : FnP K "unlike" s_unlike f fd) (G : Gs mg) : FnOk P w K mg base CX0 (k + 1) f fd ["one", "other"] (spR K R_unlike) := by
  have sc : FnScope ["one", "other", "left", "right"] ["one", "other"] (defScope s_unlike) := ⟨rfl, rfl, rfl, by decide +kernel, rfl, by decide +kernel, by decide +kernel⟩
  refine fd_pure F sc _ (fun ds d ⟨a, b, e, _⟩ => by rw [e]; rfl) fun cdv A outer s H E hr W ds d hrow hR => ?_
  obtain ⟨a, b, rfl, h1, h2, rfl⟩ := hR
  refine run_ret ((ed_callB G.len boot_len (ea_cons (lcP1 2 3 (it_zip (xs := a) (ys := b) (enc := sg) (enc2 := sg) (vr 0) (vr 1) G.zip rfl rfl) (by simp; omega) (fun q => decide (q.1 ≠ q.2)) (fun _ => .int 1) (fun q hq W1 lw s H C cl fp => tc (vr 2) (vr 3) (c_neS (l := [q.1]) (m := [q.2])) |>.to (by simp)) (fun q hq hc W1 lw s H C cl fp => ed_int) sc.nd |>.ed sc.nd) ea_nil) c_lenL).to (by rw [List.length_map]; rfl)) rfl
theorem fd_wider (F : FnP K "wider" s_wider f fd) (G : Gs mg) (gL : gLETTERS mg) (F1 : Fd P w K mg base k "view_by" ["row", "mask", "place"] (spR K R_view_by)) (F2 : Fd P w K mg base k "unlike" ["one", "other"] (spR K R_unlike)) : FnOk P w K mg base CX0 (k + 1) f fd ["rows", "mask", "letters", "far"] (spR K R_wider) := by
  have sc : FnScope ["rows", "mask", "letters", "far", "found", "row", "told", "letter", "wide", "view", "other"] ["rows", "mask", "letters", "far"] (defScope s_wider) := ⟨rfl, rfl, rfl, by decide +kernel, rfl, by decide +kernel, by decide +kernel⟩
  refine fd_pure F sc _ (fun ds d ⟨rs, m, n, far, e, _⟩ => by rw [e]; rfl) fun cdv A outer s H E hr W ds d hrow hR => ?_
  obtain ⟨rs, m, n, far, rfl, h1, h2, hm, hrl, hsz, hnx, rfl⟩ := hR
  have hml := maskB_len hm
  have hm1 := maskB_pos hm
  refine run_newL 4 (fun a => ?_) sc.nd
  refine run_for2 5 6 (it_list (xs := rs) (enc := rowT m) (vr 0)) (fun i Γ μ => Γ = [.d (rowsT m rs), .d (sD m), .d (nn n), .d (nn far), .r a, .no, .no, .no, .no, .no, .no] ∧ μ = [(a, .lst ((nextF m n far (rs.take i)).map (rowT m)))]) ⟨rfl, rfl⟩ (fun W1 lw i r Γ' μ' hx ⟨e1, e2⟩ => ?_) (fun Γ' μ' ⟨e1, e2⟩ => ?_) sc.nd
  · subst e1
    subst e2
    have hr3 := hrl r (List.mem_of_getElem? hx)
    have hnl : nextF m n far (rs.take (i + 1)) = nextF m n far (rs.take i) ++ stepFar m n far r := by
      unfold nextF
      rw [List.take_add_one, hx, List.flatMap_append]
      simp
    have hle : (nextF m n far (rs.take (i + 1))).length ≤ (nextF m n far rs).length := by
      have : nextF m n far rs = nextF m n far (rs.take (i + 1)) ++ nextF m n far (rs.drop (i + 1)) := by
        unfold nextF
        rw [← List.flatMap_append, List.take_append_drop]
      rw [this, List.length_append]
      omega
    rw [hnl, List.length_append] at hle
    refine run_for 7 (it_str (cs := letL n) (ed_sl (ed_gS [97, 98, 99, 100] gL) so_none (so_some (vr 2)) (s_strT n (by decide)))) (fun j Γ μ => Γ = [.d (rowsT m rs), .d (sD m), .d (nn n), .d (nn far), .r a, .d (sD r), .d (.tuple ((viewsL r m).map sD)), .no, .no, .no, .no] ∧ μ = [(a, .lst ((nextF m n far (rs.take i) ++ (((letL n).take j).filter (okF m far r)).map fun c => r ++ [c]).map (rowT m)))]) ⟨rfl, by simp⟩ (fun W3 lw3 j c Γ' μ' hc ⟨e1, e2⟩ => ?_) (fun Γ' μ' ⟨e1, e2⟩ => ?_) sc.nd
    · subst e1
      subst e2
      have hpl : ((((letL n).take j).filter (okF m far r)).map fun c => r ++ [c]).length + (if okF m far r c = true then 1 else 0) ≤ (stepFar m n far r).length := by
        unfold stepFar
        rw [List.length_map, List.length_map]
        have h3 : (letL n).take (j + 1) = (letL n).take j ++ [c] := by rw [List.take_add_one, hc]; rfl
        have h4 : letL n = (letL n).take (j + 1) ++ (letL n).drop (j + 1) := (List.take_append_drop ..).symm
        have h5 : ((letL n).filter (okF m far r)).length = (((letL n).take j).filter (okF m far r)).length + (([c].filter (okF m far r)).length + (((letL n).drop (j + 1)).filter (okF m far r)).length) := by
          conv => lhs; rw [h4, h3]
          rw [List.filter_append, List.filter_append, List.length_append, List.length_append]
          omega
        rw [h5]
        by_cases q : okF m far r c = true
        · rw [if_pos q, List.filter_cons_of_pos q]
          simp
        · rw [if_neg q]
          omega
      have ht : ((letL n).take (j + 1)).filter (okF m far r) = ((letL n).take j).filter (okF m far r) ++ (if okF m far r c = true then [c] else []) := take_succ_filter hc
      have hwl : (r ++ [c]).length = r.length + 1 := by simp
      have hvs := viewsL_snoc r m c hm1
      have fin : ∀ b : Bool, okF m far r c = b → (nextF m n far (rs.take i) ++ (((letL n).take (j + 1)).filter (okF m far r)).map fun c => r ++ [c]).map (rowT m) = (nextF m n far (rs.take i) ++ (((letL n).take j).filter (okF m far r)).map fun c => r ++ [c]).map (rowT m) ++ (if b = true then [rowT m (r ++ [c])] else []) := fun b hb => by
        rw [ht, hb]
        cases b with
        | true => simp
        | false => simp
      refine run_set 8 (ed_op (vr 5) (vr 7) (o_adds (m := [c]) (by simp; omega))) ?_ sc.nd
      refine run_if (k := decide (r.length + 1 < m.length)) (tc (ed_callB G.len boot_len (ea_cons (vr 8) ea_nil) (c_lenS (by omega))) (ed_callB G.len boot_len (ea_cons (vr 1) ea_nil) (c_lenS (by omega))) c_lt |>.to (decide_eq_decide.mpr (by rw [hwl]; omega))) (fun q => ?_) (fun q => ?_)
      · have q' := of_decide_eq_true q
        have hok : okF m far r c = true := by unfold okF; rw [q]; rfl
        rw [if_pos q'] at hvs
        rw [if_pos hok] at hpl
        refine run_app (ys := (nextF m n far (rs.take i) ++ (((letL n).take j).filter (okF m far r)).map fun c => r ++ [c]).map (rowT m)) (d := rowT m (r ++ [c])) 4 0 ((ed_tup (ea_cons (vr 8) (ea_cons (vr 6) ea_nil)) (by simp)).to (by show _ = rowT m (r ++ [c]); unfold rowT; rw [hvs])) (by rw [List.length_map, List.length_append]; omega) (run_skip ?_)
        refine run_go [.d (rowsT m rs), .d (sD m), .d (nn n), .d (nn far), .r a, .d (sD r), .d (.tuple ((viewsL r m).map sD)), .no, .no, .no, .no] ⟨.inr rfl, .inr rfl, .inr rfl, .inr rfl, .inr rfl, .inr rfl, .inr rfl, .inl rfl, .inl rfl, .inr rfl, .inr rfl, trivial⟩ ?_
        refine ⟨rfl, ?_⟩
        rw [fin true hok]
        rfl
      · have q' := of_decide_eq_false q
        rw [if_neg q'] at hvs
        have hvl := viewsL_len r m
        refine run_set 9 (ed_call F1 hr (ea_cons (vr 8) (ea_cons (vr 1) (ea_cons (ed_op (ed_callB G.len boot_len (ea_cons (vr 8) ea_nil) (c_lenS (by omega))) (ed_callB G.len boot_len (ea_cons (vr 1) ea_nil) (c_lenS (by omega))) o_sub) ea_nil))) ⟨r ++ [c], m, r.length + 1 - m.length, ?_, by omega, by omega, by omega, rfl⟩) ?_ sc.nd
        · have e3 : (((r ++ [c]).length : Nat) : Int) - (m.length : Int) = ((r.length + 1 - m.length : Nat) : Int) := by omega
          rw [e3]
        · have hall : ((viewsL r m).map fun o => decide (far ≤ unlikeN (viewL (r ++ [c]) m (r.length + 1 - m.length)) o)).all id = okF m far r c := by
            unfold okF
            rw [q, Bool.false_or, List.all_map]
            rfl
          refine run_if (k := okF m far r c) (et_val ((ed_callB G.all boot_all (ea_cons (lcN0 10 (it_tup (xs := viewsL r m) (enc := sD) (vr 6)) (by omega) (fun o => .bool (decide (far ≤ unlikeN (viewL (r ++ [c]) m (r.length + 1 - m.length)) o))) (fun o ho W4 lw4 s2 H2 C2 cl2 fp2 => (ed_cmp (ed_call F2 hr (ea_cons (vr 9) (ea_cons (vr 10) ea_nil)) ⟨_, o, rfl, by rw [viewL_len]; have := seenL_len m; omega, by
              unfold viewsL at ho
              obtain ⟨p, _, rfl⟩ := List.mem_map.mp ho
              rw [viewL_len]
              have := seenL_len m
              omega, rfl⟩) (vr 3) c_ge).to (congrArg PyData.bool (decide_eq_decide.mpr (by omega)))) sc.nd |>.ed sc.nd) ea_nil) (c_all (bs := (viewsL r m).map fun o => decide (far ≤ unlikeN (viewL (r ++ [c]) m (r.length + 1 - m.length)) o)) rfl |> fun z => by rw [List.map_map] at z; exact z)).to (congrArg PyData.bool hall))) (fun hok => ?_) (fun hok => run_skip (run_skip ?_))
          · rw [if_pos hok] at hpl
            refine run_app (ys := (nextF m n far (rs.take i) ++ (((letL n).take j).filter (okF m far r)).map fun c => r ++ [c]).map (rowT m)) (d := rowT m (r ++ [c])) 4 0 ((ed_tup (ea_cons (vr 8) (ea_cons (ed_op (vr 6) (ed_tup (ea_cons (vr 9) ea_nil) (by simp)) (o_catT (by simp; omega))) ea_nil)) (by simp)).to (by show _ = rowT m (r ++ [c]); unfold rowT; rw [hvs, List.map_append]; rfl)) (by rw [List.length_map, List.length_append]; omega) (run_skip (run_skip ?_))
            refine run_go [.d (rowsT m rs), .d (sD m), .d (nn n), .d (nn far), .r a, .d (sD r), .d (.tuple ((viewsL r m).map sD)), .no, .no, .no, .no] ⟨.inr rfl, .inr rfl, .inr rfl, .inr rfl, .inr rfl, .inr rfl, .inr rfl, .inl rfl, .inl rfl, .inl rfl, .inr rfl, trivial⟩ ?_
            refine ⟨rfl, ?_⟩
            rw [fin true hok]
            rfl
          · refine run_go [.d (rowsT m rs), .d (sD m), .d (nn n), .d (nn far), .r a, .d (sD r), .d (.tuple ((viewsL r m).map sD)), .no, .no, .no, .no] ⟨.inr rfl, .inr rfl, .inr rfl, .inr rfl, .inr rfl, .inr rfl, .inr rfl, .inl rfl, .inl rfl, .inl rfl, .inr rfl, trivial⟩ ?_
            refine ⟨rfl, ?_⟩
            rw [fin false hok]
            simp
    · subst e1
      subst e2
      refine run_go [.d (rowsT m rs), .d (sD m), .d (nn n), .d (nn far), .r a, .no, .no, .no, .no, .no, .no] ⟨.inr rfl, .inr rfl, .inr rfl, .inr rfl, .inr rfl, .inl rfl, .inl rfl, .inr rfl, .inr rfl, .inr rfl, .inr rfl, trivial⟩ ?_
      refine ⟨rfl, ?_⟩
      rw [List.take_length, hnl]
      rfl
  · subst e1
    subst e2
    refine run_retL 4 (hl := by simp) ?_
    rw [List.take_length]
theorem fn_apart_rows (F : FnP K "apart_rows" s_apart_rows f fd) (F1 : Fd P w K mg base k "need_far" ["mask", "letters", "far"] (spR K R_need_far)) (F2 : Fd P w K mg base k "wider" ["rows", "mask", "letters", "far"] (spR K R_wider)) : FnOk P w K mg base CX0 (k + 1) f fd ["mask", "letters", "far"] (spN K R_apart_rows) := by
  have sc : FnScope ["mask", "letters", "far", "found", "rows", "row", "told"] ["mask", "letters", "far"] (defScope s_apart_rows) := ⟨rfl, rfl, rfl, by decide +kernel, rfl, by decide +kernel, by decide +kernel⟩
  refine fd_new F sc _ (fun ds d ⟨m, n, far, T, e, _⟩ => by rw [e]; rfl) fun cdv A outer s H E hr W ds d hrow hR => ?_
  obtain ⟨m, n, far, T, rfl, hs, f1, f2, hT, g1, g2, rfl⟩ := hR
  have hu := hr.units
  have hml := maskB_len hs.mask
  have hm1 := hs.pos
  have hK : T ≤ 16 + m.length := by
    rcases Nat.lt_or_ge (16 + m.length) T with h | h
    · exact absurd (hs.endsF f1) (g2 _ h)
    · exact h
  refine run_expr (ed_call F1 hr (ea_cons (vr 0) (ea_cons (vr 1) (ea_cons (vr 2) ea_nil))) ⟨m, n, far, rfl, hs, f1, f2, rfl⟩) ?_
  refine run_parL0 (y := rowsT m (levF m n far 0)) 3 4 (fun a => ?_) (fun a => ?_) sc.nd
  · have e0 : rowsT m (levF m n far 0) = (PyData.list [PyData.tuple [PyData.str (S []), PyData.tuple []]]) := by
      have : viewsL [] m = [] := by
        unfold viewsL
        have : ([] : List Nat).length + 1 - m.length = 0 := by simp; omega
        rw [this]
        rfl
      simp [levF, rowT, this]
    rw [e0]
    exact ed_lst (ea_cons (ed_tup (ea_cons (ed_S []) (ea_cons (ed_tup ea_nil (by simp)) ea_nil)) (by simp)) ea_nil) (by simp)
  have shp : ∀ j, Shp 3 (rowsT m (levF m n far j)) := fun j => Shp.list fun x hx => by
    obtain ⟨r, hr, rfl⟩ := List.mem_map.mp hx
    exact shp_rowT hs.hi ((mem_lev hm1 hs.hi).mp (levF_lev f1 hr)).2.1
  refine run_while (fun q Γ μ => q ≤ T ∧ ∃ a fnd, Γ = [.d (sD m), .d (nn n), .d (nn far), .r a, .d (rowsT m (levF m n far (T - q))), .no, .no] ∧ μ = [(a, .lst fnd)] ∧ (1 ≤ T - q → fnd = (levF m n far (T - q - 1)).map sD)) (fun q => !(levF m n far (T - q)).isEmpty) T ⟨Nat.le_refl _, a, [], by rw [Nat.sub_self]; rfl, rfl, fun h => by omega⟩ (fun W1 lw q Γ' μ' ⟨hq, a, fnd, e1, e2, e3⟩ => ?_) (fun W1 lw q Γ' μ' hb ⟨hq, a, fnd, e1, e2, e3⟩ => ?_) (fun q Γ' μ' hb ⟨hq, a, fnd, e1, e2, e3⟩ => ?_)
  · subst e1
    subst e2
    exact tc (vr 4) (ed_lst ea_nil (by simp)) (c_neNil hu (shp _)) |>.to (by rw [List.isEmpty_map])
  · subst e1
    subst e2
    have hq0 : 0 < q := by
      rcases Nat.eq_zero_or_pos q with e | e
      · subst e
        rw [Nat.sub_zero, g1] at hb
        cases hb
      · exact e
    have hlen := hs.lenF f1 (T - q)
    have hlen2 : (nextF m n far (levF m n far (T - q))).length ≤ 8388608 := hs.lenF f1 (T - q + 1)
    have e : T - (q - 1) = (T - q) + 1 := by omega
    refine run_setLcM 3 (lcP0 5 6 (it_list (xs := levF m n far (T - q)) (enc := rowT m) (vr 4)) (by omega) sD (fun r hr W2 lw2 s2 H2 C2 cl2 fp2 => vr 5) sc.nd) (fun a2 ys ey => ?_) sc.nd
    subst ey
    refine run_mu (μ' := [(a2, .lst ((levF m n far (T - q)).map sD))]) (fun p hp => by rw [List.mem_singleton.mp hp]; exact List.mem_cons_self) (fun _ => by simp) ?_
    refine run_set 4 (ed_call F2 hr (ea_cons (vr 4) (ea_cons (vr 0) (ea_cons (vr 1) (ea_cons (vr 2) ea_nil)))) ⟨levF m n far (T - q), m, n, far, rfl, hs.lo, hs.hi, hs.mask, fun r hr => ?_, by omega, by omega, rfl⟩) ?_ sc.nd
    · have := ((mem_lev hm1 hs.hi).mp (levF_lev f1 hr)).1
      omega
    · refine run_go [.d (sD m), .d (nn n), .d (nn far), .r a2, .d (rowsT m (levF m n far (T - (q - 1)))), .no, .no] ⟨.inr rfl, .inr rfl, .inr rfl, .inr rfl, .inr ?_, .inr rfl, .inr rfl, trivial⟩ ?_
      · rw [e]
        rfl
      · refine ⟨q - 1, by omega, by omega, a2, _, rfl, rfl, fun _ => ?_⟩
        rw [e]
        rfl
  · subst e1
    subst e2
    have e : T - q = T := by
      rcases Nat.lt_or_ge (T - q) T with h | h
      · have := g2 _ h
        simp only [Bool.not_eq_false', List.isEmpty_iff] at hb
        exact absurd hb this
      · omega
    rw [e] at e3
    exact run_retNL (ys := fnd) 3 0 (by rw [e3 hT])
theorem fd_both_views (F : FnP K "both_views" s_both_views f fd) (F1 : Fd P w K mg base k "need_row" ["row"] (spR K R_need_row)) (F2 : Fd P w K mg base k "need_mask" ["mask"] (spR K R_need_mask)) (F3 : Fd P w K mg base k "stands_of" ["row", "mask"] (spR K R_stands_of)) : FnOk P w K mg base CX0 (k + 1) f fd ["row", "mask"] (spR K R_both_views) := by
  have sc : FnScope ["row", "mask"] ["row", "mask"] (defScope s_both_views) := ⟨rfl, rfl, rfl, by decide +kernel, rfl, by decide +kernel, by decide +kernel⟩
  refine fd_pure F sc _ (fun ds d ⟨l, m, e, _⟩ => by rw [e]; rfl) fun cdv A outer s H E hr W ds d hrow hR => ?_
  obtain ⟨l, m, rfl, h1, h3, rfl⟩ := hR
  have := rowB_len h1
  have := maskB_len h3
  have := maskB_pos h3
  exact run_expr (ed_call F1 hr (ea_cons (vr 0) ea_nil) ⟨l, rfl, h1, rfl⟩) (run_expr (ed_call F2 hr (ea_cons (vr 1) ea_nil) ⟨m, rfl, h3, rfl⟩) (run_ret (ed_call F3 hr (ea_cons (vr 0) (ea_cons (vr 1) ea_nil)) ⟨l, m, rfl, by omega, by omega, by omega, rfl⟩) rfl))
theorem fd_both_find (F : FnP K "both_find" s_both_find f fd) (F1 : Fd P w K mg base k "need_row" ["row"] (spR K R_need_row)) (F2 : Fd P w K mg base k "need_mask" ["mask"] (spR K R_need_mask)) (F5 : Fd P w K mg base k "is_view" ["mask", "value"] (spR K R_is_view)) (F3 : Fd P w K mg base k "stands_of" ["row", "mask"] (spR K R_stands_of)) (F4 : Fd P w K mg base k "misses" ["view", "told"] (spR K R_misses)) : FnOk P w K mg base CX0 (k + 1) f fd ["row", "mask", "told"] (spR K R_both_find) := by
  have sc : FnScope ["row", "mask", "told", "stand", "view"] ["row", "mask", "told"] (defScope s_both_find) := ⟨rfl, rfl, rfl, by decide +kernel, rfl, by decide +kernel, by decide +kernel⟩
  refine fd_pure F sc _ (fun ds d ⟨l, m, t, e, _⟩ => by rw [e]; rfl) fun cdv A outer s H E hr W ds d hrow hR => ?_
  obtain ⟨l, m, t, rfl, h1, h3, ht, rfl⟩ := hR
  have := rowB_len h1
  have := maskB_len h3
  have := maskB_pos h3
  have hsl := standsL_len l m
  have htl := (lookB_iff.mp ht).1
  have := seenL_len m
  refine run_expr (ed_call F1 hr (ea_cons (vr 0) ea_nil) ⟨l, rfl, h1, rfl⟩) (run_expr (ed_call F2 hr (ea_cons (vr 1) ea_nil) ⟨m, rfl, h3, rfl⟩) ?_)
  refine run_if (k := false) (t_not (k := true) (et_val (ed_call F5 hr (ea_cons (vr 1) (ea_cons (vr 2) ea_nil)) ⟨m, t, rfl, by omega, ht, rfl⟩))) (fun q => nomatch q) (fun _ => run_skip ?_)
  exact run_ret (lcP1 (e1 := fun z : Stand × List Nat => stD z.1) (e2 := fun z => sD z.2) 3 4 (it_list (xs := standsL l m) (enc := zD) (ed_call F3 hr (ea_cons (vr 0) (ea_cons (vr 1) ea_nil)) ⟨l, m, rfl, by omega, by omega, by omega, rfl⟩)) (by omega) (fun z => decide (missN z.2 t = 0)) (fun z => stD z.1) (fun z hz W1 lw s H C cl fp => tc (ed_call F4 hr (ea_cons (vr 4) (ea_cons (vr 2) ea_nil)) ⟨z.2, t, rfl, by have := stands_view_len hz; omega, by omega, rfl⟩) ed_int c_eqI |>.to (decide_eq_decide.mpr (by omega))) (fun z hz hc W1 lw s H C cl fp => vr 3) sc.nd |>.ed sc.nd) rfl
theorem fd_starts_by (F : FnP K "starts_by" s_starts_by f fd) (G : Gs mg) (F1 : Fd P w K mg base k "need_row" ["row"] (spR K R_need_row)) (F2 : Fd P w K mg base k "need_mask" ["mask"] (spR K R_need_mask)) (F3 : Fd P w K mg base k "need_looks" ["mask", "looks"] (spR K R_need_looks)) (F4 : Fd P w K mg base k "need_steps" ["steps", "many"] (spR K R_need_steps)) (F5 : Fd P w K mg base k "walks_of" ["row", "mask", "steps"] (spR K R_walks_of)) (F6 : Fd P w K mg base k "misses" ["view", "told"] (spR K R_misses)) : FnOk P w K mg base CX0 (k + 1) f fd ["row", "mask", "looks", "steps"] (spR K R_starts_by) := by
  have sc : FnScope ["row", "mask", "looks", "steps", "found", "place", "told", "view", "look"] ["row", "mask", "looks", "steps"] (defScope s_starts_by) := ⟨rfl, rfl, rfl, by decide +kernel, rfl, by decide +kernel, by decide +kernel⟩
  refine fd_pure F sc _ (fun ds d ⟨_, _, _, _, _, _, e, _⟩ => by rw [e]; rfl) fun cdv A outer s H E hr W ds d hrow hR => ?_
  obtain ⟨l, m, t1, vs, t2, ss, rfl, hl, hm, hv1, hv2, hlk, hlen, hst, rfl⟩ := hR
  have h1 := rowB_len hl
  have h2 := maskB_len hm
  have h3 := maskB_pos hm
  have hvl := viewsL_len l m
  have hvs := views_small l m
  have hsl := seenL_len m
  refine run_expr (ed_call F1 hr (ea_cons (vr 0) ea_nil) ⟨l, rfl, hl, rfl⟩) (run_expr (ed_call F2 hr (ea_cons (vr 1) ea_nil) ⟨m, rfl, hm, rfl⟩) ?_)
  refine run_expr (ed_call F3 hr (ea_cons (vr 1) (ea_cons (vr 2) ea_nil)) ⟨m, t1, vs, rfl, by omega, hv1, hv2, hlk, rfl⟩) ?_
  refine run_expr (ed_call F4 hr (ea_cons (vr 3) (ea_cons (ed_op (lenSq G (vr 2)) ed_int o_sub) ea_nil)) ⟨t2, ss, _, rfl, by rw [List.length_map]; omega, hst, rfl⟩) ?_
  refine run_newL 4 (fun a => ?_) sc.nd
  have hwl := walks_len (viewsL l m) ss
  have hmem : ∀ q ∈ walksL (viewsL l m) ss, ∀ v ∈ q.2, v.length ≤ 12 := fun q hq v hv => by
    have := hvs v ((mem_walks hq).2.2 v hv)
    omega
  refine run_for2S (e1 := fun q : Nat × List (List Nat) => nn q.1) (e2 := fun q : Nat × List (List Nat) => tW q.2) 5 6 (it_list (xs := walksL (viewsL l m) ss) (enc := wkD) (ed_call F5 hr (ea_cons (vr 0) (ea_cons (vr 1) (ea_cons (vr 3) ea_nil))) ⟨l, m, t2, ss, rfl, by omega, h3, by omega, by omega, rfl⟩)) (fun _ => [.no, .no, .d (seqD t1 (vs.map sD)), .no, .r a, .no, .no, .no, .no]) (fun i => [(a, .lst ((((walksL (viewsL l m) ss).take i).filter (hitB vs)).map fun q => nn q.1))]) (fun W1 lw i q hq => ?_) ?_ sc.nd
  · have hi := (List.getElem?_eq_some_iff.mp hq).1
    have hqm := List.mem_of_getElem? hq
    have hql := (mem_walks hqm).2.1
    rw [take_succ_filter hq, List.map_append]
    have hfl : (((walksL (viewsL l m) ss).take i).filter (hitB vs)).length ≤ 61 := by
      have := List.length_filter_le (hitB vs) ((walksL (viewsL l m) ss).take i)
      rw [List.length_take] at this
      omega
    refine run_if (k := hitB vs q) (et_val ?hc) (fun e => ?_) (fun e => ?_)
    case hc =>
      refine Ed.to (ed_callB G.all boot_all (ea_cons (LcEv.ed (lcP0 (e1 := fun z : List Nat × List Nat => sD z.1) (e2 := fun z : List Nat × List Nat => sD z.2) 7 8 (it_zip (xs := q.2) (ys := vs) (enc := sD) (enc2 := sD) (vr 6) (vr 2) G.zip rfl seqD_items) (by rw [List.length_zip]; omega) (fun z => .bool (decide (missN z.1 z.2 = 0))) (fun z hz W1 lw s H C cl fp => ?_) sc.nd) sc.nd) ea_nil) (?_ : CallD _ _ _ (.bool (((q.2.zip vs).map fun z => decide (missN z.1 z.2 = 0)).all id)))) ?_
      · obtain ⟨z1, z2⟩ := List.of_mem_zip hz
        have := hmem q hqm _ z1
        have := (lookB_iff.mp (hlk _ z2)).1
        refine Ed.to (ed_cmp (ed_call F6 hr (ea_cons (vr 7) (ea_cons (vr 8) ea_nil)) ⟨z.1, z.2, rfl, by omega, by omega, rfl⟩) ed_int c_eqI) ?_
        exact congrArg PyData.bool (decide_eq_decide.mpr (by omega))
      · have z := c_all (X := (cxOf CX0 P w K mg base ["row", "mask", "looks", "steps", "found", "place", "told", "view", "look"] "starts_by" (defScope s_starts_by) f cdv A outer s H E).nox) (bs := (q.2.zip vs).map fun z => decide (missN z.1 z.2 = 0)) rfl
        rw [List.map_map] at z
        exact z
      · rw [List.all_map]
        rfl
    · rw [if_pos e]
      exact run_app (ys := (((walksL (viewsL l m) ss).take i).filter (hitB vs)).map fun q => nn q.1) (d := nn q.1) 4 0 (vr 5) (by rw [List.length_map]; omega) (run_skip run_e)
    · rw [if_neg (by rw [e]; simp), List.map_nil, List.append_nil]
      exact run_skip run_e
  · rw [List.take_length]
    refine run_retL 4 ?_ (hl := by simp)
    show _ = PyData.list _
    unfold startsL
    rw [List.map_map]
    rfl
theorem fd_apart_rows (F : FnP K "apart_rows" s_apart_rows f fd) (F1 : Fd P w K mg base k "need_far" ["mask", "letters", "far"] (spR K R_need_far)) (F2 : Fd P w K mg base k "wider" ["rows", "mask", "letters", "far"] (spR K R_wider)) : FnOk P w K mg base CX0 (k + 1) f fd ["mask", "letters", "far"] (spR K R_apart_rows) := by
  have sc : FnScope ["mask", "letters", "far", "found", "rows", "row", "told"] ["mask", "letters", "far"] (defScope s_apart_rows) := ⟨rfl, rfl, rfl, by decide +kernel, rfl, by decide +kernel, by decide +kernel⟩
  refine fd_pure F sc _ (fun ds d ⟨m, n, far, T, e, _⟩ => by rw [e]; rfl) fun cdv A outer s H E hr W ds d hrow hR => ?_
  obtain ⟨m, n, far, T, rfl, hs, f1, f2, hT, g1, g2, rfl⟩ := hR
  have hu := hr.units
  have hml := maskB_len hs.mask
  have hm1 := hs.pos
  have hK : T ≤ 16 + m.length := by
    rcases Nat.lt_or_ge (16 + m.length) T with h | h
    · exact absurd (hs.endsF f1) (g2 _ h)
    · exact h
  refine run_expr (ed_call F1 hr (ea_cons (vr 0) (ea_cons (vr 1) (ea_cons (vr 2) ea_nil))) ⟨m, n, far, rfl, hs, f1, f2, rfl⟩) ?_
  refine run_par (x := .list []) (y := rowsT m (levF m n far 0)) 3 4 ?_ ?_ sc.nd
  · have e0 : rowsT m (levF m n far 0) = (PyData.list [PyData.tuple [PyData.str (S []), PyData.tuple []]]) := by
      have : viewsL [] m = [] := by
        unfold viewsL
        have : ([] : List Nat).length + 1 - m.length = 0 := by simp; omega
        rw [this]
        rfl
      simp [levF, rowT, this]
    rw [e0]
    exact ea_cons (ed_lst ea_nil (by simp)) (ea_cons (ed_lst (ea_cons (ed_tup (ea_cons (ed_S []) (ea_cons (ed_tup ea_nil (by simp)) ea_nil)) (by simp)) ea_nil) (by simp)) ea_nil)
  have shp : ∀ j, Shp 3 (rowsT m (levF m n far j)) := fun j => Shp.list fun x hx => by
    obtain ⟨r, hr, rfl⟩ := List.mem_map.mp hx
    exact shp_rowT hs.hi ((mem_lev hm1 hs.hi).mp (levF_lev f1 hr)).2.1
  refine run_while (fun q Γ μ => q ≤ T ∧ ∃ fnd, Γ = [.d (sD m), .d (nn n), .d (nn far), .d fnd, .d (rowsT m (levF m n far (T - q))), .no, .no] ∧ μ = [] ∧ (1 ≤ T - q → fnd = wD (levF m n far (T - q - 1)))) (fun q => !(levF m n far (T - q)).isEmpty) T ⟨Nat.le_refl _, .list [], by rw [Nat.sub_self]; rfl, rfl, fun h => by omega⟩ (fun W1 lw q Γ' μ' ⟨hq, fnd, e1, e2, e3⟩ => ?_) (fun W1 lw q Γ' μ' hb ⟨hq, fnd, e1, e2, e3⟩ => ?_) (fun q Γ' μ' hb ⟨hq, fnd, e1, e2, e3⟩ => ?_)
  · subst e1
    subst e2
    exact tc (vr 4) (ed_lst ea_nil (by simp)) (c_neNil hu (shp _)) |>.to (by rw [List.isEmpty_map])
  · subst e1
    subst e2
    have hq0 : 0 < q := by
      rcases Nat.eq_zero_or_pos q with e | e
      · subst e
        rw [Nat.sub_zero, g1] at hb
        cases hb
      · exact e
    have hlen := hs.lenF f1 (T - q)
    have hlen2 : (nextF m n far (levF m n far (T - q))).length ≤ 8388608 := hs.lenF f1 (T - q + 1)
    have e : T - (q - 1) = (T - q) + 1 := by omega
    refine run_setLc 3 (lcP0 5 6 (it_list (xs := levF m n far (T - q)) (enc := rowT m) (vr 4)) (by omega) sD (fun r hr W2 lw2 s2 H2 C2 cl2 fp2 => vr 5) sc.nd) ?_ sc.nd
    refine run_set 4 (ed_call F2 hr (ea_cons (vr 4) (ea_cons (vr 0) (ea_cons (vr 1) (ea_cons (vr 2) ea_nil)))) ⟨levF m n far (T - q), m, n, far, rfl, hs.lo, hs.hi, hs.mask, fun r hr => ?_, by omega, by omega, rfl⟩) ?_ sc.nd
    · have := ((mem_lev hm1 hs.hi).mp (levF_lev f1 hr)).1
      omega
    · refine run_go [.d (sD m), .d (nn n), .d (nn far), .d (wD (levF m n far (T - q))), .d (rowsT m (levF m n far (T - (q - 1)))), .no, .no] ⟨.inr rfl, .inr rfl, .inr rfl, .inr rfl, .inr ?_, .inr rfl, .inr rfl, trivial⟩ ?_
      · rw [e]
        rfl
      · refine ⟨q - 1, by omega, by omega, _, rfl, rfl, fun _ => ?_⟩
        rw [e]
        rfl
  · subst e1
    subst e2
    have e : T - q = T := by
      rcases Nat.lt_or_ge (T - q) T with h | h
      · have := g2 _ h
        simp only [Bool.not_eq_false', List.isEmpty_iff] at hb
        exact absurd hb this
      · omega
    rw [e] at e3
    exact run_ret (vr 3) (by rw [e3 hT])
theorem fd_is_mask_t (F : FnP K "is_mask" s_is_mask f fd) (G : Gs mg) (gS : gSEEN mg) (gH : gHOLE mg) (gM : gMOST_MASK mg) : FnOk P w K mg base CX0 (k + 1) f fd ["value"] (spR K R_is_mask_t) := by
  have sc : FnScope ["value", "sign"] ["value"] (defScope s_is_mask) := ⟨rfl, rfl, rfl, by decide +kernel, rfl, by decide +kernel, by decide +kernel⟩
  refine fd_pure F sc _ (fun ds d ⟨m, e, _⟩ => by rw [e]; rfl) fun cdv A outer s H E hr W ds d hrow hR => ?_
  obtain ⟨m, rfl, hm, rfl⟩ := hR
  have em : maskB m = (decide (1 ≤ m.length) && decide (m.length ≤ 12) && m.all (fun c => decide (c ∈ [120, 46])) && decide (m[0]? = some 120) && decide (m.getLast? = some 120)) := rfl
  refine run_if (k := !(decide (1 ≤ m.length) && decide (m.length ≤ 12))) ((t_or (t_not (et_val (ed_isi (T := "str") (vr 0) G.isinstance G.str (by decide +kernel)))) fun _ => t_not (tc_chain ed_int (ed_callB G.len boot_len (ea_cons (vr 0) ea_nil) (c_lenS (by omega))) (fun _ => ed_gint gM) c_le c_le)).to ?_) (fun q => ?_) (fun q => run_skip ?_)
  · have e1 : decide ((1 : Int) ≤ ((m.length : Nat) : Int)) = decide (1 ≤ m.length) := decide_eq_decide.mpr (by omega)
    have e2 : decide (((m.length : Nat) : Int) ≤ (12 : Int)) = decide (m.length ≤ 12) := decide_eq_decide.mpr (by omega)
    rw [e1, e2]
    rfl
  · refine run_ret (d := .bool false) ed_bl ?_
    rw [em]
    rw [Bool.not_eq_true'] at q
    rw [q]
    rfl
  · rw [Bool.not_eq_false'] at q
    rw [q, Bool.true_and] at em
    rw [Bool.and_eq_true, decide_eq_true_eq, decide_eq_true_eq] at q
    obtain ⟨h1, h2⟩ := q
    obtain ⟨c0, hc0⟩ : ∃ c, m[0]? = some c := ⟨_, List.getElem?_eq_getElem (by omega)⟩
    obtain ⟨c1, hc1⟩ : ∃ c, m.getLast? = some c := by
      rw [List.getLast?_eq_getElem?]
      exact ⟨_, List.getElem?_eq_getElem (by omega)⟩
    rw [hc0, hc1] at em
    refine run_ret ((ed_and (k := m.all fun c => decide (c ∈ [120, 46])) (l := decide (c0 = 120) && decide (c1 = 120)) ((ed_callB G.all boot_all (ea_cons (lcN0 1 (it_str (vr 0)) (by omega) (fun c => .bool (decide (c ∈ [120, 46]))) (fun c hc W1 l s H C cl fp => ed_cmp (vr 1) (ed_op (ed_gS [120] gS) (ed_gS [46] gH) (o_adds (by decide))) c_inS) sc.nd |>.ed sc.nd) ea_nil) (c_all (bs := m.map fun c => decide (c ∈ [120, 46])) rfl |> fun z => by rw [List.map_map] at z; exact z)).to ?_)
      (fun _ => ed_and (k := decide (c0 = 120)) (l := decide (c1 = 120)) ((ed_cmp (ed_ix (vr 0) ed_int (i_str (n := 0) (by omega) hc0)) (ed_gS [120] gS) (c_eqS (l := [c0]))).to ?_) fun _ => ed_one ((ed_cmp (ed_ix (vr 0) (ed_neg ed_int) (i_strL (by omega) hc1)) (ed_gS [120] gS) (c_eqS (l := [c1]))).to ?_)))) ?_
    · rw [List.all_map]
      rfl
    · exact congrArg PyData.bool (decide_eq_decide.mpr (by simp))
    · exact congrArg PyData.bool (decide_eq_decide.mpr (by simp))
    · refine congrArg PyData.bool ?_
      rw [em, Bool.and_assoc]
      congr 2
      · exact decide_eq_decide.mpr (by simp)
      · exact decide_eq_decide.mpr (by simp)
theorem fd_is_mask_o (F : FnP K "is_mask" s_is_mask f fd) (G : Gs mg) : FnOk P w K mg base CX0 (k + 1) f fd ["value"] (spR K R_is_mask_o) := by
  have sc : FnScope ["value", "sign"] ["value"] (defScope s_is_mask) := ⟨rfl, rfl, rfl, by decide +kernel, rfl, by decide +kernel, by decide +kernel⟩
  refine fd_pure F sc _ (fun ds d ⟨m, e, _⟩ => by rw [e]; rfl) fun cdv A outer s H E hr W ds d hrow hR => ?_
  obtain ⟨v, rfl, ho, rfl⟩ := hR
  exact run_if (k := true) (t_or (k := true) (l := false) (t_not (k := false) (et_val (ed_isiS ho (vr 0) G.isinstance G.str))) (fun q => nomatch q)) (fun _ => run_ret (d := .bool false) ed_bl rfl) (fun q => nomatch q)
theorem fx_need_mask (F : FnP K "need_mask" s_need_mask f fd) (F1 : Fd P w K mg base (k + 1) "is_mask" ["value"] (spR K R_is_mask_t)) (F2 : Fd P w K mg base (k + 1) "is_mask" ["value"] (spR K R_is_mask_o)) (E1 : Ex0 P w K mg base k "BadMask") : FnOk P w K mg base (L2.CX P w) (k + 2) f fd ["mask"] (spX K X_mask) := by
  have sc : FnScope ["mask"] ["mask"] (defScope s_need_mask) := ⟨rfl, rfl, rfl, by decide +kernel, rfl, by decide +kernel, by decide +kernel⟩
  refine fd_exc F sc _ (fun ds x fo ⟨m, e, _⟩ => by rw [e]; rfl) fun cdv A outer s H E hr W ds x fo hrow hR hw => ?_
  obtain ⟨v, rfl, hv, rfl, rfl⟩ := hR
  rcases hv with ho | ⟨m, rfl, h1, h2⟩
  · exact run_if (k := true) (t_not (k := false) (et_val (ed_call F2 hr (ea_cons (vr 0) ea_nil) ⟨_, rfl, ho, rfl⟩))) (fun _ => run_raise0 E1 hr (takes_of rfl rfl rfl rfl) fun σ H1 R1 cls d H' xo => hw σ H1 _ _ R1 cls d H' xo) (fun q => nomatch q)
  · exact run_if (k := true) (t_not (k := false) (et_val (ed_call F1 hr (ea_cons (vr 0) ea_nil) ⟨m, rfl, h1, by rw [h2]⟩))) (fun _ => run_raise0 E1 hr (takes_of rfl rfl rfl rfl) fun σ H1 R1 cls d H' xo => hw σ H1 _ _ R1 cls d H' xo) (fun q => nomatch q)
theorem fd_is_from_a (F : FnP K "is_from" s_is_from f fd) (G : Gs mg) : FnOk P w K mg base CX0 (k + 1) f fd ["value", "low", "high"] (spR K R_is_from_a) := by
  have sc : FnScope ["value", "low", "high"] ["value", "low", "high"] (defScope s_is_from) := ⟨rfl, rfl, rfl, by decide +kernel, rfl, by decide +kernel, by decide +kernel⟩
  refine fd_pure F sc _ (fun ds d ⟨v, a, b, e, _⟩ => by rw [e]; rfl) fun cdv A outer s H E hr W ds d hrow hR => ?_
  obtain ⟨v, a, b, rfl, ho | ⟨i, rfl, hi⟩, rfl⟩ := hR
  · rcases ho with rfl | ⟨_, rfl⟩ | ⟨_, rfl⟩ | ⟨_, rfl⟩ | ⟨_, rfl⟩ | rfl
    · exact run_ret (ed_and (k := false) (l := false) (ed_isi (T := "int") (vr 0) G.isinstance G.int (by decide +kernel)) fun e => nomatch e) rfl
    · exact run_ret (ed_and (k := true) (l := false) (ed_isi (T := "int") (vr 0) G.isinstance G.int (by decide +kernel)) fun _ => ed_and (k := false) (l := false) (ed_not (k := true) (ed_isi (T := "bool") (vr 0) G.isinstance G.bool (by decide +kernel))) fun e => nomatch e) rfl
    · exact run_ret (ed_and (k := false) (l := false) (ed_isi (T := "int") (vr 0) G.isinstance G.int (by decide +kernel)) fun e => nomatch e) rfl
    · exact run_ret (ed_and (k := false) (l := false) (ed_isi (T := "int") (vr 0) G.isinstance G.int (by decide +kernel)) fun e => nomatch e) rfl
    · exact run_ret (ed_and (k := false) (l := false) (ed_isi (T := "int") (vr 0) G.isinstance G.int (by decide +kernel)) fun e => nomatch e) rfl
    · exact run_ret (ed_and (k := false) (l := false) (ed_isi (T := "int") (vr 0) G.isinstance G.int (by decide +kernel)) fun e => nomatch e) rfl
  · refine run_ret (ed_and (k := true) (l := decide (a ≤ i) && decide (i ≤ b)) (ed_isi (T := "int") (vr 0) G.isinstance G.int (by decide +kernel)) fun _ => ed_and (k := true) (l := decide (a ≤ i) && decide (i ≤ b)) (ed_not (k := false) (ed_isi (T := "bool") (vr 0) G.isinstance G.bool (by decide +kernel))) fun _ => ed_one (ed_chain (vr 1) (vr 0) (fun _ => vr 2) c_le c_le)) ?_
    refine congrArg PyData.bool ?_
    by_cases h1 : a ≤ i
    · have h2 : ¬ i ≤ b := fun q => hi ⟨h1, q⟩
      simp [h2]
    · simp [h1]
theorem fx_need_letters (F : FnP K "need_letters" s_need_letters f fd) (G : Gs mg) (gL : gLETTERS mg) (F1 : Fd P w K mg base (k + 1) "is_from" ["value", "low", "high"] (spR K R_is_from_a)) (E1 : Ex0 P w K mg base k "BadLetters") : FnOk P w K mg base (L2.CX P w) (k + 2) f fd ["letters"] (spX K X_letters) := by
  have sc : FnScope ["letters"] ["letters"] (defScope s_need_letters) := ⟨rfl, rfl, rfl, by decide +kernel, rfl, by decide +kernel, by decide +kernel⟩
  refine fd_exc F sc _ (fun ds x fo ⟨m, e, _⟩ => by rw [e]; rfl) fun cdv A outer s H E hr W ds x fo hrow hR hw => ?_
  obtain ⟨v, rfl, h1, rfl, rfl⟩ := hR
  refine run_if (k := true) (t_not (k := false) (et_val (ed_call F1 hr (ea_cons (vr 0) (ea_cons ed_int (ea_cons (ed_callB G.len boot_len (ea_cons (ed_gS [97, 98, 99, 100] gL) ea_nil) (c_lenS (by decide))) ea_nil))) ⟨v, 1, 4, rfl, h1, rfl⟩))) (fun _ => ?_) (fun q => nomatch q)
  exact run_raise0 E1 hr (takes_of rfl rfl rfl rfl) fun σ H1 R1 cls d H' xo => hw σ H1 _ _ R1 cls d H' xo
theorem fx_need_pattern (F : FnP K "need_pattern" s_need_pattern f fd) (G : Gs mg) (gL : gLETTERS mg) (gR : gMOST_ROW mg) (gO : gOPENm mg) (gU : gMOST_UNREAD mg) (X1 : FdX P w K mg base (k + 1) "need_mask" ["mask"] X_mask) (F1 : Fd P w K mg base (k + 1) "need_mask" ["mask"] (spR K R_need_mask)) (X2 : FdX P w K mg base (k + 1) "need_letters" ["letters"] X_letters) (F2 : Fd P w K mg base (k + 1) "need_letters" ["letters"] (spR K R_need_letters)) (E1 : Ex0 P w K mg base k "BadPattern") (E2 : Ex1 P w K mg base k "TooMany" "most") : FnOk P w K mg base (L2.CX P w) (k + 2) f fd ["pattern", "mask", "letters"] (spX K X_need_pattern) := by
  have sc : FnScope ["pattern", "mask", "letters", "sign"] ["pattern", "mask", "letters"] (defScope s_need_pattern) := ⟨rfl, rfl, rfl, by decide +kernel, rfl, by decide +kernel, by decide +kernel⟩
  refine fd_exc F sc _ (fun ds x fo ⟨_, _, _, e, _⟩ => by rw [e]; rfl) fun cdv A outer s H E hr W ds x fo hrow hR hw => ?_
  obtain ⟨p, a1, a2, rfl, h⟩ := hR
  rcases h with ⟨ho | ⟨t, rfl, ht, hb⟩, rfl, rfl⟩ | ⟨t, rfl, hb, h⟩
  · refine run_if (k := true) ((tw_or (k := true) (l := false) (t_not (k := false) (et_val (ed_isiS ho (vr 0) G.isinstance G.str))) fun q => nomatch q).t) (fun _ => ?_) (fun q => nomatch q)
    exact run_raise0 E1 hr (takes_of rfl rfl rfl rfl) fun σ H1 R1 cls d H' xo => hw σ H1 _ _ R1 cls d H' xo
  · have hal1 : (t.map fun c => decide (c ∈ [97, 98, 99, 100, 63])).all id = t.all fun c => decide (c ∈ [97, 98, 99, 100, 63]) := by
      rw [List.all_map]
      rfl
    refine run_if (k := true) ((tw_or (t_not (k := true) (et_val (ed_isi (T := "str") (vr 0) G.isinstance G.str (by decide +kernel)))) fun _ => tw_or (tc (lenS G (vr 0)) (ed_gint gR) c_gt) fun _ => tw_or1 (t_not (k := t.all fun c => decide (c ∈ [97, 98, 99, 100, 63])) (et_val ((ed_callB G.all boot_all (ea_cons (lcN0 3 (it_str (vr 0)) (by omega) (fun c => .bool (decide (c ∈ [97, 98, 99, 100, 63]))) (fun c hc W1 l s H C cl fp => ed_cmp (vr 3) (ed_op (ed_gS [97, 98, 99, 100] gL) (ed_gS [63] gO) (o_adds (l := [97, 98, 99, 100]) (m := [63]) (by decide))) c_inS) sc.nd |>.ed sc.nd) ea_nil) (c_all (bs := t.map fun c => decide (c ∈ [97, 98, 99, 100, 63])) rfl |> fun z => by rw [List.map_map] at z; exact z)).to (congrArg PyData.bool hal1))))).t.to ?hc) (fun _ => ?_) (fun e => nomatch e)
    case hc =>
      have e1 : decide ((60 : Int) < (t.length : Int)) = !decide (t.length ≤ 60) := by
        by_cases q : t.length ≤ 60
        · rw [decide_eq_true q, decide_eq_false (by omega)]; rfl
        · rw [decide_eq_false q, decide_eq_true (by omega)]; rfl
      rw [e1, ← Bool.not_and]
      show (!true || !patSB t) = true
      rw [hb]
      rfl
    exact run_raise0 E1 hr (takes_of rfl rfl rfl rfl) fun σ H1 R1 cls d H' xo => hw σ H1 _ _ R1 cls d H' xo
  have hb2 := hb
  unfold patSB at hb2
  rw [Bool.and_eq_true, decide_eq_true_eq] at hb2
  obtain ⟨hl, hal⟩ := hb2
  have hal2 : (t.map fun c => decide (c ∈ [97, 98, 99, 100, 63])).all id = true := by
    rw [List.all_map]
    exact hal
  refine run_if (k := false) ((tw_or (t_not (k := true) (et_val (ed_isi (T := "str") (vr 0) G.isinstance G.str (by decide +kernel)))) fun _ => tw_or (tc (lenS G (vr 0)) (ed_gint gR) c_gt) fun _ => tw_or1 (t_not (k := true) (et_val ((ed_callB G.all boot_all (ea_cons (lcN0 3 (it_str (vr 0)) (by omega) (fun c => .bool (decide (c ∈ [97, 98, 99, 100, 63]))) (fun c hc W1 l s H C cl fp => ed_cmp (vr 3) (ed_op (ed_gS [97, 98, 99, 100] gL) (ed_gS [63] gO) (o_adds (l := [97, 98, 99, 100]) (m := [63]) (by decide))) c_inS) sc.nd |>.ed sc.nd) ea_nil) (c_all (bs := t.map fun c => decide (c ∈ [97, 98, 99, 100, 63])) rfl |> fun z => by rw [List.map_map] at z; exact z)).to (congrArg PyData.bool hal2))))).t.to ?hc) (fun e => nomatch e) (fun _ => run_skip ?_)
  case hc =>
    have : decide ((60 : Int) < (t.length : Int)) = false := decide_eq_false (by omega)
    rw [this]
    rfl
  rcases h with h | ⟨g, h⟩
  · exact run_exprX (ed_callX X1 hr (takes_of rfl rfl rfl rfl) (ea_cons (vr 1) ea_nil) h fun σ H1 R1 cls d H2 xo => hw σ H1 _ _ R1 cls d H2 (xo.down fun a h => List.mem_append_left _ h))
  refine run_expr (ed_call F1 hr (ea_cons (vr 1) ea_nil) g) ?_
  rcases h with h | ⟨g, h6, rfl, rfl⟩
  · exact run_exprX (ed_callX X2 hr (takes_of rfl rfl rfl rfl) (ea_cons (vr 2) ea_nil) h fun σ H1 R1 cls d H2 xo => hw σ H1 _ _ R1 cls d H2 (xo.down fun a h => List.mem_append_left _ h))
  refine run_expr (ed_call F2 hr (ea_cons (vr 2) ea_nil) g) ?_
  refine run_if (k := true) ((tc (ed_count1 (c := 63) (vr 0) (ed_gS [63] gO)) (ed_gint gU) c_gt).to (decide_eq_true (by omega))) (fun _ => ?_) (fun e => nomatch e)
  exact run_raise1 E2 hr (takes_of rfl rfl rfl rfl) (ed_gint gU) fun σ H1 R1 cls d H' xo => hw σ H1 _ _ R1 cls d H' xo
theorem fx_first_filling (F : FnP K "first_filling" s_first_filling f fd) (A0 : FdX P w K mg base k "need_pattern" ["pattern", "mask", "letters"] X_need_pattern) : FnOk P w K mg base (L2.CX P w) (k + 1) f fd ["pattern", "mask", "letters"] (spX K X_first_filling) := by
  have sc : FnScope ["pattern", "mask", "letters", "row"] ["pattern", "mask", "letters"] (defScope s_first_filling) := ⟨rfl, rfl, rfl, by decide +kernel, rfl, by decide +kernel, by decide +kernel⟩
  refine fd_exc F sc _ (fun ds x fo ⟨_, _, _, e, _⟩ => by rw [e]; rfl) fun cdv A outer s H E hr W ds x fo hrow hR hw => ?_
  obtain ⟨a0, a1, a2, rfl, h⟩ := hR
  exact run_exprX (ed_callX A0 hr (takes_of rfl rfl rfl rfl) (ea_cons (vr 0) (ea_cons (vr 1) (ea_cons (vr 2) ea_nil))) h fun σ H1 R1 cls d H2 xo => hw σ H1 _ _ R1 cls d H2 (xo.down fun a h => List.mem_append_left _ h))
theorem fd_is_row_t (F : FnP K "is_row" s_is_row f fd) (G : Gs mg) (gL : gLETTERS mg) (gR : gMOST_ROW mg) : FnOk P w K mg base CX0 (k + 1) f fd ["value"] (spR K R_is_row_t) := by
  have sc : FnScope ["value", "sign"] ["value"] (defScope s_is_row) := ⟨rfl, rfl, rfl, by decide +kernel, rfl, by decide +kernel, by decide +kernel⟩
  refine fd_pure F sc _ (fun ds d ⟨m, e, _⟩ => by rw [e]; rfl) fun cdv A outer s H E hr W ds d hrow hR => ?_
  obtain ⟨l, rfl, hl, rfl⟩ := hR
  refine run_ret (ed_and (k := true) (l := rowB l) (ed_isi (T := "str") (vr 0) G.isinstance G.str (by decide +kernel)) fun _ => ed_and (k := decide (l.length ≤ 60)) (l := l.all fun c => decide (c ∈ [97, 98, 99, 100])) ((ed_cmp (ed_callB G.len boot_len (ea_cons (vr 0) ea_nil) (c_lenS (by omega))) (ed_gint gR) c_le).to ?_) fun _ => ed_one ((ed_callB G.all boot_all (ea_cons (lcN0 1 (it_str (vr 0)) (by omega) (fun c => .bool (decide (c ∈ [97, 98, 99, 100]))) (fun c hc W1 l s H C cl fp => ed_cmp (vr 1) (ed_gS [97, 98, 99, 100] gL) c_inS) sc.nd |>.ed sc.nd) ea_nil) (c_all (bs := l.map fun c => decide (c ∈ [97, 98, 99, 100])) rfl |> fun z => by rw [List.map_map] at z; exact z)).to ?_)) rfl
  · exact congrArg PyData.bool (decide_eq_decide.mpr (by omega))
  · rw [List.all_map]
    rfl
theorem fd_is_row_o (F : FnP K "is_row" s_is_row f fd) (G : Gs mg) : FnOk P w K mg base CX0 (k + 1) f fd ["value"] (spR K R_is_mask_o) := by
  have sc : FnScope ["value", "sign"] ["value"] (defScope s_is_row) := ⟨rfl, rfl, rfl, by decide +kernel, rfl, by decide +kernel, by decide +kernel⟩
  refine fd_pure F sc _ (fun ds d ⟨m, e, _⟩ => by rw [e]; rfl) fun cdv A outer s H E hr W ds d hrow hR => ?_
  obtain ⟨v, rfl, ho, rfl⟩ := hR
  exact run_ret (ed_and (k := false) (l := false) (ed_isiS ho (vr 0) G.isinstance G.str) fun q => nomatch q) rfl
theorem fx_need_row (F : FnP K "need_row" s_need_row f fd) (F1 : Fd P w K mg base (k + 1) "is_row" ["value"] (spR K R_is_row_t)) (F2 : Fd P w K mg base (k + 1) "is_row" ["value"] (spR K R_is_mask_o)) (E1 : Ex0 P w K mg base k "BadRow") : FnOk P w K mg base (L2.CX P w) (k + 2) f fd ["row"] (spX K X_row) := by
  have sc : FnScope ["row"] ["row"] (defScope s_need_row) := ⟨rfl, rfl, rfl, by decide +kernel, rfl, by decide +kernel, by decide +kernel⟩
  refine fd_exc F sc _ (fun ds x fo ⟨m, e, _⟩ => by rw [e]; rfl) fun cdv A outer s H E hr W ds x fo hrow hR hw => ?_
  obtain ⟨v, rfl, hv, rfl, rfl⟩ := hR
  rcases hv with ho | ⟨m, rfl, h1, h2⟩
  · exact run_if (k := true) (t_not (k := false) (et_val (ed_call F2 hr (ea_cons (vr 0) ea_nil) ⟨_, rfl, ho, rfl⟩))) (fun _ => run_raise0 E1 hr (takes_of rfl rfl rfl rfl) fun σ H1 R1 cls d H' xo => hw σ H1 _ _ R1 cls d H' xo) (fun q => nomatch q)
  · exact run_if (k := true) (t_not (k := false) (et_val (ed_call F1 hr (ea_cons (vr 0) ea_nil) ⟨m, rfl, h1, by rw [h2]⟩))) (fun _ => run_raise0 E1 hr (takes_of rfl rfl rfl rfl) fun σ H1 R1 cls d H' xo => hw σ H1 _ _ R1 cls d H' xo) (fun q => nomatch q)
theorem fx_need_steps (F : FnP K "need_steps" s_need_steps f fd) (G : Gs mg) (gM : gMOST_MASK mg) (F1 : Fd P w K mg base (k + 1) "is_from" ["value", "low", "high"] (spR K R_is_from)) (FA : Fd P w K mg base (k + 1) "is_from" ["value", "low", "high"] (spR K R_is_from_a)) (E1 : Ex1 P w K mg base k "BadSteps" "index") : FnOk P w K mg base (L2.CX P w) (k + 2) f fd ["steps", "many"] (spX K X_need_steps) := by
  have sc : FnScope ["steps", "many", "index", "step"] ["steps", "many"] (defScope s_need_steps) := ⟨rfl, rfl, rfl, by decide +kernel, rfl, by decide +kernel, by decide +kernel⟩
  refine fd_exc F sc _ (fun ds x fo ⟨_, _, e, _⟩ => by rw [e]; rfl) fun cdv A outer s H E hr W ds x fo hrow hR hw => ?_
  obtain ⟨v, q, rfl, rfl, h⟩ := hR
  rcases h with ⟨ho | ⟨t, xs, rfl, hn⟩, rfl⟩ | ⟨t, xs, i, rfl, hq, ⟨⟨z, hz, hzn⟩, hb⟩, rfl⟩
  · refine run_if (k := true) (t_or (k := true) (l := false) (t_not (k := false) (et_val (ed_isQ ho (vr 0) G.isinstance G.list G.tuple))) fun q => nomatch q) (fun _ => ?_) (fun q => nomatch q)
    exact run_raise1 E1 hr (takes_of rfl rfl rfl rfl) ed_non fun σ H1 R1 cls d H' xo => hw σ H1 _ _ R1 cls d H' xo
  · refine run_if (k := true) ((t_or (t_not (k := true) (et_val (ed_isLT (vr 0) G.isinstance G.list G.tuple))) fun _ => tc (lenSq G (vr 0)) (vr 1) c_neI).to ?hc) (fun _ => ?_) (fun q => nomatch q)
    case hc =>
      rw [decide_eq_false hn]
      rfl
    exact run_raise1 E1 hr (takes_of rfl rfl rfl rfl) ed_non fun σ H1 R1 cls d H' xo => hw σ H1 _ _ R1 cls d H' xo
  refine run_if (k := false) ((t_or (t_not (k := true) (et_val (ed_isLT (vr 0) G.isinstance G.list G.tuple))) fun _ => tc (lenSq G (vr 0)) (vr 1) c_neI).to ?hc) (fun e => nomatch e) (fun _ => run_skip ?_)
  case hc =>
    rw [decide_eq_true hq]
    rfl
  refine run_ok fun ok => ?_
  refine run_for2P (hp := passes_of rfl) (e1 := fun q : Nat × PyData => nn q.1) (e2 := fun q : Nat × PyData => q.2) 2 3 (it_enumN (xs := xs) (enc := fun y => y) (vr 0) G.enumerate (by rw [List.map_id']; exact seqD_items)) (fun _ => [.no, .no, .no, .no]) (fun _ => []) (fun j => j ≤ i) (Nat.zero_le _) (fun W1 lw j q hq hj => ?_) (fun hj => ?_) sc.nd
  · rw [List.getElem?_mapIdx] at hq
    obtain ⟨y, hy, rfl⟩ := Option.map_eq_some_iff.mp hq
    by_cases e : j = i
    · subst e
      rw [hz] at hy
      cases hy
      refine run_if (k := true) (t_not (k := false) (et_val (ed_call FA hr (ea_cons (vr 3) (ea_cons (ed_neg (ed_gint gM)) (ea_cons (ed_gint gM) ea_nil))) ⟨_, -12, 12, rfl, hzn, rfl⟩))) (fun _ => ?_) (fun q => nomatch q)
      exact run_raise1 E1 hr (takes_of rfl rfl rfl rfl) (vr 2) fun σ H1 R1 cls d H' xo => hw σ H1 _ _ (R1.wdown lw ok) cls d H' (xo.down lw.m)
    · obtain ⟨u, hu, h1, h2⟩ := hb j (by omega)
      rw [hy] at hu
      cases hu
      refine run_if (k := false) (t_not (k := true) (et_val ((ed_call F1 hr (ea_cons (vr 3) (ea_cons (ed_neg (ed_gint gM)) (ea_cons (ed_gint gM) ea_nil))) ⟨u, -12, 12, rfl, rfl⟩).to (congrArg PyData.bool (by simp [h1, h2]))))) (fun e => nomatch e) (fun _ => run_skip (run_eP (by omega)))
  · have := (List.getElem?_eq_some_iff.mp hz).1
    rw [List.length_mapIdx] at hj
    omega
theorem fx_steps_tell (F : FnP K "steps_tell" s_steps_tell f fd) (A0 : FdX P w K mg base k "need_row" ["row"] X_row) (A1 : Fd P w K mg base k "need_row" ["row"] (spR K R_need_row)) (A2 : FdX P w K mg base k "need_mask" ["mask"] X_mask) (A3 : Fd P w K mg base k "need_mask" ["mask"] (spR K R_need_mask)) (A4 : FdX P w K mg base k "need_steps" ["steps", "many"] X_need_steps) (G : Gs mg) (gk_MOST_ROW : gMOST_ROW mg) : FnOk P w K mg base (L2.CX P w) (k + 1) f fd ["row", "mask", "steps"] (spX K X_steps_tell) := by
  have sc : FnScope ["row", "mask", "steps", "told", "place", "views"] ["row", "mask", "steps"] (defScope s_steps_tell) := ⟨rfl, rfl, rfl, by decide +kernel, rfl, by decide +kernel, by decide +kernel⟩
  refine fd_exc F sc _ (fun ds x fo ⟨_, _, _, e, _⟩ => by rw [e]; rfl) fun cdv A outer s H E hr W ds x fo hrow hR hw => ?_
  obtain ⟨a0, a1, a2, rfl, h⟩ := hR
  rcases h with h | ⟨g, h⟩
  · exact run_exprX (ed_callX A0 hr (takes_of rfl rfl rfl rfl) (ea_cons (vr 0) ea_nil) h fun σ H1 R1 cls d H2 xo => hw σ H1 _ _ R1 cls d H2 (xo.down fun a h => List.mem_append_left _ h))
  refine run_expr (ed_call A1 hr (ea_cons (vr 0) ea_nil) g) ?_
  rcases h with h | ⟨g, h⟩
  · exact run_exprX (ed_callX A2 hr (takes_of rfl rfl rfl rfl) (ea_cons (vr 1) ea_nil) h fun σ H1 R1 cls d H2 xo => hw σ H1 _ _ R1 cls d H2 (xo.down fun a h => List.mem_append_left _ h))
  refine run_expr (ed_call A3 hr (ea_cons (vr 1) ea_nil) g) ?_
  obtain ⟨hs, h⟩ := h
  rcases hs with ho | ⟨t, xs, rfl⟩
  · rw [stepN_odd ho] at h
    refine run_exprX (ed_callX A4 hr (takes_of rfl rfl rfl rfl) (ea_cons (vr 2) (ea_cons (ed_if (k := false) (x := .none) (y := .int (-1)) ?hc1 (fun q => nomatch q) (fun _ => ed_neg ed_int)) ea_nil)) h fun σ H1 R1 cls d H2 xo => hw σ H1 _ _ R1 cls d H2 (xo.down fun a h => List.mem_append_left _ h))
    exact t_and (k := false) (l := false) (et_val (ed_isQ ho (vr 2) G.isinstance G.list G.tuple)) fun q => nomatch q
  · rw [stepN_seq] at h
    refine run_exprX (ed_callX A4 hr (takes_of rfl rfl rfl rfl) (ea_cons (vr 2) (ea_cons ((ed_if (k := decide ((xs.length : Int) < 60)) (x := nn xs.length) (y := .int (-1)) ?hc (fun _ => lenSq G (vr 2)) (fun _ => ed_neg ed_int)).to ?he) ea_nil)) h fun σ H1 R1 cls d H2 xo => hw σ H1 _ _ R1 cls d H2 (xo.down fun a h => List.mem_append_left _ h))
    case hc => exact (t_and (k := true) (et_val (ed_isLT (vr 2) G.isinstance G.list G.tuple)) fun _ => tc (lenSq G (vr 2)) (ed_gint gk_MOST_ROW) c_lt).to (Bool.true_and _)
    case he =>
      by_cases q : xs.length < 60
      · rw [if_pos (decide_eq_true (by omega)), if_pos q]
      · rw [if_neg (by simp; omega), if_neg q]
theorem fd_law_base36 (F : FnP K "_law_base" s__law_base f fd) (G : Gs mg) (X0 : ExF K mg "BadPattern") (X1 : ExF K mg "BadSteps") (m00 : PySem.W.exmOne K (.ref (He.ga K "BadPattern")) (.ref (He.ga K "BadPattern")) = some true) (m10 : PySem.W.exmOne K (.ref (He.ga K "BadSteps")) (.ref (He.ga K "BadPattern")) = some false) (m11 : PySem.W.exmOne K (.ref (He.ga K "BadSteps")) (.ref (He.ga K "BadSteps")) = some true)
    (I0 : IsxC K (He.ga K "BadPattern")) (I1 : IsxC K (He.ga K "BadSteps")) (gW : mg "WindowError" = some (.ref (He.ga K "WindowError"))) (gR : mg "BadRow" = some (.ref (He.ga K "BadRow"))) (gV : mg "BadView" = some (.ref (He.ga K "BadView"))) (gVs : mg "BadViews" = some (.ref (He.ga K "BadViews")))
    (k0 : IsK K "BadPattern" "WindowError" true) (k1 : IsK K "BadPattern" "BadRow" false) (k2 : IsK K "BadPattern" "BadView" false) (k3 : IsK K "BadSteps" "WindowError" true) (k4 : IsK K "BadSteps" "BadViews" false)
    (F1 : FdX P w K mg base k "first_filling" ["pattern", "mask", "letters"] X_first_filling) (F2 : FdX P w K mg base k "steps_tell" ["row", "mask", "steps"] X_steps_tell) : FnOk P w K mg base CX0 (k + 1) f fd ["_law_kind"] (spR K R_law_base36) := by
  have sc : FnScope ["_law_kind", "_law_raised", "e"] ["_law_kind"] (defScope s__law_base) := ⟨rfl, rfl, rfl, by decide +kernel, rfl, by decide +kernel, by decide +kernel⟩
  refine fd_pure F sc _ (fun ds d ⟨_, e, _⟩ => by rw [e]; rfl) fun cdv A outer s H E hr W ds d hrow hR => ?_
  obtain ⟨i, rfl, hi, rfl⟩ := hR
  refine run_set (d := .bool false) 1 ed_bl ?_ sc.nd
  match i, hi with
  | 0, _ => exact run_tryP (y0 := .bool true) (xr := "BadPattern") (fo := none) (o := some 2) 1 (.named (i := 2) ⟨rfl, by decide, .inl X0.g⟩ m00 rfl rfl) (by decide) (fun pn xe Wx t hp hw => run_if (k := true) (tc (vr 0) ed_int c_eqI) (fun _ => run_exprX (ed_callX F1 hr t (ea_cons ed_non (ea_cons (ed_S [120]) (ea_cons ed_int ea_nil))) ⟨.none, sD [120], .int 1, rfl, .none, _, _, rfl, .inl ⟨.inl (.inl rfl), rfl, rfl⟩⟩ hw)) (fun q => nomatch q)) (fun W1 a oe pn cls d cg => Ed.to (ed_and (k := true) (l := true) (ed_cmp (vr 0) ed_int c_eqI) (fun _ => ed_and (k := true) (l := true) (ed_isE 2 I0 gW k0 cg G.isinstance) (fun _ => ed_one (ed_not (ed_isE2 2 I0 gR gV k1 k2 cg G.isinstance))))) rfl) (run_ret (vr 1) rfl) sc.nd
  | 1, _ => exact run_tryP (y0 := .bool true) (xr := "BadSteps") (fo := some (("index" : Str), .none)) (o := some 2) 1 (.skip ⟨rfl, by decide, .inl X0.g⟩ m10 (.named (i := 2) ⟨rfl, by decide, .inl X1.g⟩ m11 rfl rfl)) (by decide) (fun pn xe Wx t hp hw => run_if (k := false) (tc (vr 0) ed_int c_eqI) (fun q => nomatch q) (fun _ => run_exprX (ed_callX F2 hr t (ea_cons (ed_S [97, 98]) (ea_cons (ed_S [120]) (ea_cons ed_non ea_nil))) ⟨sD [97, 98], sD [120], .none, rfl, .inr ⟨⟨[97, 98], rfl, by decide, rfl⟩, .inr ⟨⟨[120], rfl, by decide, rfl⟩, .inl (.inl rfl), .none, _, rfl, rfl, .inl ⟨.inl (.inl rfl), rfl⟩⟩⟩⟩ hw))) (fun W1 a oe pn cls d cg => Ed.to (ed_and (k := true) (l := true) (ed_cmp (vr 0) ed_int c_eqI) (fun _ => ed_and (k := true) (l := true) (ed_isE 2 I1 gW k3 cg G.isinstance) (fun _ => ed_one (ed_not (ed_isE 2 I1 gVs k4 cg G.isinstance))))) rfl) (run_ret (vr 1) rfl) sc.nd
end
end HW
set_option maxHeartbeats 4000000
namespace HW
open PySem PySem.Spec PyProof.Rows L2 Tx
open SX (S)
section
variable {P : Program} {w : World} {K : PySem.W.Frag} {mg : Str → Option Value} {base : Heap} {f : Addr} {fd : FuncData} {k : Nat}
def chg36 (i q : Nat) (V : List PyData) : List PyData := if q < i then (V ++ [sD [109, 111, 114, 101]]).reverse else V
theorem fd_the_law (F : FnP K "law" s_law f fd) (G : Gs mg) (F0 : DRAW P w K mg base k) (F1 : Fd P w K mg base k "_law_mask" ["_law_row", "_law_width"] (spW K pre_mask post_mask)) (F2 : Fd P w K mg base k "_law_line" ["_law_row", "_law_most", "_law_letters"] (spW K pre_line post_line))
    (F3 : Fd P w K mg base k "_law_look" ["_law_row", "_law_line_here", "_law_mask_here"] (spW K pre_look post_look)) (N1 : Fd P w K mg base k "both_views" ["row", "mask"] (spN K R_both_views)) (N2 : Fd P w K mg base k "both_find" ["row", "mask", "told"] (spN K R_both_find)) (N3 : Fd P w K mg base k "starts_by" ["row", "mask", "looks", "steps"] (spN K R_starts_by)) (N4 : Fd P w K mg base k "apart_rows" ["mask", "letters", "far"] (spN K R_apart_rows))
    (S1 : Fd P w K mg base k "both_views" ["row", "mask"] (spR K R_both_views)) (S2 : Fd P w K mg base k "both_find" ["row", "mask", "told"] (spR K R_both_find)) (S3 : Fd P w K mg base k "starts_by" ["row", "mask", "looks", "steps"] (spR K R_starts_by)) (S4 : Fd P w K mg base k "apart_rows" ["mask", "letters", "far"] (spR K R_apart_rows))
    (FB : Fd P w K mg base k "_law_base" ["_law_kind"] (spR K R_law_base36)) : FnOk P w K mg base CX0 (k + 1) f fd ["_law_script"] (spLaw K) := by
  have sc : FnScope ["_law_script", "_law_row", "_law_mask_here", "_law_line_here", "_law_look_here", "_law_steps", "_law_k", "_law_looks", "_law_passed", "_law_first", "_law_kept", "_law_one", "_law_again"] ["_law_script"] (defScope s_law) := ⟨rfl, rfl, rfl, by decide +kernel, rfl, by decide +kernel, by decide +kernel⟩
  refine fd_law (rest := (defBody s_law).drop 1) F sc rfl rfl (h := fun cdv A outer s H E hr W r scr ns hrow => ?_)
  have hu := hr.units
  refine run_parP (As := fun ds => ∃ m l : List Nat, ds = [sD m, sD l] ∧ maskB m = true ∧ l.length ≤ 60 ∧ lowL 4 l) 2 3 ?hml (fun ds hd => ?_) sc.nd
  case hml =>
    refine EvA.imp (eva_cons (ev_lmask 12 F1 hr hrow 1 (Ed.evP ed_int ⟨4, rfl, by decide, by decide⟩)) (eva_cons (ev_lline 60 4 F2 hr hrow 1 (Ed.evP ed_int ⟨20, rfl, by decide⟩) (Ed.evP ed_int ⟨3, rfl, by decide, by decide⟩)) eva_nil)) ?_
    rintro ds ⟨x, r1, rfl, ⟨m, rfl, hm, _⟩, y, r2, rfl, ⟨l, rfl, hl, hlow⟩, rfl⟩
    exact ⟨m, l, rfl, hm, hl, hlow⟩
  obtain ⟨m, l, rfl, hm, hl, hlow⟩ := hd
  refine ⟨_, _, rfl, ?_⟩
  have hml := maskB_len hm
  have hm1 := maskB_pos hm
  have hlr : rowB l = true := low_row hl hlow
  refine run_parP (As := fun ds => ∃ (t : List Nat) (ss : List Int), ds = [sD t, .list (ss.map iD)] ∧ lookB m t = true ∧ stepOk ss ∧ ss.length < 4) 4 5 ?hls (fun ds hd => ?_) sc.nd
  case hls =>
    refine EvA.imp (eva_cons (ev_look F3 hr hrow 1 (vr 3) (vr 2) (by omega) hlow hm) (eva_cons (Ev.imp (B := fun z => ∃ ss : List Int, z = .list (ss.map iD) ∧ stepOk ss ∧ ss.length < 4) (LcEv.ev (lcNV 6 (it_rangeV (P := fun q => q < 4) (EvA.imp (eva_cons (ev_takenN 4 F0 hr hrow 1 ed_int rfl) eva_nil) ?hp5) G.range) ?hz (E := fun _ z => ∃ c : Int, z = iD c ∧ (-12 ≤ c ∧ c ≤ 12)) (fun xs hxs x hx W2 lw2 s H C cl fp => ?hel) sc.nd) sc.nd) ?hout) eva_nil)) ?hfin
    case hp5 =>
      rintro ds ⟨x, rr, rfl, ⟨q, rfl, hq⟩, rfl⟩
      exact ⟨(q : Int), rfl, by omega, by omega, by omega⟩
    case hz =>
      rintro xs ⟨q, rfl, hq⟩
      rw [List.length_range]
      omega
    case hel =>
      refine ev_op (ev_takenN 5 F0 hr (lw2.row.trans hrow) 1 ed_int rfl) (ed_int : Ed _ _ _ _ _ (.int 2)).ev ?_
      rintro x y ⟨q, rfl, hq⟩ rfl
      exact ⟨_, ⟨(q : Int) - 2, rfl, by omega, by omega⟩, o_sub⟩
    case hout =>
      rintro d ⟨ys, rfl, xs, ⟨q, rfl, hq⟩, hp⟩
      obtain ⟨cs, rfl, h1, h2⟩ := paired_iD36 hp
      exact ⟨cs, rfl, h1, by rw [h2, List.length_range]; exact hq⟩
    case hfin =>
      rintro ds ⟨x, r1, rfl, ⟨t, rfl, ht⟩, y, r2, rfl, ⟨ss, rfl, h1, h2⟩, rfl⟩
      exact ⟨t, ss, rfl, ht, h1, h2⟩
  obtain ⟨t, ss, rfl, ht, hss, hsl⟩ := hd
  refine ⟨_, _, rfl, ?_⟩
  obtain ⟨vs, evs⟩ : ∃ vs, vs = List.replicate (ss.length + 1) t := ⟨_, rfl⟩
  have hvs : ∀ v ∈ vs, lookB m v = true := fun v hv => by
    rw [evs] at hv
    rw [List.eq_of_mem_replicate hv]
    exact ht
  have hvl : vs.length = ss.length + 1 := by rw [evs, List.length_replicate]
  refine run_set (d := wD vs) 7 (Ed.to (ed_op (ed_lst (ea_cons (vr 4) ea_nil) (by simp)) (ed_op (lenL G (vr 5)) ed_int o_add) (o_rep (by rw [List.length_map]; simp; omega) (by rw [List.length_map]; omega))) ?hrep) ?_ sc.nd
  case hrep =>
    show PyData.list _ = PyData.list _
    rw [evs, List.map_replicate, List.length_map, show ((ss.length : Int) + 1).toNat = ss.length + 1 by omega]
    exact congrArg _ (flat_one _ _)
  refine run_set (d := .list [.list (ss.map iD), wD vs]) 8 (ed_lst (ea_cons (ed_callT G.list boot_list (ea_cons (vr 5) ea_nil) c_listL) (ea_cons (ed_callT G.list boot_list (ea_cons (vr 7) ea_nil) c_listL) ea_nil)) (by simp)) ?_ sc.nd
  have g1 : R_both_views [sD l, sD m] (.list ((standsL l m).map zD)) := ⟨l, m, rfl, hlr, hm, rfl⟩
  have g2 : R_both_find [sD l, sD m, sD t] (.list (((standsL l m).filter fun z => decide (missN z.2 t = 0)).map fun z => stD z.1)) := ⟨l, m, t, rfl, hlr, hm, ht, rfl⟩
  have g3 : R_starts_by [sD l, sD m, wD vs, .list (ss.map iD)] (.list ((startsL (viewsL l m) ss vs).map nn)) := ⟨l, m, false, vs, false, ss, rfl, hlr, hm, by omega, by omega, hvs, by omega, hss, rfl⟩
  have g4 : R_apart_rows [sD [120, 46, 120], .int 2, .int 2] (.list ((levF [120, 46, 120] 2 2 4).map sD)) := ⟨[120, 46, 120], 2, 2, 5, rfl, small36, by decide, by decide, by decide, kn36.1, kn36.2, rfl⟩
  have b1 : ((standsL l m).map zD).length ≤ 120 := by
    rw [List.length_map]
    have := standsL_len l m
    omega
  have b2 : (((standsL l m).filter fun z => decide (missN z.2 t = 0)).map fun z => stD z.1).length ≤ 120 := by
    rw [List.length_map]
    have := standsL_len l m
    have := List.length_filter_le (fun z => decide (missN z.2 t = 0)) (standsL l m)
    omega
  have b3 : ((startsL (viewsL l m) ss vs).map nn).length ≤ 120 := by
    unfold startsL
    rw [List.length_map, List.length_map]
    have h := List.length_filter_le (hitB vs) (walksL (viewsL l m) ss)
    have h2 := walks_len (viewsL l m) ss
    have h3 := viewsL_len l m
    omega
  have b4 : ((levF [120, 46, 120] 2 2 4).map sD).length ≤ 120 := by decide +kernel
  have s1 : Shp 3 (.list ((standsL l m).map zD)) := Shp.list fun y hy => by
    obtain ⟨z, hz, rfl⟩ := List.mem_map.mp hy
    exact shp_z (stands_low (rowB_low hlr) hz)
  have s2 : Shp 3 (.list (((standsL l m).filter fun z => decide (missN z.2 t = 0)).map fun z => stD z.1)) := Shp.list fun y hy => by
    obtain ⟨z, _, rfl⟩ := List.mem_map.mp hy
    exact (shp_st z.1).up (by decide)
  have s3 : Shp 3 (.list ((startsL (viewsL l m) ss vs).map nn)) := Shp.up (shp_nD _) (by decide)
  have s4 : Shp 3 (.list ((levF [120, 46, 120] 2 2 4).map sD)) := Shp.up (shp_w (by decide +kernel)) (by decide)
  generalize (standsL l m).map zD = V1 at *
  generalize (((standsL l m).filter fun z => decide (missN z.2 t = 0)).map fun z => stD z.1) = V2 at *
  generalize (startsL (viewsL l m) ss vs).map nn = V3 at *
  generalize (levF [120, 46, 120] 2 2 4).map sD = V4 at *
  refine run_newLM (P := fun ds μ' => ∃ l1 l2 l3, ds = [ptD l1, ptD l2, ptD l3] ∧ μ' = [(l3, .lst V3), (l2, .lst V2), (l1, .lst V1)]) 9 ?hfirst (fun ds μ1 hd => ?_) sc.nd
  case hfirst =>
    refine EvAM.imp (eam_cons (B := fun d μ1 r μ' => ∃ l2 l3, r = [ptD l2, ptD l3] ∧ μ' = (l3, .lst V3) :: (l2, .lst V2) :: μ1) (em_new N1 hr (ea_cons (vr 3) (ea_cons (vr 2) ea_nil)) g1) (fun d μ1 _ => EvAM.imp (eam_cons (B := fun d μ1 r μ' => ∃ l3, r = [ptD l3] ∧ μ' = (l3, .lst V3) :: μ1) (em_new N2 hr (ea_cons (vr 3) (ea_cons (vr 2) (ea_cons (vr 4) ea_nil))) g2) (fun d2 μ2 _ => EvAM.imp (eam_cons (B := fun d μ1 r μ' => r = [] ∧ μ' = μ1) (em_new N3 hr (ea_cons (vr 3) (ea_cons (vr 2) (ea_cons (vr 7) (ea_cons (vr 5) ea_nil)))) g3) (fun _ _ _ => eam_nil)) ?h3)) ?h2)) ?h1
    case h3 =>
      rintro ds μ' ⟨d, μ2, r, ⟨l3, rfl, rfl⟩, ⟨rfl, rfl⟩, rfl⟩
      exact ⟨l3, rfl, rfl⟩
    case h2 =>
      rintro ds μ' ⟨d, μ2, r, ⟨l2, rfl, rfl⟩, ⟨l3, rfl, rfl⟩, rfl⟩
      exact ⟨l2, l3, rfl, rfl⟩
    case h1 =>
      rintro ds μ' ⟨d, μ2, r, ⟨l1, rfl, rfl⟩, ⟨l2, l3, rfl, rfl⟩, rfl⟩
      exact ⟨l1, l2, l3, rfl, rfl⟩
  obtain ⟨l1, l2, l3, rfl, rfl⟩ := hd
  refine ⟨by simp, fun a => ?_⟩
  refine run_appM (ys := [ptD l1, ptD l2, ptD l3]) 9 0 (em_new N4 hr (ea_cons (ed_S [120, 46, 120]) (ea_cons ed_int (ea_cons ed_int ea_nil))) g4) (fun d μ1 hd => ?_)
  obtain ⟨l4, rfl, rfl⟩ := hd
  refine ⟨1, [ptD l1, ptD l2, ptD l3], rfl, by simp, ?_⟩
  refine run_mu (μ' := [(a, .lst [ptD l1, ptD l2, ptD l3, ptD l4]), (l1, .lst V1), (l2, .lst V2), (l3, .lst V3), (l4, .lst V4)]) (fun p hp => ?hsub) (fun nd => ?hnd) ?_
  case hsub =>
    show p ∈ [(l4, MO.lst V4), (a, .lst [ptD l1, ptD l2, ptD l3, ptD l4]), (l3, .lst V3), (l2, .lst V2), (l1, .lst V1)]
    simp only [List.mem_cons, List.not_mem_nil, or_false] at hp ⊢
    rcases hp with h | h | h | h | h <;> simp [h]
  case hnd =>
    have nd2 : [l4, a, l3, l2, l1].Nodup := nd
    have pm : [l4, a, l3, l2, l1].Perm [a, l1, l2, l3, l4] := (List.Perm.swap _ _ _).trans ((List.reverse_perm [l1, l2, l3, l4]).cons a)
    exact pm.nodup_iff.mp nd2
  refine run_fix 9 ?_
  refine run_setLcP 10 (lcN0 11 (it_list (xs := [0, 1, 2, 3]) (enc := fun q : Nat => [ptD l1, ptD l2, ptD l3, ptD l4].getD q .none) (vr 9)) (by simp) (fun q => [PyData.list V1, .list V2, .list V3, .list V4].getD q .none) (fun q hq W1 lw s H C cl fp => ?hcp) sc.nd) (fun ys ey => ?_) sc.nd
  case hcp =>
    simp only [List.mem_cons, List.not_mem_nil, or_false] at hq
    rcases hq with rfl | rfl | rfl | rfl
    · exact ed_copyD (l := l1) 11 0 G.list
    · exact ed_copyD (l := l2) 11 1 G.list
    · exact ed_copyD (l := l3) 11 2 G.list
    · exact ed_copyD (l := l4) 11 3 G.list
  subst ey
  refine run_forS 11 (it_list (xs := [0, 1, 2, 3]) (enc := fun q : Nat => [ptD l1, ptD l2, ptD l3, ptD l4].getD q .none) (vr 9)) (fun i => [.no, .r r, .d (sD m), .d (sD l), .d (sD t), .d (.list (ss.map iD)), .no, .d (wD vs), .d (.list [.list (ss.map iD), wD vs]), .no, .d (.list [.list V1, .list V2, .list V3, .list V4]), .no, .no]) (fun i => [(l1, .lst (chg36 i 0 V1)), (l2, .lst (chg36 i 1 V2)), (l3, .lst (chg36 i 2 V3)), (l4, .lst (chg36 i 3 V4))]) (fun W1 lw i x hx => ?_) ?_ sc.nd
  · have hi := (List.getElem?_eq_some_iff.mp hx).1
    have hi4 : i = 0 ∨ i = 1 ∨ i = 2 ∨ i = 3 := by simp at hi; omega
    rcases hi4 with rfl | rfl | rfl | rfl
    · cases hx
      exact run_toR 11 l1 (run_app (ys := V1) (d := sD [109, 111, 114, 101]) 11 0 (ed_S _) (by omega) (run_rev (ys := V1 ++ [sD [109, 111, 114, 101]]) 11 0 run_e))
    · cases hx
      exact run_toR 11 l2 (run_app (ys := V2) (d := sD [109, 111, 114, 101]) 11 1 (ed_S _) (by omega) (run_rev (ys := V2 ++ [sD [109, 111, 114, 101]]) 11 1 run_e))
    · cases hx
      exact run_toR 11 l3 (run_app (ys := V3) (d := sD [109, 111, 114, 101]) 11 2 (ed_S _) (by omega) (run_rev (ys := V3 ++ [sD [109, 111, 114, 101]]) 11 2 run_e))
    · cases hx
      exact run_toR 11 l4 (run_app (ys := V4) (d := sD [109, 111, 114, 101]) 11 3 (ed_S _) (by omega) (run_rev (ys := V4 ++ [sD [109, 111, 114, 101]]) 11 3 run_e))
  refine run_mu (μ' := []) (fun p hp => nomatch hp) (fun _ => List.nodup_nil) ?_
  refine run_set (d := .list [.list V1, .list V2, .list V3]) 12 (ed_lst (ea_cons (ed_call S1 hr (ea_cons (vr 3) (ea_cons (vr 2) ea_nil)) g1) (ea_cons (ed_call S2 hr (ea_cons (vr 3) (ea_cons (vr 2) (ea_cons (vr 4) ea_nil))) g2) (ea_cons (ed_call S3 hr (ea_cons (vr 3) (ea_cons (vr 2) (ea_cons (vr 7) (ea_cons (vr 5) ea_nil)))) g3) ea_nil))) (by simp)) ?_ sc.nd
  have sh : Shp 4 (.list [.list V1, .list V2, .list V3, .list V4]) := Shp.list fun y hy => by
    simp only [List.mem_cons, List.not_mem_nil, or_false] at hy
    rcases hy with rfl | rfl | rfl | rfl <;> assumption
  have sh2 : Shp 2 (.list [.list (ss.map iD), wD vs]) := Shp.list fun y hy => by
    simp only [List.mem_cons, List.not_mem_nil, or_false] at hy
    rcases hy with rfl | rfl
    · exact Shp.list fun z hz => by
        obtain ⟨c, _, rfl⟩ := List.mem_map.mp hz
        exact Shp.int
    · exact shp_w fun v hv c hc => by
        have := (lookB_iff.mp (hvs v hv)).2 c hc
        omega
  refine run_if (k := false) (EdT.to (t_or (k := false) (l := false) (tc (x := .list [.list V1, .list V2, .list V3, .list V4]) (ed_op (vr 12) (ed_lst (ea_cons (ed_call S4 hr (ea_cons (ed_S [120, 46, 120]) (ea_cons ed_int (ea_cons ed_int ea_nil))) g4) ea_nil) (by simp)) (o_cat (ds := [.list V1, .list V2, .list V3]) (es := [.list V4]) (by simp))) (vr 10) (c_neSame hu sh)) (fun _ => tc (ed_lst (ea_cons (vr 5) (ea_cons (vr 7) ea_nil)) (by simp)) (vr 8) (c_neSame hu sh2))) rfl) (fun e => nomatch e) (fun _ => run_skip ?_)
  exact run_retV (A := fun z => z = .bool true) (ev_call FB hr (eva_cons (ev_takenN 2 F0 hr hrow 1 ed_int rfl) eva_nil) (fun ds ⟨x, rr, e, ⟨q, ex, hq⟩, e2⟩ => ⟨.bool true, ⟨q, by rw [e, ex, e2], hq, rfl⟩, rfl⟩)) (fun d e => e)
end
end HW
set_option maxHeartbeats 4000000
namespace HW
open PySem PySem.Spec PyProof.Rows L2 Tx
open SX (S)
theorem facts {P : Program} {w : World} {K : PySem.W.Frag} {h : Heap} {mg : Str → Option Value} {f : Addr} (X : K.In h) (G0 : h.Ns mainGlobals mg) (hfa : mg ("law" : Str) = some (.ref f)) (c : He.SaysD Tx.fa Tx.fn K) (cx : Tx.ex K = true) :
    ∃ fd : FuncData, (∀ (s : Shared) (v : Value), BindsTo s fd ⟨[v], []⟩ [("_law_script", v)]) ∧ ∀ base : Heap, K.In base → base.Ns mainGlobals mg → FnOk P w K mg base CX0 7 f fd ["_law_script"] (spLaw K) := by
  obtain ⟨q__law_taken, F__law_taken⟩ := c.def_ 29 (d := d__law_taken) rfl
  have g__law_taken := He.glo_ok X G0 (c.fact 29 (f := .glo "_law_taken") rfl)
  obtain ⟨q__law_mask, F__law_mask⟩ := c.def_ 30 (d := d__law_mask) rfl
  have g__law_mask := He.glo_ok X G0 (c.fact 30 (f := .glo "_law_mask") rfl)
  obtain ⟨q__law_line, F__law_line⟩ := c.def_ 31 (d := d__law_line) rfl
  have g__law_line := He.glo_ok X G0 (c.fact 31 (f := .glo "_law_line") rfl)
  obtain ⟨q__law_open, F__law_open⟩ := c.def_ 32 (d := d__law_open) rfl
  have g__law_open := He.glo_ok X G0 (c.fact 32 (f := .glo "_law_open") rfl)
  obtain ⟨q__law_views, F__law_views⟩ := c.def_ 33 (d := d__law_views) rfl
  have g__law_views := He.glo_ok X G0 (c.fact 33 (f := .glo "_law_views") rfl)
  obtain ⟨q__law_look, F__law_look⟩ := c.def_ 34 (d := d__law_look) rfl
  have g__law_look := He.glo_ok X G0 (c.fact 34 (f := .glo "_law_look") rfl)
  obtain ⟨q_is_row, F_is_row⟩ := c.def_ 3 (d := d_is_row) rfl
  have g_is_row := He.glo_ok X G0 (c.fact 3 (f := .glo "is_row") rfl)
  obtain ⟨q_need_row, F_need_row⟩ := c.def_ 4 (d := d_need_row) rfl
  have g_need_row := He.glo_ok X G0 (c.fact 4 (f := .glo "need_row") rfl)
  obtain ⟨q_is_mask, F_is_mask⟩ := c.def_ 1 (d := d_is_mask) rfl
  have g_is_mask := He.glo_ok X G0 (c.fact 1 (f := .glo "is_mask") rfl)
  obtain ⟨q_need_mask, F_need_mask⟩ := c.def_ 2 (d := d_need_mask) rfl
  have g_need_mask := He.glo_ok X G0 (c.fact 2 (f := .glo "need_mask") rfl)
  obtain ⟨q_seen_by, F_seen_by⟩ := c.def_ 6 (d := d_seen_by) rfl
  have g_seen_by := He.glo_ok X G0 (c.fact 6 (f := .glo "seen_by") rfl)
  obtain ⟨q_stands_of, F_stands_of⟩ := c.def_ 13 (d := d_stands_of) rfl
  have g_stands_of := He.glo_ok X G0 (c.fact 13 (f := .glo "stands_of") rfl)
  obtain ⟨q_both_views, F_both_views⟩ := c.def_ 14 (d := d_both_views) rfl
  have g_both_views := He.glo_ok X G0 (c.fact 14 (f := .glo "both_views") rfl)
  obtain ⟨q_is_view, F_is_view⟩ := c.def_ 11 (d := d_is_view) rfl
  have g_is_view := He.glo_ok X G0 (c.fact 11 (f := .glo "is_view") rfl)
  obtain ⟨q_misses, F_misses⟩ := c.def_ 12 (d := d_misses) rfl
  have g_misses := He.glo_ok X G0 (c.fact 12 (f := .glo "misses") rfl)
  obtain ⟨q_both_find, F_both_find⟩ := c.def_ 15 (d := d_both_find) rfl
  have g_both_find := He.glo_ok X G0 (c.fact 15 (f := .glo "both_find") rfl)
  obtain ⟨q_need_looks, F_need_looks⟩ := c.def_ 20 (d := d_need_looks) rfl
  have g_need_looks := He.glo_ok X G0 (c.fact 20 (f := .glo "need_looks") rfl)
  obtain ⟨q_is_from, F_is_from⟩ := c.def_ 0 (d := d_is_from) rfl
  have g_is_from := He.glo_ok X G0 (c.fact 0 (f := .glo "is_from") rfl)
  obtain ⟨q_need_steps, F_need_steps⟩ := c.def_ 21 (d := d_need_steps) rfl
  have g_need_steps := He.glo_ok X G0 (c.fact 21 (f := .glo "need_steps") rfl)
  obtain ⟨q_view_by, F_view_by⟩ := c.def_ 7 (d := d_view_by) rfl
  have g_view_by := He.glo_ok X G0 (c.fact 7 (f := .glo "view_by") rfl)
  obtain ⟨q_views_of, F_views_of⟩ := c.def_ 8 (d := d_views_of) rfl
  have g_views_of := He.glo_ok X G0 (c.fact 8 (f := .glo "views_of") rfl)
  obtain ⟨q_places_by, F_places_by⟩ := c.def_ 22 (d := d_places_by) rfl
  have g_places_by := He.glo_ok X G0 (c.fact 22 (f := .glo "places_by") rfl)
  obtain ⟨q_walks_of, F_walks_of⟩ := c.def_ 23 (d := d_walks_of) rfl
  have g_walks_of := He.glo_ok X G0 (c.fact 23 (f := .glo "walks_of") rfl)
  obtain ⟨q_starts_by, F_starts_by⟩ := c.def_ 24 (d := d_starts_by) rfl
  have g_starts_by := He.glo_ok X G0 (c.fact 24 (f := .glo "starts_by") rfl)
  obtain ⟨q_need_letters, F_need_letters⟩ := c.def_ 5 (d := d_need_letters) rfl
  have g_need_letters := He.glo_ok X G0 (c.fact 5 (f := .glo "need_letters") rfl)
  obtain ⟨q_need_small, F_need_small⟩ := c.def_ 16 (d := d_need_small) rfl
  have g_need_small := He.glo_ok X G0 (c.fact 16 (f := .glo "need_small") rfl)
  obtain ⟨q_need_far, F_need_far⟩ := c.def_ 18 (d := d_need_far) rfl
  have g_need_far := He.glo_ok X G0 (c.fact 18 (f := .glo "need_far") rfl)
  obtain ⟨q_unlike, F_unlike⟩ := c.def_ 10 (d := d_unlike) rfl
  have g_unlike := He.glo_ok X G0 (c.fact 10 (f := .glo "unlike") rfl)
  obtain ⟨q_wider, F_wider⟩ := c.def_ 17 (d := d_wider) rfl
  have g_wider := He.glo_ok X G0 (c.fact 17 (f := .glo "wider") rfl)
  obtain ⟨q_apart_rows, F_apart_rows⟩ := c.def_ 19 (d := d_apart_rows) rfl
  have g_apart_rows := He.glo_ok X G0 (c.fact 19 (f := .glo "apart_rows") rfl)
  obtain ⟨q_need_pattern, F_need_pattern⟩ := c.def_ 26 (d := d_need_pattern) rfl
  have g_need_pattern := He.glo_ok X G0 (c.fact 26 (f := .glo "need_pattern") rfl)
  obtain ⟨q_first_filling, F_first_filling⟩ := c.def_ 28 (d := d_first_filling) rfl
  have g_first_filling := He.glo_ok X G0 (c.fact 28 (f := .glo "first_filling") rfl)
  obtain ⟨q_steps_tell, F_steps_tell⟩ := c.def_ 25 (d := d_steps_tell) rfl
  have g_steps_tell := He.glo_ok X G0 (c.fact 25 (f := .glo "steps_tell") rfl)
  obtain ⟨q__law_base, F__law_base⟩ := c.def_ 35 (d := d__law_base) rfl
  have g__law_base := He.glo_ok X G0 (c.fact 35 (f := .glo "_law_base") rfl)
  obtain ⟨q_law, F_law⟩ := c.def_ 36 (d := d_law) rfl
  have g_law := He.glo_ok X G0 (c.fact 36 (f := .glo "law") rfl)
  have e := hfa.symm.trans g_law
  cases e
  have n_isinstance := He.free_ok X G0 (c.fact 41 (f := .free "isinstance") rfl)
  have n_str := He.free_ok X G0 (c.fact 46 (f := .free "str") rfl)
  have n_int := He.free_ok X G0 (c.fact 40 (f := .free "int") rfl)
  have n_len := He.free_ok X G0 (c.fact 42 (f := .free "len") rfl)
  have n_all := He.free_ok X G0 (c.fact 37 (f := .free "all") rfl)
  have n_range := He.free_ok X G0 (c.fact 44 (f := .free "range") rfl)
  have n_set := He.free_ok X G0 (c.fact 45 (f := .free "set") rfl)
  have n_enumerate := He.free_ok X G0 (c.fact 39 (f := .free "enumerate") rfl)
  have n_zip := He.free_ok X G0 (c.fact 48 (f := .free "zip") rfl)
  have n_min := He.free_ok X G0 (c.fact 49 (f := .free "min") rfl)
  have n_max := He.free_ok X G0 (c.fact 50 (f := .free "max") rfl)
  have n_sorted := He.free_ok X G0 (c.fact 51 (f := .free "sorted") rfl)
  have n_any := He.free_ok X G0 (c.fact 52 (f := .free "any") rfl)
  have n_tuple := He.free_ok X G0 (c.fact 47 (f := .free "tuple") rfl)
  have n_list := He.free_ok X G0 (c.fact 43 (f := .free "list") rfl)
  have n_bool := He.free_ok X G0 (c.fact 38 (f := .free "bool") rfl)
  have n_dict := He.free_ok X G0 (c.fact 53 (f := .free "dict") rfl)
  have n_abs := He.free_ok X G0 (c.fact 54 (f := .free "abs") rfl)
  have n_sum := He.free_ok X G0 (c.fact 55 (f := .free "sum") rfl)
  have k_SEEN := He.str_ok X G0 (c.fact 63 (f := .str "SEEN" "x") rfl)
  have k_HOLE := He.str_ok X G0 (c.fact 64 (f := .str "HOLE" ".") rfl)
  have k_LETTERS := He.str_ok X G0 (c.fact 65 (f := .str "LETTERS" "abcd") rfl)
  have k_MOST_MASK := He.int_ok X G0 (c.fact 66 (f := .int "MOST_MASK" 12) rfl)
  have k_MOST_ROW := He.int_ok X G0 (c.fact 67 (f := .int "MOST_ROW" 60) rfl)
  have k_MOST_WRONG := He.int_ok X G0 (c.fact 68 (f := .int "MOST_WRONG" 12) rfl)
  have k_OPEN := He.str_ok X G0 (c.fact 69 (f := .str "OPEN" "?") rfl)
  have k_BACK := He.str_ok X G0 (c.fact 70 (f := .str "BACK" "back") rfl)
  have k_ON := He.str_ok X G0 (c.fact 71 (f := .str "ON" "on") rfl)
  have k_MOST_UNREAD := He.int_ok X G0 (c.fact 72 (f := .int "MOST_UNREAD" 6) rfl)
  unfold Tx.ex at cx
  simp only [Bool.and_eq_true] at cx
  obtain ⟨⟨⟨⟨⟨⟨⟨⟨⟨⟨⟨⟨⟨⟨⟨⟨c_xBadPattern, c_xBadMask⟩, c_xBadLetters⟩, c_xTooMany⟩, c_xBadRow⟩, c_xBadSteps⟩, c_bWindowError⟩, c_iBadPattern⟩, c_iBadSteps⟩, c_jBadPattern_WindowError⟩, c_jBadPattern_BadRow⟩, c_jBadPattern_BadView⟩, c_jBadSteps_WindowError⟩, c_jBadSteps_BadViews⟩, c_MOST_WIDTHS⟩, c_MOST_SEEN⟩, _⟩ := cx
  have k_xBadPattern := HW.exfB_ok X G0 c_xBadPattern
  have k_xBadMask := HW.exfB_ok X G0 c_xBadMask
  have k_xBadLetters := HW.exfB_ok X G0 c_xBadLetters
  have k_xTooMany := HW.exfB_ok X G0 c_xTooMany
  have k_xBadRow := HW.exfB_ok X G0 c_xBadRow
  have k_xBadSteps := HW.exfB_ok X G0 c_xBadSteps
  have k_bWindowError := HW.baseB_ok X G0 c_bWindowError
  have k_iBadPattern := HW.isxB_ok c_iBadPattern
  have k_iBadSteps := HW.isxB_ok c_iBadSteps
  have k_jBadPattern_WindowError := HW.isKB_ok c_jBadPattern_WindowError
  have k_jBadPattern_BadRow := HW.isKB_ok c_jBadPattern_BadRow
  have k_jBadPattern_BadView := HW.isKB_ok c_jBadPattern_BadView
  have k_jBadSteps_WindowError := HW.isKB_ok c_jBadSteps_WindowError
  have k_jBadSteps_BadViews := HW.isKB_ok c_jBadSteps_BadViews
  have k_MOST_WIDTHS := HX.tupI_ok X G0 c_MOST_WIDTHS
  have k_MOST_SEEN := HX.tupI_ok X G0 c_MOST_SEEN
  have no_TooMany := He.noat_ok (c.fact 56 (f := .noat "TooMany" "most") rfl)
  have no_BadSteps := He.noat_ok (c.fact 57 (f := .noat "BadSteps" "index") rfl)
  have ex_BadPattern_BadPattern := He.exm_ok (c.fact 60 (f := .exm "BadPattern" "BadPattern" true) rfl)
  have ex_BadSteps_BadPattern := He.exm_ok (c.fact 61 (f := .exm "BadSteps" "BadPattern" false) rfl)
  have ex_BadSteps_BadSteps := He.exm_ok (c.fact 62 (f := .exm "BadSteps" "BadSteps" true) rfl)
  have gg_BadView := He.glo_ok X G0 (c.fact 58 (f := .glo "BadView") rfl)
  have gg_BadViews := He.glo_ok X G0 (c.fact 59 (f := .glo "BadViews") rfl)
  obtain ⟨qi_BadPattern, Fi_BadPattern⟩ := c.def_ 37 (d := i_BadPattern) rfl
  obtain ⟨qi_BadMask, Fi_BadMask⟩ := c.def_ 38 (d := i_BadMask) rfl
  obtain ⟨qi_BadLetters, Fi_BadLetters⟩ := c.def_ 39 (d := i_BadLetters) rfl
  obtain ⟨qi_TooMany, Fi_TooMany⟩ := c.def_ 40 (d := i_TooMany) rfl
  obtain ⟨qi_BadRow, Fi_BadRow⟩ := c.def_ 41 (d := i_BadRow) rfl
  obtain ⟨qi_BadSteps, Fi_BadSteps⟩ := c.def_ 42 (d := i_BadSteps) rfl
  have G : Gs mg := ⟨n_isinstance, n_str, n_int, n_len, n_all, n_range, n_set, n_enumerate, n_zip, n_min, n_max, n_sorted, n_any, n_tuple, n_list, n_bool, n_dict, n_abs, n_sum⟩
  have b := FunD.bindsA (ps := ["_law_script"]) F_law fun _ _ _ _ _ _ us hl => match us, hl with | [_], _ => rfl
  refine ⟨q_law, fun s v => b s [v] rfl, fun base _ _ => ?_⟩
  have E_BadPattern : Ex0 P w K mg base 1 "BadPattern" := ⟨k_xBadPattern, _, fi_BadPattern (k := 0) Fi_BadPattern k_bWindowError, FunD.bindsN Fi_BadPattern fun _ _ _ _ _ _ us hl => match us, hl with | [_], _ => rfl⟩
  have E_BadMask : Ex0 P w K mg base 1 "BadMask" := ⟨k_xBadMask, _, fi_BadMask (k := 0) Fi_BadMask k_bWindowError, FunD.bindsN Fi_BadMask fun _ _ _ _ _ _ us hl => match us, hl with | [_], _ => rfl⟩
  have E_BadLetters : Ex0 P w K mg base 1 "BadLetters" := ⟨k_xBadLetters, _, fi_BadLetters (k := 0) Fi_BadLetters k_bWindowError, FunD.bindsN Fi_BadLetters fun _ _ _ _ _ _ us hl => match us, hl with | [_], _ => rfl⟩
  have E_TooMany : Ex1 P w K mg base 1 "TooMany" "most" := ⟨k_xTooMany, no_TooMany, _, fi_TooMany (k := 0) Fi_TooMany k_bWindowError no_TooMany, FunD.bindsN Fi_TooMany fun _ _ _ _ _ _ us hl => match us, hl with | [_, _], _ => rfl⟩
  have E_BadRow : Ex0 P w K mg base 1 "BadRow" := ⟨k_xBadRow, _, fi_BadRow (k := 0) Fi_BadRow k_bWindowError, FunD.bindsN Fi_BadRow fun _ _ _ _ _ _ us hl => match us, hl with | [_], _ => rfl⟩
  have E_BadSteps : Ex1 P w K mg base 1 "BadSteps" "index" := ⟨k_xBadSteps, no_BadSteps, _, fi_BadSteps (k := 0) Fi_BadSteps k_bWindowError no_BadSteps, FunD.bindsN Fi_BadSteps fun _ _ _ _ _ _ us hl => match us, hl with | [_, _], _ => rfl⟩
  have A__law_taken : Fd P w K mg base 1 "_law_taken" ["_law_row", "_law_many"] (spW K R_taken_pre R_taken_post) := ⟨_, _, fd_taken (k := 0) F__law_taken n_int n_len, g__law_taken, FunD.kp F__law_taken, FunD.bindsN F__law_taken fun _ _ _ _ _ _ us hl => match us, hl with | [_, _], _ => rfl⟩
  have A__law_mask : Fd P w K mg base 2 "_law_mask" ["_law_row", "_law_width"] (spW K pre_mask post_mask) := ⟨_, _, fd_law_mask (k := 1) F__law_mask n_range (A__law_taken.mono (by decide)), g__law_mask, FunD.kp F__law_mask, FunD.bindsN F__law_mask fun _ _ _ _ _ _ us hl => match us, hl with | [_, _], _ => rfl⟩
  have A__law_line : Fd P w K mg base 2 "_law_line" ["_law_row", "_law_most", "_law_letters"] (spW K pre_line post_line) := ⟨_, _, fd_law_line (k := 1) F__law_line n_range (A__law_taken.mono (by decide)), g__law_line, FunD.kp F__law_line, FunD.bindsN F__law_line fun _ _ _ _ _ _ us hl => match us, hl with | [_, _, _], _ => rfl⟩
  have A__law_open : Fd P w K mg base 1 "_law_open" ["_law_mask_here"] (spR K R_open) := ⟨_, _, fd_law_open (k := 0) F__law_open G, g__law_open, FunD.kp F__law_open, FunD.bindsN F__law_open fun _ _ _ _ _ _ us hl => match us, hl with | [_], _ => rfl⟩
  have A__law_views : Fd P w K mg base 2 "_law_views" ["_law_line_here", "_law_mask_here"] (spR K R_lviews) := ⟨_, _, fd_law_views (k := 1) F__law_views G (A__law_open.mono (by decide)), g__law_views, FunD.kp F__law_views, FunD.bindsN F__law_views fun _ _ _ _ _ _ us hl => match us, hl with | [_, _], _ => rfl⟩
  have A__law_look : Fd P w K mg base 3 "_law_look" ["_law_row", "_law_line_here", "_law_mask_here"] (spW K pre_look post_look) := ⟨_, _, fd_law_look (k := 2) F__law_look G (A__law_taken.mono (by decide)) (A__law_open.mono (by decide)) (A__law_views.mono (by decide)), g__law_look, FunD.kp F__law_look, FunD.bindsN F__law_look fun _ _ _ _ _ _ us hl => match us, hl with | [_, _, _], _ => rfl⟩
  have A_is_row : Fd P w K mg base 1 "is_row" ["value"] (spR K R_is_row) := ⟨_, _, fd_is_row (k := 0) F_is_row G k_LETTERS k_MOST_ROW, g_is_row, FunD.kp F_is_row, FunD.bindsN F_is_row fun _ _ _ _ _ _ us hl => match us, hl with | [_], _ => rfl⟩
  have A_need_row : Fd P w K mg base 2 "need_row" ["row"] (spR K R_need_row) := ⟨_, _, fd_need_row (k := 1) F_need_row (A_is_row.mono (by decide)), g_need_row, FunD.kp F_need_row, FunD.bindsN F_need_row fun _ _ _ _ _ _ us hl => match us, hl with | [_], _ => rfl⟩
  have A_is_mask : Fd P w K mg base 1 "is_mask" ["value"] (spR K R_is_mask) := ⟨_, _, fd_is_mask (k := 0) F_is_mask G k_SEEN k_HOLE k_MOST_MASK, g_is_mask, FunD.kp F_is_mask, FunD.bindsN F_is_mask fun _ _ _ _ _ _ us hl => match us, hl with | [_], _ => rfl⟩
  have A_need_mask : Fd P w K mg base 2 "need_mask" ["mask"] (spR K R_need_mask) := ⟨_, _, fd_need_mask (k := 1) F_need_mask (A_is_mask.mono (by decide)), g_need_mask, FunD.kp F_need_mask, FunD.bindsN F_need_mask fun _ _ _ _ _ _ us hl => match us, hl with | [_], _ => rfl⟩
  have A_seen_by : Fd P w K mg base 1 "seen_by" ["mask"] (spR K R_seen_by) := ⟨_, _, fd_seen_by (k := 0) F_seen_by G k_SEEN, g_seen_by, FunD.kp F_seen_by, FunD.bindsN F_seen_by fun _ _ _ _ _ _ us hl => match us, hl with | [_], _ => rfl⟩
  have A_stands_of_N : Fd P w K mg base 2 "stands_of" ["row", "mask"] (spN K R_stands_of) := ⟨_, _, fn_stands_of (k := 1) F_stands_of G k_BACK k_ON (A_seen_by.mono (by decide)), g_stands_of, FunD.kp F_stands_of, FunD.bindsN F_stands_of fun _ _ _ _ _ _ us hl => match us, hl with | [_, _], _ => rfl⟩
  have A_both_views_N : Fd P w K mg base 3 "both_views" ["row", "mask"] (spN K R_both_views) := ⟨_, _, fn_both_views (k := 2) F_both_views (A_need_row.mono (by decide)) (A_need_mask.mono (by decide)) (A_stands_of_N.mono (by decide)), g_both_views, FunD.kp F_both_views, FunD.bindsN F_both_views fun _ _ _ _ _ _ us hl => match us, hl with | [_, _], _ => rfl⟩
  have A_is_view : Fd P w K mg base 2 "is_view" ["mask", "value"] (spR K R_is_view) := ⟨_, _, fd_is_view (k := 1) F_is_view G k_LETTERS k_OPEN (A_seen_by.mono (by decide)), g_is_view, FunD.kp F_is_view, FunD.bindsN F_is_view fun _ _ _ _ _ _ us hl => match us, hl with | [_, _], _ => rfl⟩
  have A_stands_of : Fd P w K mg base 2 "stands_of" ["row", "mask"] (spR K R_stands_of) := ⟨_, _, fd_stands_of (k := 1) F_stands_of G k_BACK k_ON (A_seen_by.mono (by decide)), g_stands_of, FunD.kp F_stands_of, FunD.bindsN F_stands_of fun _ _ _ _ _ _ us hl => match us, hl with | [_, _], _ => rfl⟩
  have A_misses : Fd P w K mg base 1 "misses" ["view", "told"] (spR K R_misses) := ⟨_, _, fd_misses (k := 0) F_misses G k_OPEN, g_misses, FunD.kp F_misses, FunD.bindsN F_misses fun _ _ _ _ _ _ us hl => match us, hl with | [_, _], _ => rfl⟩
  have A_both_find_N : Fd P w K mg base 3 "both_find" ["row", "mask", "told"] (spN K R_both_find) := ⟨_, _, fn_both_find (k := 2) F_both_find (A_need_row.mono (by decide)) (A_need_mask.mono (by decide)) (A_is_view.mono (by decide)) (A_stands_of.mono (by decide)) (A_misses.mono (by decide)), g_both_find, FunD.kp F_both_find, FunD.bindsN F_both_find fun _ _ _ _ _ _ us hl => match us, hl with | [_, _, _], _ => rfl⟩
  have A_need_looks : Fd P w K mg base 3 "need_looks" ["mask", "looks"] (spR K R_need_looks) := ⟨_, _, fd_need_looks (k := 2) F_need_looks G k_MOST_ROW (A_is_view.mono (by decide)), g_need_looks, FunD.kp F_need_looks, FunD.bindsN F_need_looks fun _ _ _ _ _ _ us hl => match us, hl with | [_, _], _ => rfl⟩
  have A_is_from : Fd P w K mg base 1 "is_from" ["value", "low", "high"] (spR K R_is_from) := ⟨_, _, fd_is_from (k := 0) F_is_from G, g_is_from, FunD.kp F_is_from, FunD.bindsN F_is_from fun _ _ _ _ _ _ us hl => match us, hl with | [_, _, _], _ => rfl⟩
  have A_need_steps : Fd P w K mg base 2 "need_steps" ["steps", "many"] (spR K R_need_steps) := ⟨_, _, fd_need_steps (k := 1) F_need_steps G k_MOST_MASK (A_is_from.mono (by decide)), g_need_steps, FunD.kp F_need_steps, FunD.bindsN F_need_steps fun _ _ _ _ _ _ us hl => match us, hl with | [_, _], _ => rfl⟩
  have A_view_by : Fd P w K mg base 2 "view_by" ["row", "mask", "place"] (spR K R_view_by) := ⟨_, _, fd_view_by (k := 1) F_view_by G (A_seen_by.mono (by decide)), g_view_by, FunD.kp F_view_by, FunD.bindsN F_view_by fun _ _ _ _ _ _ us hl => match us, hl with | [_, _, _], _ => rfl⟩
  have A_views_of : Fd P w K mg base 3 "views_of" ["row", "mask"] (spR K R_views_of) := ⟨_, _, fd_views_of (k := 2) F_views_of G (A_view_by.mono (by decide)), g_views_of, FunD.kp F_views_of, FunD.bindsN F_views_of fun _ _ _ _ _ _ us hl => match us, hl with | [_, _], _ => rfl⟩
  have A_places_by : Fd P w K mg base 1 "places_by" ["many", "place", "steps"] (spR K R_places_by) := ⟨_, _, fd_places_by (k := 0) F_places_by G, g_places_by, FunD.kp F_places_by, FunD.bindsN F_places_by fun _ _ _ _ _ _ us hl => match us, hl with | [_, _, _], _ => rfl⟩
  have A_walks_of : Fd P w K mg base 4 "walks_of" ["row", "mask", "steps"] (spR K R_walks_of) := ⟨_, _, fd_walks_of (k := 3) F_walks_of G (A_views_of.mono (by decide)) (A_places_by.mono (by decide)), g_walks_of, FunD.kp F_walks_of, FunD.bindsN F_walks_of fun _ _ _ _ _ _ us hl => match us, hl with | [_, _, _], _ => rfl⟩
  have A_starts_by_N : Fd P w K mg base 5 "starts_by" ["row", "mask", "looks", "steps"] (spN K R_starts_by) := ⟨_, _, fn_starts_by (k := 4) F_starts_by G (A_need_row.mono (by decide)) (A_need_mask.mono (by decide)) (A_need_looks.mono (by decide)) (A_need_steps.mono (by decide)) (A_walks_of.mono (by decide)) (A_misses.mono (by decide)), g_starts_by, FunD.kp F_starts_by, FunD.bindsN F_starts_by fun _ _ _ _ _ _ us hl => match us, hl with | [_, _, _, _], _ => rfl⟩
  have A_need_letters : Fd P w K mg base 2 "need_letters" ["letters"] (spR K R_need_letters) := ⟨_, _, fd_need_letters (k := 1) F_need_letters G k_LETTERS (A_is_from.mono (by decide)), g_need_letters, FunD.kp F_need_letters, FunD.bindsN F_need_letters fun _ _ _ _ _ _ us hl => match us, hl with | [_], _ => rfl⟩
  have A_need_small : Fd P w K mg base 3 "need_small" ["mask", "letters"] (spR K R_need_small) := ⟨_, _, fd_need_small (k := 2) F_need_small G k_MOST_WIDTHS k_MOST_SEEN (A_need_mask.mono (by decide)) (A_need_letters.mono (by decide)) (A_seen_by.mono (by decide)), g_need_small, FunD.kp F_need_small, FunD.bindsN F_need_small fun _ _ _ _ _ _ us hl => match us, hl with | [_, _], _ => rfl⟩
  have A_need_far : Fd P w K mg base 4 "need_far" ["mask", "letters", "far"] (spR K R_need_far) := ⟨_, _, fd_need_far (k := 3) F_need_far k_MOST_WRONG (A_need_small.mono (by decide)) (A_is_from.mono (by decide)), g_need_far, FunD.kp F_need_far, FunD.bindsN F_need_far fun _ _ _ _ _ _ us hl => match us, hl with | [_, _, _], _ => rfl⟩
  have A_unlike : Fd P w K mg base 1 "unlike" ["one", "other"] (spR K R_unlike) := ⟨_, _, fd_unlike (k := 0) F_unlike G, g_unlike, FunD.kp F_unlike, FunD.bindsN F_unlike fun _ _ _ _ _ _ us hl => match us, hl with | [_, _], _ => rfl⟩
  have A_wider : Fd P w K mg base 3 "wider" ["rows", "mask", "letters", "far"] (spR K R_wider) := ⟨_, _, fd_wider (k := 2) F_wider G k_LETTERS (A_view_by.mono (by decide)) (A_unlike.mono (by decide)), g_wider, FunD.kp F_wider, FunD.bindsN F_wider fun _ _ _ _ _ _ us hl => match us, hl with | [_, _, _, _], _ => rfl⟩
  have A_apart_rows_N : Fd P w K mg base 5 "apart_rows" ["mask", "letters", "far"] (spN K R_apart_rows) := ⟨_, _, fn_apart_rows (k := 4) F_apart_rows (A_need_far.mono (by decide)) (A_wider.mono (by decide)), g_apart_rows, FunD.kp F_apart_rows, FunD.bindsN F_apart_rows fun _ _ _ _ _ _ us hl => match us, hl with | [_, _, _], _ => rfl⟩
  have A_both_views : Fd P w K mg base 3 "both_views" ["row", "mask"] (spR K R_both_views) := ⟨_, _, fd_both_views (k := 2) F_both_views (A_need_row.mono (by decide)) (A_need_mask.mono (by decide)) (A_stands_of.mono (by decide)), g_both_views, FunD.kp F_both_views, FunD.bindsN F_both_views fun _ _ _ _ _ _ us hl => match us, hl with | [_, _], _ => rfl⟩
  have A_both_find : Fd P w K mg base 3 "both_find" ["row", "mask", "told"] (spR K R_both_find) := ⟨_, _, fd_both_find (k := 2) F_both_find (A_need_row.mono (by decide)) (A_need_mask.mono (by decide)) (A_is_view.mono (by decide)) (A_stands_of.mono (by decide)) (A_misses.mono (by decide)), g_both_find, FunD.kp F_both_find, FunD.bindsN F_both_find fun _ _ _ _ _ _ us hl => match us, hl with | [_, _, _], _ => rfl⟩
  have A_starts_by : Fd P w K mg base 5 "starts_by" ["row", "mask", "looks", "steps"] (spR K R_starts_by) := ⟨_, _, fd_starts_by (k := 4) F_starts_by G (A_need_row.mono (by decide)) (A_need_mask.mono (by decide)) (A_need_looks.mono (by decide)) (A_need_steps.mono (by decide)) (A_walks_of.mono (by decide)) (A_misses.mono (by decide)), g_starts_by, FunD.kp F_starts_by, FunD.bindsN F_starts_by fun _ _ _ _ _ _ us hl => match us, hl with | [_, _, _, _], _ => rfl⟩
  have A_apart_rows : Fd P w K mg base 5 "apart_rows" ["mask", "letters", "far"] (spR K R_apart_rows) := ⟨_, _, fd_apart_rows (k := 4) F_apart_rows (A_need_far.mono (by decide)) (A_wider.mono (by decide)), g_apart_rows, FunD.kp F_apart_rows, FunD.bindsN F_apart_rows fun _ _ _ _ _ _ us hl => match us, hl with | [_, _, _], _ => rfl⟩
  have A_is_mask_T : Fd P w K mg base 1 "is_mask" ["value"] (spR K R_is_mask_t) := ⟨_, _, fd_is_mask_t (k := 0) F_is_mask G k_SEEN k_HOLE k_MOST_MASK, g_is_mask, FunD.kp F_is_mask, FunD.bindsN F_is_mask fun _ _ _ _ _ _ us hl => match us, hl with | [_], _ => rfl⟩
  have A_is_mask_O : Fd P w K mg base 1 "is_mask" ["value"] (spR K R_is_mask_o) := ⟨_, _, fd_is_mask_o (k := 0) F_is_mask G, g_is_mask, FunD.kp F_is_mask, FunD.bindsN F_is_mask fun _ _ _ _ _ _ us hl => match us, hl with | [_], _ => rfl⟩
  have A_need_mask_X : FdX P w K mg base 3 "need_mask" ["mask"] (X_mask) := ⟨_, _, fx_need_mask (k := 1) F_need_mask (A_is_mask_T.mono (by decide)) (A_is_mask_O.mono (by decide)) (E_BadMask.mono (by decide)), g_need_mask, FunD.kp F_need_mask, FunD.bindsN F_need_mask fun _ _ _ _ _ _ us hl => match us, hl with | [_], _ => rfl⟩
  have A_is_from_A : Fd P w K mg base 1 "is_from" ["value", "low", "high"] (spR K R_is_from_a) := ⟨_, _, fd_is_from_a (k := 0) F_is_from G, g_is_from, FunD.kp F_is_from, FunD.bindsN F_is_from fun _ _ _ _ _ _ us hl => match us, hl with | [_, _, _], _ => rfl⟩
  have A_need_letters_X : FdX P w K mg base 3 "need_letters" ["letters"] (X_letters) := ⟨_, _, fx_need_letters (k := 1) F_need_letters G k_LETTERS (A_is_from_A.mono (by decide)) (E_BadLetters.mono (by decide)), g_need_letters, FunD.kp F_need_letters, FunD.bindsN F_need_letters fun _ _ _ _ _ _ us hl => match us, hl with | [_], _ => rfl⟩
  have A_need_pattern_X : FdX P w K mg base 4 "need_pattern" ["pattern", "mask", "letters"] (X_need_pattern) := ⟨_, _, fx_need_pattern (k := 2) F_need_pattern G k_LETTERS k_MOST_ROW k_OPEN k_MOST_UNREAD (A_need_mask_X.mono (by decide)) (A_need_mask.mono (by decide)) (A_need_letters_X.mono (by decide)) (A_need_letters.mono (by decide)) (E_BadPattern.mono (by decide)) (E_TooMany.mono (by decide)), g_need_pattern, FunD.kp F_need_pattern, FunD.bindsN F_need_pattern fun _ _ _ _ _ _ us hl => match us, hl with | [_, _, _], _ => rfl⟩
  have A_first_filling_X : FdX P w K mg base 5 "first_filling" ["pattern", "mask", "letters"] (X_first_filling) := ⟨_, _, fx_first_filling (k := 4) F_first_filling (A_need_pattern_X.mono (by decide)), g_first_filling, FunD.kp F_first_filling, FunD.bindsN F_first_filling fun _ _ _ _ _ _ us hl => match us, hl with | [_, _, _], _ => rfl⟩
  have A_is_row_T : Fd P w K mg base 1 "is_row" ["value"] (spR K R_is_row_t) := ⟨_, _, fd_is_row_t (k := 0) F_is_row G k_LETTERS k_MOST_ROW, g_is_row, FunD.kp F_is_row, FunD.bindsN F_is_row fun _ _ _ _ _ _ us hl => match us, hl with | [_], _ => rfl⟩
  have A_is_row_O : Fd P w K mg base 1 "is_row" ["value"] (spR K R_is_mask_o) := ⟨_, _, fd_is_row_o (k := 0) F_is_row G, g_is_row, FunD.kp F_is_row, FunD.bindsN F_is_row fun _ _ _ _ _ _ us hl => match us, hl with | [_], _ => rfl⟩
  have A_need_row_X : FdX P w K mg base 3 "need_row" ["row"] (X_row) := ⟨_, _, fx_need_row (k := 1) F_need_row (A_is_row_T.mono (by decide)) (A_is_row_O.mono (by decide)) (E_BadRow.mono (by decide)), g_need_row, FunD.kp F_need_row, FunD.bindsN F_need_row fun _ _ _ _ _ _ us hl => match us, hl with | [_], _ => rfl⟩
  have A_need_steps_X : FdX P w K mg base 3 "need_steps" ["steps", "many"] (X_need_steps) := ⟨_, _, fx_need_steps (k := 1) F_need_steps G k_MOST_MASK (A_is_from.mono (by decide)) (A_is_from_A.mono (by decide)) (E_BadSteps.mono (by decide)), g_need_steps, FunD.kp F_need_steps, FunD.bindsN F_need_steps fun _ _ _ _ _ _ us hl => match us, hl with | [_, _], _ => rfl⟩
  have A_steps_tell_X : FdX P w K mg base 4 "steps_tell" ["row", "mask", "steps"] (X_steps_tell) := ⟨_, _, fx_steps_tell (k := 3) F_steps_tell (A_need_row_X.mono (by decide)) (A_need_row.mono (by decide)) (A_need_mask_X.mono (by decide)) (A_need_mask.mono (by decide)) (A_need_steps_X.mono (by decide)) G k_MOST_ROW, g_steps_tell, FunD.kp F_steps_tell, FunD.bindsN F_steps_tell fun _ _ _ _ _ _ us hl => match us, hl with | [_, _, _], _ => rfl⟩
  have A__law_base : Fd P w K mg base 6 "_law_base" ["_law_kind"] (spR K R_law_base36) := ⟨_, _, fd_law_base36 (k := 5) F__law_base G k_xBadPattern k_xBadSteps ex_BadPattern_BadPattern ex_BadSteps_BadPattern ex_BadSteps_BadSteps k_iBadPattern k_iBadSteps k_bWindowError.g k_xBadRow.g gg_BadView gg_BadViews k_jBadPattern_WindowError k_jBadPattern_BadRow k_jBadPattern_BadView k_jBadSteps_WindowError k_jBadSteps_BadViews (A_first_filling_X.mono (by decide)) (A_steps_tell_X.mono (by decide)), g__law_base, FunD.kp F__law_base, FunD.bindsN F__law_base fun _ _ _ _ _ _ us hl => match us, hl with | [_], _ => rfl⟩
  exact fd_the_law (k := 6) F_law G (A__law_taken.mono (by decide)) (A__law_mask.mono (by decide)) (A__law_line.mono (by decide)) (A__law_look.mono (by decide)) (A_both_views_N.mono (by decide)) (A_both_find_N.mono (by decide)) (A_starts_by_N.mono (by decide)) (A_apart_rows_N.mono (by decide)) (A_both_views.mono (by decide)) (A_both_find.mono (by decide)) (A_starts_by.mono (by decide)) (A_apart_rows.mono (by decide)) (A__law_base.mono (by decide))
end HW
open PySem PySem.W PySem.Calls PyProof.Rows
theorem PySem.Challenge.cw_holedwindows_k36_deeper_asked_again_holds : PySem.Challenge.rw_holedwindows_k36_deeper_asked_again.Holds := by
  w_on; o_law
  refine HandSHeadRun.head_any (r := OpenLaw.row PySem.Challenge.rw_holedwindows_k36_deeper_asked_again) (q := view (OpenLaw.row PySem.Challenge.rw_holedwindows_k36_deeper_asked_again).prog [69]) (H := Tx.hk) (ob := Tx.ob) (M := 9000) (loose := Tx.names) (d := HandSHeadRun.topDef (OpenLaw.row PySem.Challenge.rw_holedwindows_k36_deeper_asked_again).prog 69) (kwd := []) Tx.ob_eq
    (by kernel_rfl) (fun s => by kernel_rfl) Tx.run (by kernel_rfl) (by kernel_rfl) (by kernel_rfl) (by rfl) (by first | assumption | decide +kernel) (by decide +kernel) ⟨rfl, rfl, rfl, rfl, rfl, by decide +kernel⟩ ?hw ?hc
  case hw => w_witness2
  case hc =>
    refine L2.walk_ofE (l := PySem.Challenge.rw_holedwindows_k36_deeper_asked_again) (n := 63) (k := 7) (x := "_law_script") (CX := L2.CX0) rfl (by decide) (by kernel_rfl) ⟨rfl, by decide, by decide⟩ ?F (fun _ _ _ _ z => z)
    intro w mg fa h Y G hmg0
    obtain ⟨K, KX, c, cx⟩ := Y
    have hmg : mg ("law" : PySem.Str) = some (.ref fa) := by
      have e : (HandSHeadRun.topDef (OpenLaw.row PySem.Challenge.rw_holedwindows_k36_deeper_asked_again).prog 69).name = ("law" : PySem.Str) := by kernel_rfl
      rw [← e]
      exact hmg0
    obtain ⟨fd, hb, hF⟩ := HW.facts (P := (PySem.Challenge.rw_holedwindows_k36_deeper_asked_again).prog) (w := w) KX G hmg c cx
    exact ⟨K, fd, HW.spLaw K, KX, hb, fun H a ns hl _ hS => ⟨a, ns, rfl, hl, hS, fun _ => rfl⟩, hF⟩

