import PyProof.Rows.All
import Wide.All
import OpenK.AllK
import Wide.FinOn
import KE.KStateDown
import HandS.ForMost
import HandS.Head0
import HandS.Head1
import HandS.Head2
import HandS.HeadEnd
import HandS.HeadHook1
import HandS.HeadHook2
import HandS.Defaults
import HandS.Codes
import HandS.IsInst
import KE.GoesEnum
import HandS.Strs
import HandS.Zip
import HandS.TupAny
import HandS.TupMul
import PyProof.StrOps2
import HandS.NoneIn
import HandS.Style
import KE.KRevSl
import HandS.Replace
import KE.DataMinMax
import KE.SortData
import KE.DataCmp
import HandS.Flow
import HandS.Wide
import HandS.Set
import HandS.SetFor
import HandS.ExcInit
import HandS.ExcField
import HandS.TryOnly
import HandS.TryMany
import HandS.WordsExc
import HandS.ClsMeth
import HandS.Iter
import PyProof.SeqIndex
import HandS.TupSets
import PyProof.StrLawsChain
import HandS.Property
import PySem.Challenge.RW_holedwindows_k01_masks_refused
set_option Elab.async false
set_option linter.all false
set_option maxRecDepth 100000
set_option maxHeartbeats 4000000
namespace HX
open PySem PySem.Spec PyProof.Rows L2 He
/-! the head's Hook with one more question ex -/
abbrev AlE : Type := AlD × Bool
/-- a constant that is a tuple of ints -/
def intV : Value → Option Int
  | .int i _ => some i
  | _ => none
def tupI (x : Str) (ns : List Int) (K : PySem.W.Frag) : Bool := match PySem.W.nsIn K mainGlobals x with
  | some (some (.ref a)) => match K.lookup a with
    | some ⟨.type T, _, .seq its _, _⟩ => decide (T = "tuple") && decide (its.toList.map intV = ns.map some) && decide (its.size ≤ 1000)
    | _ => false
  | _ => false
theorem vals_intV : ∀ {us : List Value} {ns : List Int}, us.map intV = ns.map some → Vals (ns.map V.int) us
  | [], [], _ => .nil
  | [], _ :: _, h => nomatch h
  | _ :: _, [], h => nomatch h
  | u :: us, n :: ns, h => by
    rw [List.map_cons, List.map_cons] at h
    have h1 := (List.cons.inj h).1
    have h2 := (List.cons.inj h).2
    refine .cons ?_ (vals_intV h2)
    cases u with
    | int i t =>
      have e : i = n := Option.some.inj h1
      subst e
      exact ⟨t, rfl⟩
    | _ => cases h1
abbrev gTup (K : PySem.W.Frag) (mg : Str → Option Value) (x : Str) (ns : List Int) : Prop := ∃ a, mg x = some (.ref a) ∧ ∀ H : Hp, SqT K H a (ns.map V.int)
theorem tupI_ok {K : PySem.W.Frag} {h : Heap} {mg : Str → Option Value} {x : Str} {ns : List Int} (X : K.In h) (G : h.Ns mainGlobals mg) (c : tupI x ns K = true) : gTup K mg x ns := by
  unfold tupI at c
  cases e : PySem.W.nsIn K mainGlobals x with
  | none => rw [e] at c; cases c
  | some o =>
    cases o with
    | none => rw [e] at c; cases c
    | some v =>
      cases v with
      | ref a =>
        rw [e] at c
        refine ⟨a, PySem.W.mg_of X G e, fun H => ?_⟩
        cases q : K.lookup a with
        | none =>
          simp only [q] at c
          cases c
        | some ob =>
          simp only [q] at c
          obtain ⟨cls, dd, dt, sl⟩ := ob
          cases cls with
          | type T =>
            cases dt with
            | seq its n =>
              simp only [Bool.and_eq_true, decide_eq_true_eq] at c
              obtain ⟨⟨c1, c2⟩, c3⟩ := c
              subst c1
              exact .inr ⟨_, its, n, q, rfl, rfl, Nat.le_trans c3 (by decide), vals_intV c2⟩
            | _ => cases c
          | _ => cases c
      | _ => rw [e] at c; cases c
end HX
set_option maxHeartbeats 4000000
/-! A layer of my own over HandS: expressions that evaluate to plain data, statements over a state of data. -/
namespace HW
open PySem PySem.Spec PyProof.Rows L2
/-! ### heaps -/
/-- the heap without the addresses of L -/
def off (L : List Addr) (H : Hp) : Hp := fun a => if a ∈ L then none else H a
theorem off_in {L : List Addr} {H : Hp} {a : Addr} (h : a ∈ L) : off L H a = none := if_pos h
theorem off_out {L : List Addr} {H : Hp} {a : Addr} (h : a ∉ L) : off L H a = H a := if_neg h
theorem off_some {L : List Addr} {H : Hp} {a : Addr} {o : HO} (h : off L H a = some o) : a ∉ L ∧ H a = some o := by
  by_cases q : a ∈ L
  · rw [off_in q] at h; cases h
  · rw [off_out q] at h; exact ⟨q, h⟩
/-- H' keeps all that H has but at L -/
def XT (L : List Addr) (H H' : Hp) : Prop := ∀ a o, off L H a = some o → off L H' a = some o
theorem XT.refl {L : List Addr} {H : Hp} : XT L H H := fun _ _ h => h
theorem XT.trans {L : List Addr} {H H1 H2 : Hp} (a : XT L H H1) (b : XT L H1 H2) : XT L H H2 := fun x o h => b x o (a x o h)
theorem XT.same {L : List Addr} {H H' : Hp} (e : Same H H') : XT L H H' := fun a o h => by
  obtain ⟨h1, h2⟩ := off_some h
  rw [off_out h1]
  exact e a o h2
theorem same_off {L : List Addr} {H : Hp} : Same (off L H) H := fun _ _ h => (off_some h).2
theorem same_offs {L L' : List Addr} {H : Hp} (h : ∀ a ∈ L', a ∈ L) : Same (off L H) (off L' H) := fun a o e => by
  obtain ⟨h1, h2⟩ := off_some e
  rw [off_out (fun q => h1 (h a q))]
  exact h2

/-! ### data -/
mutual
/-- no dict within -/
def nod : PyData → Bool
  | .dict _ => false
  | .list xs => nodAll xs
  | .tuple xs => nodAll xs
  | _ => true
def nodAll : List PyData → Bool
  | [] => true
  | x :: xs => nod x && nodAll xs
end
mutual
theorem nod_of_lay : ∀ {d : PyData}, d.canLay0 = true → nod d = true
  | .none, _ => rfl
  | .bool _, _ => rfl
  | .int _, _ => rfl
  | .str _, _ => rfl
  | .list xs, h => nodAll_of_lay (xs := xs) h
  | .tuple xs, h => nodAll_of_lay (xs := xs) h
  | .dict _, h => nomatch h
theorem nodAll_of_lay : ∀ {xs : List PyData}, PyData.canLayAll0 xs = true → nodAll xs = true
  | [], _ => rfl
  | x :: xs, h => by
    have q : x.canLay0 = true ∧ PyData.canLayAll0 xs = true := by simpa [PyData.canLayAll0] using h
    show (nod x && nodAll xs) = true
    rw [nod_of_lay q.1, nodAll_of_lay q.2]
    rfl
end
/-- an object of which only the place is told -/
abbrev ptD (a : Addr) : PyData := .dict [(.int a, .none)]
/-- a key as data -/
def kD : L2.Key → PyData
  | .inl i => .int i
  | .inr x => .str x
/-- a locked dict as data: its keys are numbers and texts, or tuples of them -/
abbrev dkD (kvs : List (PyData × PyData)) : PyData := .dict ((.none, .none) :: kvs)
abbrev dtD (kvs : List (PyData × PyData)) : PyData := .dict ((.bool true, .none) :: kvs)
mutual
/-- the value v is the data d -/
inductive Va (K : PySem.W.Frag) (H : Hp) : V → PyData → Prop
  | non : Va K H .non .none
  | bl (b : Bool) : Va K H (.bl b) (.bool b)
  | int (i : Int) : Va K H (.int i) (.int i)
  | str (x : Str) : Va K H (.str x) (.str x)
  | lst {a : Addr} {xs : List V} {ds : List PyData} : H a = some (.lst xs) → VaAll K H xs ds → Va K H (.ref a) (.list ds)
  | tup {a : Addr} {xs : List V} {ds : List PyData} : SqT K H a xs → VaAll K H xs ds → Va K H (.ref a) (.tuple ds)
  | dct {a : Addr} : H a = some (.dK []) → Va K H (.ref a) (.dict [])
  | ptr (a : Addr) : Va K H (.ref a) (.dict [(.int a, .none)])
  | dcf {a : Addr} {o : Obj} {ks : List (Key × V)} {ds : List PyData} {kvs : List (PyData × PyData)} : H a = some (.frz o (.dK ks)) → VaAll K H (ks.map (·.2)) ds → kvs = (ks.map fun p => kD p.1).zip ds → Va K H (.ref a) (dkD kvs)
  | dtf {a : Addr} {o : Obj} {ks : List (List Key × V)} {ds : List PyData} {kvs : List (PyData × PyData)} : H a = some (.frz o (.dT ks)) → VaAll K H (ks.map (·.2)) ds → kvs = (ks.map fun p => PyData.tuple (p.1.map kD)).zip ds → Va K H (.ref a) (dtD kvs)
inductive VaAll (K : PySem.W.Frag) (H : Hp) : List V → List PyData → Prop
  | nil : VaAll K H [] []
  | cons {v : V} {vs : List V} {d : PyData} {ds : List PyData} : Va K H v d → VaAll K H vs ds → VaAll K H (v :: vs) (d :: ds)
end
section
variable {K : PySem.W.Frag} {H H' : Hp}
theorem SqT.up {a : Addr} {xs : List V} (e : Same H H') (h : SqT K H a xs) : SqT K H' a xs := by
  rcases h with (h | ⟨o, h⟩) | h
  · exact .inl (.inl (e _ _ h))
  · exact .inl (.inr ⟨o, e _ _ h⟩)
  · exact .inr h
mutual
theorem Va.up (e : Same H H') : ∀ {v : V} {d : PyData}, Va K H v d → Va K H' v d
  | _, _, .non => .non
  | _, _, .bl b => .bl b
  | _, _, .int i => .int i
  | _, _, .str x => .str x
  | _, _, .lst h hs => .lst (e _ _ h) (VaAll.up e hs)
  | _, _, .tup h hs => .tup (SqT.up e h) (VaAll.up e hs)
  | _, _, .dct h => .dct (e _ _ h)
  | _, _, .ptr a => .ptr a
  | _, _, .dcf h hs q => .dcf (e _ _ h) (VaAll.up e hs) q
  | _, _, .dtf h hs q => .dtf (e _ _ h) (VaAll.up e hs) q
theorem VaAll.up (e : Same H H') : ∀ {vs : List V} {ds : List PyData}, VaAll K H vs ds → VaAll K H' vs ds
  | _, _, .nil => .nil
  | _, _, .cons h hs => .cons (Va.up e h) (VaAll.up e hs)
end
mutual
theorem Va.dp : ∀ {v : V} {d : PyData}, Va K H v d → nod d = true → Dp K H v d
  | _, _, .non, _ => .non
  | _, _, .bl b, _ => .bl b
  | _, _, .int i, _ => .int i
  | _, _, .str x, _ => .str x
  | _, _, .lst h hs, n => .lst (SqL.of h) (VaAll.dp hs n)
  | _, _, .tup h hs, n => .tup h (VaAll.dp hs n)
  | _, _, .dct _, n => nomatch n
  | _, _, .ptr _, n => nomatch n
  | _, _, .dcf _ _ _, n => nomatch n
  | _, _, .dtf _ _ _, n => nomatch n
theorem VaAll.dp : ∀ {vs : List V} {ds : List PyData}, VaAll K H vs ds → nodAll ds = true → DpAll K H vs ds
  | _, _, .nil, _ => .nil
  | _, _, .cons h hs, n => by
    obtain ⟨n1, n2⟩ := Bool.and_eq_true_iff.mp n
    exact .cons (Va.dp h n1) (VaAll.dp hs n2)
end
theorem VaAll.length : ∀ {vs : List V} {ds : List PyData}, VaAll K H vs ds → vs.length = ds.length
  | _, _, .nil => rfl
  | _, _, .cons _ hs => by rw [List.length_cons, List.length_cons, VaAll.length hs]
theorem VaAll.get : ∀ {vs : List V} {ds : List PyData} {i : Nat} {v : V}, VaAll K H vs ds → vs[i]? = some v → ∃ d, ds[i]? = some d ∧ Va K H v d
  | _, _, i, _, .nil, e => by simp at e
  | _, _, 0, _, .cons h _, e => by
    have e : _ = _ := Option.some.inj e
    subst e
    exact ⟨_, rfl, h⟩
  | _, _, i + 1, v, .cons _ hs, e => by
    obtain ⟨d, h1, h2⟩ := VaAll.get (i := i) (v := v) hs (by simpa using e)
    exact ⟨d, by simpa using h1, h2⟩
theorem VaAll.at : ∀ {vs : List V} {ds : List PyData} {i : Nat} {d : PyData}, VaAll K H vs ds → ds[i]? = some d → ∃ v, vs[i]? = some v ∧ Va K H v d
  | _, _, i, _, .nil, e => by simp at e
  | _, _, 0, _, .cons h _, e => by
    have e : _ = _ := Option.some.inj e
    subst e
    exact ⟨_, rfl, h⟩
  | _, _, i + 1, d, .cons _ hs, e => by
    obtain ⟨v, h1, h2⟩ := VaAll.at (i := i) (d := d) hs (by simpa using e)
    exact ⟨v, by simpa using h1, h2⟩
theorem VaAll.app : ∀ {vs ws : List V} {ds es : List PyData}, VaAll K H vs ds → VaAll K H ws es → VaAll K H (vs ++ ws) (ds ++ es)
  | _, _, _, _, .nil, s => s
  | _, _, _, _, .cons h hs, s => .cons h (VaAll.app hs s)
theorem VaAll.take : ∀ {vs : List V} {ds : List PyData} (n : Nat), VaAll K H vs ds → VaAll K H (vs.take n) (ds.take n)
  | _, _, 0, _ => .nil
  | _, _, _ + 1, .nil => .nil
  | _, _, n + 1, .cons h hs => .cons h (VaAll.take n hs)
theorem VaAll.drop : ∀ {vs : List V} {ds : List PyData} (n : Nat), VaAll K H vs ds → VaAll K H (vs.drop n) (ds.drop n)
  | _, _, 0, r => r
  | _, _, _ + 1, .nil => .nil
  | _, _, n + 1, .cons _ hs => VaAll.drop n hs
theorem VaAll.ints : ∀ {vs : List V} {ns : List Int}, VaAll K H vs (ns.map PyData.int) → vs = ns.map V.int
  | _, [], h => by cases h; rfl
  | _, n :: ns, h => by
    cases h with
    | cons h hs => cases h; rw [VaAll.ints hs]; rfl
theorem VaAll.bls : ∀ {vs : List V} {bs : List Bool}, VaAll K H vs (bs.map PyData.bool) → vs = bs.map V.bl
  | _, [], h => by cases h; rfl
  | _, n :: ns, h => by
    cases h with
    | cons h hs => cases h; rw [VaAll.bls hs]; rfl
theorem VaAll.strs : ∀ {vs : List V} {xs : List Str}, VaAll K H vs (xs.map PyData.str) → vs = xs.map V.str
  | _, [], h => by cases h; rfl
  | _, n :: ns, h => by
    cases h with
    | cons h hs => cases h; rw [VaAll.strs hs]; rfl
end
/-! ### the state: slots of data, local mutable objects, the world around -/
inductive DV where
  | no | d (x : PyData) | r (a : Addr)
inductive MO where
  | lst (ds : List PyData) | dK (kvs : List (Key × PyData)) | dT (kvs : List (List Key × PyData)) | ins (C : Addr) (fs : List (Str × PyData))
abbrev Mu := List (Addr × MO)
/-- H0: all that must stay; M: hidden objects (the callers' mutable ones); row: the draws' row, its script -/
structure Wd where
  H0 : Hp
  M : List Addr
  row : Option (Addr × Addr × List Int)
def RowC (H : Hp) (r scr : Addr) : Prop := ∃ i s q : Int, H r = some (.lst [.ref scr, .int i, .int s, .int q]) ∧ 0 ≤ i
def Wd.isRow (W : Wd) (a : Addr) : Prop := ∃ scr ns, W.row = some (a, scr, ns)
structure Fr (W : Wd) (H : Hp) : Prop where
  keep : ∀ a o, ¬ W.isRow a → W.H0 a = some o → H a = some o
  row : ∀ r scr ns, W.row = some (r, scr, ns) → RowC H r scr
structure WdOk (K : PySem.W.Frag) (W : Wd) : Prop where
  hid : ∀ a ∈ W.M, W.H0 a ≠ none
  row : ∀ r scr ns, W.row = some (r, scr, ns) → r ∈ W.M ∧ SqL K W.H0 scr (ns.map V.int) ∧ scr ≠ r ∧ ns.length ≤ 63
def SltR (K : PySem.W.Frag) (H : Hp) : Option V → DV → Prop
  | _, .no => True
  | o, .d d => ∃ v, o = some v ∧ Va K H v d
  | o, .r a => o = some (.ref a)
structure Slots (K : PySem.W.Frag) (H : Hp) (σ : L2.St) (Γ : List DV) : Prop where
  len : σ.length = Γ.length
  at_ : ∀ (i : Nat) (dv : DV), Γ[i]? = some dv → ∃ o, σ[i]? = some o ∧ SltR K H o dv
def MOk (K : PySem.W.Frag) (Ho H : Hp) (a : Addr) : MO → Prop
  | .lst ds => ∃ xs, H a = some (.lst xs) ∧ VaAll K Ho xs ds
  | .dK kvs => ∃ ks : List (Key × V), H a = some (.dK ks) ∧ Paired (fun (p : Key × V) (q : Key × PyData) => p.1 = q.1 ∧ Va K Ho p.2 q.2) ks kvs
  | .dT kvs => ∃ ks : List (List Key × V), H a = some (.dT ks) ∧ Paired (fun (p : List Key × V) (q : List Key × PyData) => p.1 = q.1 ∧ Va K Ho p.2 q.2) ks kvs
  | .ins C fs => ∃ dx, ∃ gs : List (Str × V), H a = some (.ins C dx gs) ∧ Paired (fun (p : Str × V) (q : Str × PyData) => p.1 = q.1 ∧ Va K Ho p.2 q.2) gs fs
abbrev hd (W : Wd) (μ : Mu) : List Addr := W.M ++ μ.map (·.1)
structure Rep (K : PySem.W.Frag) (W : Wd) (Γ : List DV) (μ : Mu) (σ : L2.St) (H : Hp) : Prop where
  wd : WdOk K W
  fr : Fr W H
  sl : Slots K (off (hd W μ) H) σ Γ
  mu : ∀ p ∈ μ, W.H0 p.1 = none ∧ MOk K (off (hd W μ) H) H p.1 p.2
  nd : (μ.map (·.1)).Nodup
section
variable {K : PySem.W.Frag} {H H' Ho Ho' : Hp} {W : Wd} {Γ : List DV} {μ : Mu} {σ : L2.St}
theorem SltR.up (e : Same H H') {o : Option V} {dv : DV} (h : SltR K H o dv) : SltR K H' o dv := by
  cases dv with
  | no => trivial
  | d x => obtain ⟨v, e1, e2⟩ := h; exact ⟨v, e1, e2.up e⟩
  | r a => exact h
theorem Slots.up (e : Same H H') (h : Slots K H σ Γ) : Slots K H' σ Γ := ⟨h.len, fun i dv q => by
  obtain ⟨o, h1, h2⟩ := h.at_ i dv q
  exact ⟨o, h1, h2.up e⟩⟩
theorem Slots.set (h : Slots K H σ Γ) (i : Nat) {v : V} {d : PyData} (r : Va K H v d) : Slots K H (σ.set i (some v)) (Γ.set i (.d d)) := ⟨by rw [List.length_set, List.length_set, h.len], fun j dv q => by
  by_cases hj : j = i
  · subst hj
    have hl : j < Γ.length := by
      have := (List.getElem?_eq_some_iff.mp q).1
      simpa using this
    rw [List.getElem?_set_self hl] at q
    cases q
    exact ⟨_, List.getElem?_set_self (by rw [h.len]; exact hl), v, rfl, r⟩
  · rw [List.getElem?_set_ne (Ne.symm hj)] at q ⊢
    exact h.at_ j dv q⟩
theorem Slots.setr (h : Slots K H σ Γ) (i : Nat) {a : Addr} : Slots K H (σ.set i (some (.ref a))) (Γ.set i (.r a)) := ⟨by rw [List.length_set, List.length_set, h.len], fun j dv q => by
  by_cases hj : j = i
  · subst hj
    have hl : j < Γ.length := by
      have := (List.getElem?_eq_some_iff.mp q).1
      simpa using this
    rw [List.getElem?_set_self hl] at q
    cases q
    exact ⟨_, List.getElem?_set_self (by rw [h.len]; exact hl), rfl⟩
  · rw [List.getElem?_set_ne (Ne.symm hj)] at q ⊢
    exact h.at_ j dv q⟩
theorem Slots.no (h : Slots K H σ Γ) (i : Nat) {x : Option V} : Slots K H (σ.set i x) (Γ.set i .no) := ⟨by rw [List.length_set, List.length_set, h.len], fun j dv q => by
  by_cases hj : j = i
  · subst hj
    have hl : j < Γ.length := by
      have := (List.getElem?_eq_some_iff.mp q).1
      simpa using this
    rw [List.getElem?_set_self hl] at q
    cases q
    exact ⟨_, List.getElem?_set_self (by rw [h.len]; exact hl), trivial⟩
  · rw [List.getElem?_set_ne (Ne.symm hj)] at q ⊢
    exact h.at_ j dv q⟩
theorem pmp {α β : Type} {F G : α → β → Prop} : ∀ {l₁ : List α} {l₂ : List β}, Paired F l₁ l₂ → (∀ a b, F a b → G a b) → Paired G l₁ l₂
  | _, _, .nil, _ => .nil
  | _, _, .cons r t, f => .cons (f _ _ r) (pmp t f)
theorem MOk.up (e : Same Ho Ho') {a : Addr} (e2 : ∀ o, H a = some o → H' a = some o) {m : MO} (h : MOk K Ho H a m) : MOk K Ho' H' a m := by
  cases m with
  | lst ds => obtain ⟨xs, h1, h2⟩ := h; exact ⟨xs, e2 _ h1, h2.up e⟩
  | dK kvs => obtain ⟨xs, h1, h2⟩ := h; exact ⟨xs, e2 _ h1, pmp h2 fun _ _ z => ⟨z.1, z.2.up e⟩⟩
  | dT kvs => obtain ⟨xs, h1, h2⟩ := h; exact ⟨xs, e2 _ h1, pmp h2 fun _ _ z => ⟨z.1, z.2.up e⟩⟩
  | ins C fs => obtain ⟨dx, gs, h1, h2⟩ := h; exact ⟨dx, gs, e2 _ h1, pmp h2 fun _ _ z => ⟨z.1, z.2.up e⟩⟩
theorem MOk.ne {a : Addr} {m : MO} (h : MOk K Ho H a m) : H a ≠ none := by
  cases m with
  | lst ds => obtain ⟨xs, h1, h2⟩ := h; rw [h1]; simp
  | dK kvs => obtain ⟨xs, h1, h2⟩ := h; rw [h1]; simp
  | dT kvs => obtain ⟨xs, h1, h2⟩ := h; rw [h1]; simp
  | ins C fs => obtain ⟨dx, gs, h1, h2⟩ := h; rw [h1]; simp
theorem Fr.dom (h : Fr W H) {a : Addr} (q : W.H0 a ≠ none) : H a ≠ none := by
  by_cases hr : W.isRow a
  · obtain ⟨scr, ns, e⟩ := hr
    obtain ⟨i, s, q, e1, _⟩ := h.row _ _ _ e
    rw [e1]; simp
  · cases e : W.H0 a with
    | none => exact absurd e q
    | some o => rw [h.keep a o hr e]; simp
theorem Fr.same (h : Fr W H) (e : Same H H') : Fr W H' := ⟨fun a o n q => e a o (h.keep a o n q), fun r scr ns q => by
  obtain ⟨i, s, z, e1, e2⟩ := h.row r scr ns q
  exact ⟨i, s, z, e _ _ e1, e2⟩⟩
theorem Rep.ne (R : Rep K W Γ μ σ H) : ∀ a ∈ hd W μ, H a ≠ none := fun a ha => by
  rcases List.mem_append.mp ha with h | h
  · exact R.fr.dom (R.wd.hid a h)
  · obtain ⟨p, hp, rfl⟩ := List.mem_map.mp h
    exact (R.mu p hp).2.ne
/-- all is kept -/
theorem Rep.same (R : Rep K W Γ μ σ H) (e : Same H H') : Rep K W Γ μ σ H' :=
  ⟨R.wd, R.fr.same e, R.sl.up (XT.same e), fun p hp => ⟨(R.mu p hp).1, (R.mu p hp).2.up (XT.same e) (e _)⟩, R.nd⟩
/-- a new object is no hidden one -/
theorem new_out {L : List Addr} (hL : ∀ a ∈ L, H a ≠ none) {p : Addr} (hp : H p = none) : p ∉ L := fun q => hL p q hp
theorem same_new {p : Addr} {o : HO} (hp : H p = none) : Same H (upd H p o) := fun b u e => by
  rw [upd_ne (ne_of_none e hp)]
  exact e
theorem off_upd {L : List Addr} {p : Addr} {o : HO} (h : p ∉ L) : off L (upd H p o) p = some o := by rw [off_out h, upd_same]

/-- the world grows: what stands now must stay -/
structure Wle (W W' : Wd) : Prop where
  m : ∀ a ∈ W.M, a ∈ W'.M
  row : W'.row = W.row
  keep : ∀ a o, ¬ W.isRow a → W.H0 a = some o → W'.H0 a = some o
theorem Wle.refl {W : Wd} : Wle W W := ⟨fun _ h => h, rfl, fun _ _ _ h => h⟩
theorem Wle.isRow {W W' : Wd} (l : Wle W W') (a : Addr) : W'.isRow a ↔ W.isRow a := by
  unfold Wd.isRow
  rw [l.row]
theorem Wle.trans {W W1 W2 : Wd} (a : Wle W W1) (b : Wle W1 W2) : Wle W W2 :=
  ⟨fun x h => b.m x (a.m x h), b.row.trans a.row, fun x o n h => b.keep x o (fun q => n ((a.isRow x).mp q)) (a.keep x o n h)⟩
theorem Fr.down {W W' : Wd} (l : Wle W W') (h : Fr W' H) : Fr W H :=
  ⟨fun a o n q => h.keep a o (fun z => n ((l.isRow a).mp z)) (l.keep a o n q), fun r scr ns q => h.row r scr ns (l.row.trans q)⟩
/-- from the grown world back, where the local objects are new to the smaller one -/
theorem Rep.down {W W' : Wd} (l : Wle W W') (ok : WdOk K W) (hm : ∀ p ∈ μ, W.H0 p.1 = none) (R : Rep K W' Γ μ σ H) : Rep K W Γ μ σ H := by
  have e : Same (off (hd W' μ) H) (off (hd W μ) H) := same_offs fun a ha => by
    rcases List.mem_append.mp ha with h | h
    · exact List.mem_append_left _ (l.m a h)
    · exact List.mem_append_right _ h
  exact ⟨ok, R.fr.down l, R.sl.up e, fun p hp => ⟨hm p hp, (R.mu p hp).2.up e fun _ z => z⟩, R.nd⟩
/-- the world as it stands: everything but the local objects and the row must stay -/
def Wd.now (W : Wd) (μ : Mu) (H : Hp) : Wd := { W with H0 := off (μ.map (·.1)) H }
theorem Rep.mu_new (R : Rep K W Γ μ σ H) {a : Addr} (h : W.H0 a ≠ none) : a ∉ μ.map (·.1) := fun q => by
  obtain ⟨p, hp, rfl⟩ := List.mem_map.mp q
  exact h (R.mu p hp).1
theorem Rep.now_le (R : Rep K W Γ μ σ H) : Wle W (W.now μ H) := ⟨fun _ h => h, rfl, fun a o n h => by
  have q : a ∉ μ.map (·.1) := R.mu_new (by rw [h]; simp)
  show off (μ.map (·.1)) H a = some o
  rw [off_out q]
  exact R.fr.keep a o n h⟩
theorem SqL.up {a : Addr} {xs : List V} (e : ∀ o, H a = some o → H' a = some o) (h : SqL K H a xs) : SqL K H' a xs := by
  rcases h with (h | ⟨o, h⟩) | h
  · exact .inl (.inl (e _ h))
  · exact .inl (.inr ⟨o, e _ h⟩)
  · exact .inr h
theorem Rep.now_ok (R : Rep K W Γ μ σ H) : WdOk K (W.now μ H) := ⟨fun a ha => by
  show off (μ.map (·.1)) H a ≠ none
  rw [off_out (R.mu_new (R.wd.hid a ha))]
  exact R.fr.dom (R.wd.hid a ha), fun r scr ns q => by
  obtain ⟨h1, h2, h3, h4⟩ := R.wd.row r scr ns q
  refine ⟨h1, SqL.up (fun o e => ?_) h2, h3, h4⟩
  show off (μ.map (·.1)) H scr = some o
  rw [off_out (R.mu_new (by rw [e]; simp))]
  refine R.fr.keep scr o (fun ⟨s2, n2, z⟩ => ?_) e
  have q' : W.row = some (r, scr, ns) := q
  rw [q'] at z
  cases z
  exact h3 rfl⟩
theorem Rep.now (R : Rep K W Γ μ σ H) : Rep K (W.now μ H) Γ μ σ H :=
  ⟨R.now_ok, ⟨fun a o n q => (off_some q).2, R.fr.row⟩, R.sl, fun p hp => ⟨off_in (List.mem_map.mpr ⟨p, hp, rfl⟩), (R.mu p hp).2⟩, R.nd⟩
end
end HW
set_option maxHeartbeats 4000000
namespace HW
open PySem PySem.Spec PyProof.Rows L2
/-! ### judgements -/
/-- what e wants -/
def wE (X : Cx) (e : Expr) : TE := fun σ H Q => ∀ (pins : List (Addr × Obj)) (s : Shared), Inv X pins σ H s → wpAny (model X.prog X.w) X.A (eval e X.env) (EP X pins σ Q) X.xe s
theorem wE.pe {X : Cx} {e : Expr} : PE X e (wE X e) := ⟨fun pins s _ _ _ I h => h pins s I⟩
theorem _root_.L2.PE.w {X : Cx} {e : Expr} {t : TE} (h : PE X e t) {σ : L2.St} {H : Hp} {Q : VK} (q : t σ H Q) : wE X e σ H Q := fun pins s I => h.run pins s σ H Q I q
def wA (X : Cx) (es : List Expr) : TA := fun σ H Q => ∀ (pos : Pos) (pins : List (Addr × Obj)) (s : Shared), Inv X pins σ H s → wpAny (model X.prog X.w) X.A (spliced (backTo pos (starEach es X.env))) (AP X pins σ Q) X.xe s
theorem wA.pa {X : Cx} {es : List Expr} : PA X es (wA X es) := ⟨fun pos pins s _ _ _ I h => h pos pins s I⟩
theorem _root_.L2.PA.w {X : Cx} {es : List Expr} {t : TA} (h : PA X es t) {σ : L2.St} {H : Hp} {Q : List V → Hp → Prop} (q : t σ H Q) : wA X es σ H Q := fun pos pins s I => h.run pos pins s σ H Q I q
def wT (X : Cx) (e : Expr) : TT := fun σ H Q => ∀ (pins : List (Addr × Obj)) (s : Shared), Inv X pins σ H s → wpAny (model X.prog X.w) X.A (isTrue e X.env (eval e X.env)) (TP X pins σ Q) X.xe s
theorem wT.pt {X : Cx} {e : Expr} : PT X e (wT X e) := ⟨fun pins s _ _ _ I h => h pins s I⟩
theorem _root_.L2.PT.w {X : Cx} {e : Expr} {t : TT} (h : PT X e t) {σ : L2.St} {H : Hp} {Q : Bool → Hp → Prop} (q : t σ H Q) : wT X e σ H Q := fun pins s I => h.run pins s σ H Q I q
def wS (X : Cx) (st : Stmt) : TS := fun D σ H => ∀ (pins : List (Addr × Obj)) (s : Shared), Inv X pins σ H s → wpAny (model X.prog X.w) X.A (exec st X.env) (SP X pins D) X.xe s
theorem wS.ps {X : Cx} {st : Stmt} : PS X st (wS X st) := ⟨fun pins s _ _ _ I h => h pins s I⟩
theorem _root_.L2.PS.w {X : Cx} {st : Stmt} {t : TS} (h : PS X st t) {σ : L2.St} {H : Hp} {D : Ends} (q : t D σ H) : wS X st D σ H := fun pins s I => h.run pins s σ H D I q
def wSs (X : Cx) (sts : List Stmt) : TS := fun D σ H => ∀ (pins : List (Addr × Obj)) (s : Shared), Inv X pins σ H s → wpAny (model X.prog X.w) X.A (execs sts X.env) (SP X pins D) X.xe s
theorem wSs.ps {X : Cx} {sts : List Stmt} : PSs X sts (wSs X sts) := ⟨fun pins s _ _ _ I h => h pins s I⟩
theorem _root_.L2.PSs.w {X : Cx} {sts : List Stmt} {t : TS} (h : PSs X sts t) {σ : L2.St} {H : Hp} {D : Ends} (q : t D σ H) : wSs X sts D σ H := fun pins s I => h.run pins s σ H D I q
/-- one statement, then the rest -/
theorem wSs_cons {X : Cx} {st : Stmt} {rest : List Stmt} {σ : L2.St} {H : Hp} {D : Ends} (h : wS X st { D with nx := wSs X rest D } σ H) : wSs X (st :: rest) D σ H := (pss_cons wS.ps wSs.ps).w h

/-- e gives data with P -/
def Ev (X : Cx) (W : Wd) (Γ : List DV) (μ : Mu) (e : Expr) (P : PyData → Prop) : Prop :=
  ∀ σ H, Rep X.K W Γ μ σ H → ∀ Q : VK, (∀ v d H2, Rep X.K W Γ μ σ H2 → XT (hd W μ) H H2 → Va X.K (off (hd W μ) H2) v d → P d → Q v H2) → wE X e σ H Q
def Ed (X : Cx) (W : Wd) (Γ : List DV) (μ : Mu) (e : Expr) (d : PyData) : Prop :=
  ∀ σ H, Rep X.K W Γ μ σ H → ∀ Q : VK, (∀ v H2, Rep X.K W Γ μ σ H2 → XT (hd W μ) H H2 → Va X.K (off (hd W μ) H2) v d → Q v H2) → wE X e σ H Q
def EvA (X : Cx) (W : Wd) (Γ : List DV) (μ : Mu) (es : List Expr) (P : List PyData → Prop) : Prop :=
  ∀ σ H, Rep X.K W Γ μ σ H → ∀ Q : List V → Hp → Prop, (∀ vs ds H2, Rep X.K W Γ μ σ H2 → XT (hd W μ) H H2 → VaAll X.K (off (hd W μ) H2) vs ds → P ds → Q vs H2) → wA X es σ H Q
def EdA (X : Cx) (W : Wd) (Γ : List DV) (μ : Mu) (es : List Expr) (ds : List PyData) : Prop :=
  ∀ σ H, Rep X.K W Γ μ σ H → ∀ Q : List V → Hp → Prop, (∀ vs H2, Rep X.K W Γ μ σ H2 → XT (hd W μ) H H2 → VaAll X.K (off (hd W μ) H2) vs ds → Q vs H2) → wA X es σ H Q
/-- e as a test gives b; gives a b with P -/
def EdT (X : Cx) (W : Wd) (Γ : List DV) (μ : Mu) (e : Expr) (b : Bool) : Prop :=
  ∀ σ H, Rep X.K W Γ μ σ H → ∀ Q : Bool → Hp → Prop, (∀ H2, Rep X.K W Γ μ σ H2 → XT (hd W μ) H H2 → Q b H2) → wT X e σ H Q
def EvT (X : Cx) (W : Wd) (Γ : List DV) (μ : Mu) (e : Expr) (P : Bool → Prop) : Prop :=
  ∀ σ H, Rep X.K W Γ μ σ H → ∀ Q : Bool → Hp → Prop, (∀ b H2, Rep X.K W Γ μ σ H2 → XT (hd W μ) H H2 → P b → Q b H2) → wT X e σ H Q
/-- and, or: whatever the 'whole' is -/
def wW (X : Cx) (e : Expr) : TT := fun σ H Q => ∀ (whole : Sem Value) (pins : List (Addr × Obj)) (s : Shared), Inv X pins σ H s → wpAny (model X.prog X.w) X.A (isTrue e X.env whole) (TP X pins σ Q) X.xe s
theorem wW.pw {X : Cx} {e : Expr} : PW X e (wW X e) := ⟨fun whole pins s _ _ _ I h => h whole pins s I⟩
theorem _root_.L2.PW.w {X : Cx} {e : Expr} {t : TT} (h : PW X e t) {σ : L2.St} {H : Hp} {Q : Bool → Hp → Prop} (q : t σ H Q) : wW X e σ H Q := fun whole pins s I => h.run whole pins s σ H Q I q
def EdW (X : Cx) (W : Wd) (Γ : List DV) (μ : Mu) (e : Expr) (b : Bool) : Prop :=
  ∀ σ H, Rep X.K W Γ μ σ H → ∀ Q : Bool → Hp → Prop, (∀ H2, Rep X.K W Γ μ σ H2 → XT (hd W μ) H H2 → Q b H2) → wW X e σ H Q
def EvW (X : Cx) (W : Wd) (Γ : List DV) (μ : Mu) (e : Expr) (P : Bool → Prop) : Prop :=
  ∀ σ H, Rep X.K W Γ μ σ H → ∀ Q : Bool → Hp → Prop, (∀ b H2, Rep X.K W Γ μ σ H2 → XT (hd W μ) H H2 → P b → Q b H2) → wW X e σ H Q

section
variable {X : Cx} {W : Wd} {Γ : List DV} {μ : Mu} {e a b : Expr} {es : List Expr} {d x y z : PyData} {ds : List PyData} {P A B C : PyData → Prop} {pos : Pos}
theorem Ed.ev (h : Ed X W Γ μ e d) : Ev X W Γ μ e (fun z => z = d) := fun σ H R Q k => h σ H R Q fun v H2 R2 x2 r => k v d H2 R2 x2 r rfl
theorem Ed.evP (h : Ed X W Γ μ e d) (p : P d) : Ev X W Γ μ e P := fun σ H R Q k => h σ H R Q fun v H2 R2 x2 r => k v d H2 R2 x2 r p
theorem Ev.ed (h : Ev X W Γ μ e (fun z => z = d)) : Ed X W Γ μ e d := fun σ H R Q k => h σ H R Q fun v d' H2 R2 x2 r e => k v H2 R2 x2 (e ▸ r)
theorem Ev.imp (h : Ev X W Γ μ e A) (i : ∀ d, A d → B d) : Ev X W Γ μ e B := fun σ H R Q k => h σ H R Q fun v d H2 R2 x2 r p => k v d H2 R2 x2 r (i d p)
theorem Ed.to (h : Ed X W Γ μ e x) (q : x = y) : Ed X W Γ μ e y := q ▸ h
theorem EdA.ev {ds : List PyData} {P : List PyData → Prop} (h : EdA X W Γ μ es ds) (p : P ds) : EvA X W Γ μ es P := fun σ H R Q k => h σ H R Q fun v H2 R2 x2 r => k v ds H2 R2 x2 r p
theorem EdT.ev {b : Bool} {P : Bool → Prop} (h : EdT X W Γ μ e b) (p : P b) : EvT X W Γ μ e P := fun σ H R Q k => h σ H R Q fun H2 R2 x2 => k b H2 R2 x2 p
theorem EdT.to {b b' : Bool} (h : EdT X W Γ μ e b) (q : b = b') : EdT X W Γ μ e b' := q ▸ h
theorem EvT.imp {A B : Bool → Prop} (h : EvT X W Γ μ e A) (i : ∀ b, A b → B b) : EvT X W Γ μ e B := fun σ H R Q k => h σ H R Q fun b H2 R2 x2 p => k b H2 R2 x2 (i b p)

/-! ### names, constants -/
/-- a local name -/
theorem vr (i : Nat) {n : Str} (hd_ : Γ[i]? = some (.d d) := by rfl) (hN : X.N[i]? = some n := by rfl) (hv : Vis X.env.scope n := by first | exact Or.inl rfl | exact Or.inr (Or.inl rfl) | exact Or.inr (Or.inr rfl))
    (h1 : (n == ("__debug__" : Str)) = false := by decide) (h2 : (n == ("__classdict__" : Str)) = false := by decide) : Ed X W Γ μ (.Name n pos) d := fun σ H R Q k => by
  obtain ⟨o, e1, v, e2, r⟩ := R.sl.at_ i _ hd_
  subst e2
  exact (pe_var hN hv h1 h2).w ⟨v, e1, k v H R XT.refl r⟩
theorem ed_c {v : V} (h : PE X e (tC v)) (r : ∀ H, Va X.K H v d) : Ed X W Γ μ e d := fun σ H R Q k => h.w (k v H R XT.refl (r _))
theorem ed_int {i : Int} {j p} : Ed X W Γ μ (.Constant (.int i) j p) (.int i) := ed_c pe_int fun _ => .int i
theorem ed_bl {i : Bool} {j p} : Ed X W Γ μ (.Constant (.bool i) j p) (.bool i) := ed_c pe_bl fun _ => .bl i
theorem ed_non {j p} : Ed X W Γ μ (.Constant .none j p) .none := ed_c pe_non fun _ => .non
theorem ed_str {i : Str} {j p} : Ed X W Γ μ (.Constant (.str i) j p) (.str i) := ed_c pe_str fun _ => .str i
/-- a constant of the module -/
theorem ed_gstr {n z : Str} (hm : ∃ t, X.mg n = some (.str z t)) (hg : Gl X n := by rfl) (h1 : (n == ("__debug__" : Str)) = false := by decide) : Ed X W Γ μ (.Name n pos) (.str z) := by
  obtain ⟨t, hm⟩ := hm
  exact ed_c (pe_glob hg hm (v := .str z) ⟨t, rfl⟩ h1) fun _ => .str z
theorem ed_gint {n : Str} {z : Int} (hm : ∃ t, X.mg n = some (.int z t)) (hg : Gl X n := by rfl) (h1 : (n == ("__debug__" : Str)) = false := by decide) : Ed X W Γ μ (.Name n pos) (.int z) := by
  obtain ⟨t, hm⟩ := hm
  exact ed_c (pe_glob hg hm (v := .int z) ⟨t, rfl⟩ h1) fun _ => .int z

/-! ### two values -/
/-- on the data x and y, z comes -/
def rD (K : PySem.W.Frag) (x y z : PyData) : R2 := fun a b H Q => ∃ L : List Addr, (∀ l ∈ L, H l ≠ none) ∧ Va K (off L H) a x ∧ Va K (off L H) b y ∧ ∀ v H2, Same H H2 → Va K (off L H2) v z → Q v H2
def OpD (X : Cx) (f : Value → Value → Sem Value) (x y z : PyData) : Prop := OpR X f (rD X.K x y z)
theorem OpR.to {f : Value → Value → Sem Value} {r r' : R2} (h : OpR X f r) (i : ∀ a b H Q, r' a b H Q → r a b H Q) : OpR X f r' := fun pins s σ H x y v u Q I rx ry q => h pins s σ H x y v u Q I rx ry (i _ _ _ _ q)
theorem bin_ev {r : V → V → Hp → VK → Prop} (ha : Ev X W Γ μ a A) (hb : Ev X W Γ μ b B) (hz : ∀ x y, A x → B y → ∃ z, C z ∧ ∀ va vb H Q, rD X.K x y z va vb H Q → r va vb H Q) {σ : L2.St} {H : Hp} (R : Rep X.K W Γ μ σ H) {Q : VK}
    (k : ∀ v d H2, Rep X.K W Γ μ σ H2 → XT (hd W μ) H H2 → Va X.K (off (hd W μ) H2) v d → C d → Q v H2) :
    wE X a σ H fun va H1 => wE X b σ H1 fun vb H2 => r va vb H2 Q := by
  refine ha σ H R _ fun va x H1 R1 e1 r1 p1 => hb σ H1 R1 _ fun vb y H2 R2 e2 r2 p2 => ?_
  obtain ⟨z, pz, hr⟩ := hz x y p1 p2
  exact hr _ _ _ _ ⟨hd W μ, R2.ne, r1.up e2, r2, fun v H3 e3 r3 => k v z H3 (R2.same e3) ((e1.trans e2).trans (XT.same e3)) r3 pz⟩
def rAny (X : Cx) (f : Value → Value → Sem Value) : R2 := fun va vb H Q => ∃ x y z, OpD X f x y z ∧ rD X.K x y z va vb H Q
theorem rAny.ok {f : Value → Value → Sem Value} : OpR X f (rAny X f) := fun pins s σ H x y v u Q I rx ry ⟨_, _, _, o, q⟩ => o pins s σ H x y v u Q I rx ry q
def IxD (X : Cx) (x y z : PyData) : Prop := IxR X (rD X.K x y z)
def rAnyI (X : Cx) : R2 := fun va vb H Q => ∃ x y z, IxD X x y z ∧ rD X.K x y z va vb H Q
theorem rAnyI.ok : IxR X (rAnyI X) := fun e1 e2 pins s σ H x y v u Q I rx ry ⟨_, _, _, o, q⟩ hs => o e1 e2 pins s σ H x y v u Q I rx ry q hs
theorem ev_op {op : Operator} (ha : Ev X W Γ μ a A) (hb : Ev X W Γ μ b B) (hz : ∀ x y, A x → B y → ∃ z, C z ∧ OpD X (binaryOp op) x y z) : Ev X W Γ μ (.BinOp a op b pos) C := fun σ H R Q k => by
  refine (pe_op (rAny.ok (X := X)) wE.pe wE.pe).w ?_
  exact bin_ev (r := rAny X (binaryOp op)) ha hb (fun x y px py => (hz x y px py).imp fun z h => ⟨h.1, fun va vb H Q q => ⟨x, y, z, h.2, q⟩⟩) R k
theorem ed_op {op : Operator} (ha : Ed X W Γ μ a x) (hb : Ed X W Γ μ b y) (hz : OpD X (binaryOp op) x y z) : Ed X W Γ μ (.BinOp a op b pos) z :=
  (ev_op (C := fun w => w = z) ha.ev hb.ev fun _ _ e1 e2 => ⟨z, rfl, by rw [e1, e2]; exact hz⟩).ed
theorem ev_cmp {op : CmpOp} (ha : Ev X W Γ μ a A) (hb : Ev X W Γ μ b B) (hz : ∀ x y, A x → B y → ∃ z, C z ∧ OpD X (compareOp op) x y z) (hm : behindInMarks op b = false := by first | exact nomark _ | rfl) : Ev X W Γ μ (.Compare a [op] [b] pos) C := fun σ H R Q k => by
  refine (pe_cmpR (rAny.ok (X := X)) wE.pe wE.pe hm).w ?_
  exact bin_ev (r := rAny X (compareOp op)) ha hb (fun x y px py => (hz x y px py).imp fun z h => ⟨h.1, fun va vb H Q q => ⟨x, y, z, h.2, q⟩⟩) R k
theorem ed_cmp {op : CmpOp} (ha : Ed X W Γ μ a x) (hb : Ed X W Γ μ b y) (hz : OpD X (compareOp op) x y z) (hm : behindInMarks op b = false := by first | exact nomark _ | rfl) : Ed X W Γ μ (.Compare a [op] [b] pos) z :=
  (ev_cmp (C := fun w => w = z) ha.ev hb.ev (fun _ _ e1 e2 => ⟨z, rfl, by rw [e1, e2]; exact hz⟩) hm).ed
/-- a subscript -/
theorem ev_ix (ha : Ev X W Γ μ a A) (hb : Ev X W Γ μ b B) (hz : ∀ x y, A x → B y → ∃ z, C z ∧ IxD X x y z) (hs : PlainIx b := by exact fun _ _ => rfl) : Ev X W Γ μ (.Subscript a b pos) C := fun σ H R Q k => by
  refine (pe_ix (rAnyI.ok (X := X)) wE.pe wE.pe hs).w ?_
  exact bin_ev (r := rAnyI X) ha hb (fun x y px py => (hz x y px py).imp fun z h => ⟨h.1, fun va vb H Q q => ⟨x, y, z, h.2, q⟩⟩) R k
theorem ed_ix (ha : Ed X W Γ μ a x) (hb : Ed X W Γ μ b y) (hz : IxD X x y z) (hs : PlainIx b := by exact fun _ _ => rfl) : Ed X W Γ μ (.Subscript a b pos) z :=
  (ev_ix (C := fun w => w = z) ha.ev hb.ev (fun _ _ e1 e2 => ⟨z, rfl, by rw [e1, e2]; exact hz⟩) hs).ed

/-! ### tests -/
theorem et_val {k : Bool} (h : Ed X W Γ μ e (.bool k)) (he : ∀ whole, isTrue e X.env whole = (do let v ← whole; standAt e.pos; holding [v] (truthy v)) := by intro _; rfl) : EdT X W Γ μ e k := fun σ H R Q q => by
  refine (pt_val wE.pe he).w ?_
  refine h σ H R _ fun v H2 R2 e2 r => ?_
  cases r
  exact ⟨k, rfl, q H2 R2 e2⟩
end
section
variable {X : Cx} {W : Wd} {Γ : List DV} {μ : Mu} {e a b : Expr} {rest : List Expr} {pos : Pos} {x y z : PyData} {k l : Bool}
theorem tc_ev {e : Expr} {P : Bool → Prop} {A B : PyData → Prop} {op : CmpOp} (ha : Ev X W Γ μ a A) (hb : Ev X W Γ μ b B) (hz : ∀ x y, A x → B y → ∃ k, P k ∧ OpD X (compareOp op) x y (.bool k)) (hm : behindInMarks op b = false := by first | exact nomark _ | rfl) : EvT X W Γ μ (.Compare a [op] [b] pos) P := fun σ H R Q q => by
  refine (pt_cmpR (rAny.ok (X := X)) wE.pe wE.pe hm).w ?_
  refine bin_ev (r := rAny X (compareOp op)) (C := fun z => ∃ k, z = .bool k ∧ P k) ha hb (fun x y px py => ?_) R fun v d H2 R2 e2 r p => ?_
  · obtain ⟨k, pk, o⟩ := hz x y px py
    exact ⟨.bool k, ⟨k, rfl, pk⟩, fun va vb H Q q => ⟨x, y, _, o, q⟩⟩
  · obtain ⟨k, rfl, pk⟩ := p
    cases r
    exact ⟨k, rfl, q k H2 R2 e2 pk⟩
/-- a comparison as a test -/
theorem tc {op : CmpOp} (ha : Ed X W Γ μ a x) (hb : Ed X W Γ μ b y) (hz : OpD X (compareOp op) x y (.bool k)) (hm : behindInMarks op b = false := by first | exact nomark _ | rfl) : EdT X W Γ μ (.Compare a [op] [b] pos) k := fun σ H R Q q =>
  tc_ev (e := a) (P := fun z => z = k) ha.ev hb.ev (fun _ _ e1 e2 => ⟨k, rfl, by rw [e1, e2]; exact hz⟩) hm σ H R Q fun b' H2 R2 e2 p => p ▸ q H2 R2 e2
theorem t_not (h : EdT X W Γ μ a k) : EdT X W Γ μ (.UnaryOp .Not a pos) (!k) := fun σ H R Q q => (pt_not wT.pt).w (h σ H R _ fun H2 R2 e2 => q H2 R2 e2)
theorem tw_or1 (h : EdT X W Γ μ a k) : EdW X W Γ μ (.BoolOp .Or [a] pos) k := fun σ H R Q q => (pw_or1 wT.pt).w (h σ H R Q q)
theorem tw_or (h : EdT X W Γ μ a k) (h2 : k = false → EdW X W Γ μ (.BoolOp .Or (b :: rest) pos) l) : EdW X W Γ μ (.BoolOp .Or (a :: b :: rest) pos) (k || l) := fun σ H R Q q => (pw_or wT.pt wW.pw).w (h σ H R _ fun H2 R2 e2 => by
  cases k with
  | true => exact iteT (q H2 R2 e2)
  | false => exact iteF (h2 rfl σ H2 R2 Q fun H3 R3 e3 => q H3 R3 (e2.trans e3)))
theorem EdW.t (h : EdW X W Γ μ e k) : EdT X W Γ μ e k := fun σ H R Q q => wW.pw.pt.w (h σ H R Q q)
theorem t_or (h : EdT X W Γ μ a k) (h2 : k = false → EdT X W Γ μ b l) : EdT X W Γ μ (.BoolOp .Or [a, b] pos) (k || l) := (tw_or h fun e => tw_or1 (h2 e)).t
theorem EvW.t {P : Bool → Prop} (h : EvW X W Γ μ e P) : EvT X W Γ μ e P := fun σ H R Q q => wW.pw.pt.w (h σ H R Q q)
/-- .. as values -/
theorem ed_one {op} (h : Ed X W Γ μ a x) : Ed X W Γ μ (.BoolOp op [a] pos) x := fun σ H R Q q => (pe_one wE.pe).w (h σ H R Q q)
theorem ed_and (h : Ed X W Γ μ a (.bool k)) (h2 : k = true → Ed X W Γ μ (.BoolOp .And (b :: rest) pos) (.bool l)) : Ed X W Γ μ (.BoolOp .And (a :: b :: rest) pos) (.bool (k && l)) := fun σ H R Q q => (pe_and wE.pe wE.pe).w (h σ H R _ fun v H2 R2 e2 r => by
  cases r
  refine ⟨k, rfl, ?_⟩
  cases k with
  | true => exact iteT (h2 rfl σ H2 R2 Q fun v H3 R3 e3 r3 => q v H3 R3 (e2.trans e3) r3)
  | false => exact iteF (q _ H2 R2 e2 (.bl false)))
theorem ed_not (h : Ed X W Γ μ a (.bool k)) : Ed X W Γ μ (.UnaryOp .Not a pos) (.bool (!k)) := fun σ H R Q q => (pe_not wE.pe).w (h σ H R _ fun v H2 R2 e2 r => by
  cases r
  exact ⟨k, rfl, q _ H2 R2 e2 (.bl _)⟩)
theorem ed_chain {c : Expr} {op op' : CmpOp} {w : PyData} (ha : Ed X W Γ μ a x) (hb : Ed X W Γ μ b y) (hc : k = true → Ed X W Γ μ c w) (hz : OpD X (compareOp op) x y (.bool k)) (hz' : OpD X (compareOp op') y w (.bool l)) (hm : lastMarks [op, op'] [b, c] = false := by with_unfolding_all rfl) :
    Ed X W Γ μ (.Compare a [op, op'] [b, c] pos) (.bool (k && l)) := fun σ H R Q q => (pe_chain hz hz' wE.pe wE.pe wE.pe hm).w (ha σ H R _ fun v H2 R2 e2 r2 => hb σ H2 R2 _ fun u H3 R3 e3 r3 => ⟨hd W μ, R3.ne, r2.up e3, r3, fun t H4 e4 r4 => by
  cases r4
  refine ⟨k, rfl, ?_⟩
  have R4 := R3.same e4
  cases k with
  | true =>
    refine iteT (hc rfl σ H4 R4 _ fun t H5 R5 e5 r5 => ⟨hd W μ, R5.ne, (r3.up (XT.same e4)).up e5, r5, fun t' H6 e6 r6 => q t' H6 (R5.same e6) ((((e2.trans e3).trans (XT.same e4)).trans e5).trans (XT.same e6)) r6⟩)
  | false => exact iteF (q _ H4 R4 ((e2.trans e3).trans (XT.same e4)) (.bl false))⟩)

theorem tc_chain {c : Expr} {op op' : CmpOp} {w : PyData} (ha : Ed X W Γ μ a x) (hb : Ed X W Γ μ b y) (hc : k = true → Ed X W Γ μ c w) (hz : OpD X (compareOp op) x y (.bool k)) (hz' : OpD X (compareOp op') y w (.bool l)) (hm : lastMarks [op, op'] [b, c] = false := by with_unfolding_all rfl) :
    EdT X W Γ μ (.Compare a [op, op'] [b, c] pos) (k && l) := fun σ H R Q q => (pt_chain hz hz' wE.pe wE.pe wE.pe hm).w (ha σ H R _ fun v H2 R2 e2 r2 => hb σ H2 R2 _ fun u H3 R3 e3 r3 => ⟨hd W μ, R3.ne, r2.up e3, r3, fun t H4 e4 r4 => by
  cases r4
  refine ⟨k, rfl, ?_⟩
  have R4 := R3.same e4
  cases k with
  | true =>
    refine iteT (hc rfl σ H4 R4 _ fun t H5 R5 e5 r5 => ⟨hd W μ, R5.ne, (r3.up (XT.same e4)).up e5, r5, fun t' H6 e6 r6 => ?_⟩)
    cases r6
    exact ⟨l, rfl, q H6 (R5.same e6) ((((e2.trans e3).trans (XT.same e4)).trans e5).trans (XT.same e6))⟩
  | false => exact iteF ⟨false, rfl, q H4 R4 ((e2.trans e3).trans (XT.same e4))⟩⟩)

/-! ### arguments, calls -/
theorem ea_nil : EdA X W Γ μ [] [] := fun σ H R Q q => pa_nil.w (q [] H R XT.refl .nil)
theorem ea_cons {es : List Expr} {ds : List PyData} (h : Ed X W Γ μ e x) (hr : EdA X W Γ μ es ds) (hs : starEach (e :: es) X.env = (false, eval e X.env) :: starEach es X.env := by rfl) : EdA X W Γ μ (e :: es) (x :: ds) := fun σ H R Q q =>
  (pa_cons wE.pe wA.pa hs).w (h σ H R _ fun v H2 R2 e2 r2 => hr σ H2 R2 _ fun vs H3 R3 e3 r3 => q _ H3 R3 (e2.trans e3) (.cons (r2.up e3) r3))
theorem eva_cons {es : List Expr} {A : PyData → Prop} {As : List PyData → Prop} (h : Ev X W Γ μ e A) (hr : EvA X W Γ μ es As) (hs : starEach (e :: es) X.env = (false, eval e X.env) :: starEach es X.env := by rfl) : EvA X W Γ μ (e :: es) (fun l => ∃ x r, l = x :: r ∧ A x ∧ As r) := fun σ H R Q q =>
  (pa_cons wE.pe wA.pa hs).w (h σ H R _ fun v d H2 R2 e2 r2 p2 => hr σ H2 R2 _ fun vs ds H3 R3 e3 r3 p3 => q _ _ H3 R3 (e2.trans e3) (.cons (r2.up e3) r3) ⟨_, _, rfl, p2, p3⟩)
theorem eva_nil : EvA X W Γ μ [] (fun l => l = []) := fun σ H R Q q => pa_nil.w (q [] [] H R XT.refl .nil rfl)
/-- a tuple, a list displayed -/
theorem ed_tup {es : List Expr} {ds : List PyData} {x1} (h : EdA X W Γ μ es ds) (hl : ds.length ≤ 1000) : Ed X W Γ μ (.Tuple es x1 pos) (.tuple ds) := fun σ H R Q q =>
  (pe_tup wA.pa).w (h σ H R _ fun vs H2 R2 e2 r2 => ⟨by rw [r2.length]; exact Nat.le_trans hl (by decide), fun p hp => by
    have s := same_new (o := .tup vs) hp
    exact q _ _ (R2.same s) (e2.trans (XT.same s)) (.tup (.inl (.inl (off_upd (new_out R2.ne hp)))) (r2.up (XT.same s)))⟩)
theorem ed_lst {es : List Expr} {ds : List PyData} (h : EdA X W Γ μ es ds) (hl : ds.length ≤ 1000) : Ed X W Γ μ (.List es pos) (.list ds) := fun σ H R Q q =>
  (pe_lst wA.pa).w (h σ H R _ fun vs H2 R2 e2 r2 => ⟨by rw [r2.length]; exact Nat.le_trans hl (by decide), fun p hp => by
    have s := same_new (o := .lst vs) hp
    exact q _ _ (R2.same s) (e2.trans (XT.same s)) (.lst (off_upd (new_out R2.ne hp)) (r2.up (XT.same s)))⟩)
/-- a built-in function on data -/
def rDc (K : PySem.W.Frag) (ds : List PyData) (z : PyData) : List V → Hp → VK → Prop := fun vs H Q => ∃ L : List Addr, (∀ l ∈ L, H l ≠ none) ∧ VaAll K (off L H) vs ds ∧ ∀ v H2, Same H H2 → Va K (off L H2) v z → Q v H2
def CallD (X : Cx) (f : Value) (ds : List PyData) (z : PyData) : Prop := CallR X f (rDc X.K ds z)
theorem CallR.to {f : Value} {r r' : List V → Hp → VK → Prop} (h : CallR X f r) (i : ∀ vs H Q, r' vs H Q → r vs H Q) : CallR X f r' := fun pins s σ H vs us Q I rv q => h pins s σ H vs us Q I rv (i _ _ _ q)
theorem ev_callB {n : Str} {id : String} {es : List Expr} {As : List PyData → Prop} {C : PyData → Prop} {p : Pos} (hm : X.mg n = none) (hv : bootBuiltins n = some (.builtin id)) (ha : EvA X W Γ μ (e :: es) As) (hz : ∀ ds, As ds → ∃ z, C z ∧ CallD X (.builtin id) ds z) (hg : Gl X n := by rfl)
    (hn : n ≠ "__name__" := by decide) (hdb : (n == ("__debug__" : Str)) = false := by decide)
    (he : starEach (e :: es) X.env = (false, eval e X.env) :: starEach es X.env := by rfl) (hpl : (backTo pos (starEach es X.env)).any (·.1) = false := by rfl) : Ev X W Γ μ (.Call (.Name n p) (e :: es) [] pos) C := fun σ H R Q q =>
  (pe_callB (r := fun vs H Q => ∃ ds z, CallD X (.builtin id) ds z ∧ rDc X.K ds z vs H Q) (fun pins s σ H vs us Q I rv ⟨_, _, o, q⟩ => o pins s σ H vs us Q I rv q) hg hm hv wA.pa hn hdb he hpl).w
    (ha σ H R _ fun vs ds H2 R2 e2 r2 p2 => by
      obtain ⟨z, pz, o⟩ := hz ds p2
      exact ⟨ds, z, o, hd W μ, R2.ne, r2, fun v H3 e3 r3 => q v z H3 (R2.same e3) (e2.trans (XT.same e3)) r3 pz⟩)
theorem ed_callB {n : Str} {id : String} {es : List Expr} {ds : List PyData} {p : Pos} (hm : X.mg n = none) (hv : bootBuiltins n = some (.builtin id)) (ha : EdA X W Γ μ (e :: es) ds) (hz : CallD X (.builtin id) ds z) (hg : Gl X n := by rfl)
    (hn : n ≠ "__name__" := by decide) (hdb : (n == ("__debug__" : Str)) = false := by decide)
    (he : starEach (e :: es) X.env = (false, eval e X.env) :: starEach es X.env := by rfl) (hpl : (backTo pos (starEach es X.env)).any (·.1) = false := by rfl) : Ed X W Γ μ (.Call (.Name n p) (e :: es) [] pos) z :=
  (ev_callB (C := fun w => w = z) hm hv (ha.ev (P := fun l => l = ds) rfl) (fun _ e => ⟨z, rfl, e ▸ hz⟩) hg hn hdb he hpl).ed
end
end HW
set_option maxHeartbeats 4000000
namespace HW
open PySem PySem.Spec PyProof.Rows L2
/-! ### a local object is hidden, and told again -/
section
variable {K : PySem.W.Frag} {H H' : Hp} {W W' : Wd} {Γ Γ' : List DV} {μ : Mu} {σ σ' : L2.St} {D : Addr} {m : MO}
def Wd.park (W : Wd) (μ : Mu) (D : Addr) (H : Hp) : Wd := ⟨off (μ.map (·.1)) H, D :: W.M, W.row⟩
theorem mem_park {a : Addr} : a ∈ hd (W.park μ D H) μ ↔ a ∈ hd W ((D, m) :: μ) := by
  unfold Wd.park hd
  simp only [List.mem_append, List.mem_cons, List.map_cons]
  constructor
  · rintro ((h | h) | h)
    · exact .inr (.inl h)
    · exact .inl h
    · exact .inr (.inr h)
  · rintro (h | h | h)
    · exact .inl (.inr h)
    · exact .inl (.inl h)
    · exact .inr h
theorem off_cong {L L' : List Addr} (h : ∀ a, a ∈ L ↔ a ∈ L') : off L H = off L' H := by
  funext a
  unfold off
  by_cases q : a ∈ L
  · rw [if_pos q, if_pos ((h a).mp q)]
  · rw [if_neg q, if_neg (fun z => q ((h a).mpr z))]
theorem Rep.isRow_M (wd : WdOk K W) {a : Addr} (h : W.isRow a) : a ∈ W.M := by
  obtain ⟨scr, ns, e⟩ := h
  exact (wd.row _ _ _ e).1
theorem Rep.park (R : Rep K W Γ ((D, m) :: μ) σ H) : Rep K (W.park μ D H) Γ μ σ H := by
  have hD : W.H0 D = none ∧ MOk K (off (hd W ((D, m) :: μ)) H) H D m := R.mu (D, m) List.mem_cons_self
  have nd : D ∉ μ.map (·.1) ∧ (μ.map (·.1)).Nodup := by
    have := R.nd
    rw [List.map_cons] at this
    exact List.nodup_cons.mp this
  have nmu : ∀ a, W.H0 a ≠ none → a ∉ μ.map (·.1) := fun a h q => by
    obtain ⟨p, hp, rfl⟩ := List.mem_map.mp q
    exact h (R.mu p (List.mem_cons_of_mem _ hp)).1
  have oc : off (hd W ((D, m) :: μ)) H = off (hd (W.park μ D H) μ) H := off_cong fun a => (mem_park (m := m)).symm
  refine ⟨⟨fun a ha => ?_, fun r scr ns q => ?_⟩, ⟨fun a o n q => (off_some q).2, R.fr.row⟩, oc ▸ R.sl, fun p hp => ⟨off_in (List.mem_map.mpr ⟨p, hp, rfl⟩), oc ▸ (R.mu p (List.mem_cons_of_mem _ hp)).2⟩, nd.2⟩
  · show off (μ.map (·.1)) H a ≠ none
    rcases List.mem_cons.mp ha with h | h
    · rw [h, off_out nd.1]
      exact hD.2.ne
    · rw [off_out (nmu a (R.wd.hid a h))]
      exact R.fr.dom (R.wd.hid a h)
  · obtain ⟨h1, h2, h3, h4⟩ := R.wd.row r scr ns q
    refine ⟨List.mem_cons_of_mem _ h1, SqL.up (fun o e => ?_) h2, h3, h4⟩
    show off (μ.map (·.1)) H scr = some o
    rw [off_out (nmu scr (by rw [e]; simp))]
    refine R.fr.keep scr o (fun ⟨s2, n2, z⟩ => ?_) e
    have q' : W.row = some (r, scr, ns) := q
    rw [q'] at z
    cases z
    exact h3 rfl
/-- what stood off the hidden objects stands -/
theorem park_xt (R : Rep K W Γ ((D, m) :: μ) σ H) (R' : Rep K (W.park μ D H) Γ' μ σ' H') : XT (hd W ((D, m) :: μ)) H H' := fun a o e => by
  obtain ⟨h1, h2⟩ := off_some e
  rw [off_out h1]
  refine R'.fr.keep a o (fun q => h1 ((mem_park (m := m)).mp (List.mem_append_left _ (Rep.isRow_M R'.wd q)))) ?_
  show off (μ.map (·.1)) H a = some o
  rw [off_out (fun q => h1 (List.mem_append_right _ (by rw [List.map_cons]; exact List.mem_cons_of_mem _ q)))]
  exact h2
theorem Rep.unpark (R : Rep K W Γ ((D, m) :: μ) σ H) (R' : Rep K (W.park μ D H) Γ' μ σ' H') : Rep K W Γ' ((D, m) :: μ) σ' H' := by
  have hD : W.H0 D = none ∧ MOk K (off (hd W ((D, m) :: μ)) H) H D m := R.mu (D, m) List.mem_cons_self
  have oc : off (hd (W.park μ D H) μ) H' = off (hd W ((D, m) :: μ)) H' := off_cong fun a => mem_park (m := m)
  have xt := park_xt R R'
  have nd : D ∉ μ.map (·.1) ∧ (μ.map (·.1)).Nodup := by
    have := R.nd
    rw [List.map_cons] at this
    exact List.nodup_cons.mp this
  have nrow : ¬ (W.park μ D H).isRow D := fun ⟨scr, ns, e⟩ => (R.wd.hid D (R.wd.row _ _ _ e).1) hD.1
  have keepD : ∀ o, H D = some o → H' D = some o := fun o e => R'.fr.keep D o nrow (by
    show off (μ.map (·.1)) H D = some o
    rw [off_out nd.1]
    exact e)
  have nmu : ∀ a, W.H0 a ≠ none → a ∉ μ.map (·.1) := fun a h q => by
    obtain ⟨p, hp, rfl⟩ := List.mem_map.mp q
    exact h (R.mu p (List.mem_cons_of_mem _ hp)).1
  refine ⟨R.wd, ⟨fun a o n q => ?_, R'.fr.row⟩, oc ▸ R'.sl, fun p hp => ?_, R.nd⟩
  · refine R'.fr.keep a o n ?_
    show off (μ.map (·.1)) H a = some o
    rw [off_out (nmu a (by rw [q]; simp))]
    exact R.fr.keep a o n q
  · rcases List.mem_cons.mp hp with h | h
    · rw [h]
      exact ⟨hD.1, hD.2.up xt keepD⟩
    · exact ⟨(R.mu p hp).1, oc ▸ (R'.mu p h).2⟩
theorem park_le (R : Rep K W Γ ((D, m) :: μ) σ H) : Wle W (W.park μ D H) := ⟨fun a h => List.mem_cons_of_mem _ h, rfl, fun a o n h => by
  show off (μ.map (·.1)) H a = some o
  rw [off_out fun q => by
    obtain ⟨p, hp, z⟩ := List.mem_map.mp q
    have := (R.mu p (List.mem_cons_of_mem _ hp)).1
    rw [z, h] at this
    cases this]
  exact R.fr.keep a o n h⟩
/-- a new local object -/
theorem Rep.born (R : Rep K W Γ μ σ H) {o : HO} (hp : H D = none) (hm : MOk K (off (hd W μ) H) (upd H D o) D m) : Rep K W Γ ((D, m) :: μ) σ (upd H D o) := by
  have s := same_new (o := o) hp
  have nD : D ∉ hd W μ := new_out R.ne hp
  have sub : Same (off (hd W μ) H) (off (hd W ((D, m) :: μ)) (upd H D o)) := fun a u e => by
    obtain ⟨h1, h2⟩ := off_some e
    have na : a ≠ D := fun q => by rw [q, hp] at h2; cases h2
    rw [off_out (fun q => by
      rcases List.mem_append.mp q with z | z
      · exact h1 (List.mem_append_left _ z)
      · rw [List.map_cons] at z
        rcases List.mem_cons.mp z with z | z
        · exact na z
        · exact h1 (List.mem_append_right _ z)), upd_ne na]
    exact h2
  have h0 : W.H0 D = none := by
    cases e : W.H0 D with
    | none => rfl
    | some u => exact absurd hp (R.fr.dom (by rw [e]; simp))
  refine ⟨R.wd, R.fr.same s, R.sl.up sub, fun p hp' => ?_, ?_⟩
  · rcases List.mem_cons.mp hp' with h | h
    · rw [h]
      exact ⟨h0, hm.up sub fun _ z => z⟩
    · exact ⟨(R.mu p h).1, (R.mu p h).2.up sub fun u e => s _ _ e⟩
  · rw [List.map_cons]
    exact List.nodup_cons.mpr ⟨fun q => nD (List.mem_append_right _ q), R.nd⟩
/-- a local object changes -/
theorem Rep.chg {j : Nat} {m' : MO} (R : Rep K W Γ μ σ H) {o : HO} (hj : μ[j]? = some (D, m)) (hm : MOk K (off (hd W μ) H) (upd H D o) D m') : Rep K W Γ (μ.set j (D, m')) σ (upd H D o) := by
  have hmem : (D, m) ∈ μ := List.mem_of_getElem? hj
  have h0 : W.H0 D = none := (R.mu _ hmem).1
  have keys : (μ.set j (D, m')).map (·.1) = μ.map (·.1) := by
    rw [List.map_set]
    obtain ⟨hl, he⟩ := List.getElem?_eq_some_iff.mp hj
    apply List.ext_getElem (by simp)
    intro i h1 h2
    by_cases q : i = j
    · subst q
      simp [he]
    · rw [List.getElem_set_ne (Ne.symm q)]
  have hh : hd W (μ.set j (D, m')) = hd W μ := by unfold hd; rw [keys]
  have inD : D ∈ hd W μ := List.mem_append_right _ (List.mem_map.mpr ⟨_, hmem, rfl⟩)
  have oe : off (hd W μ) (upd H D o) = off (hd W μ) H := by
    funext a
    unfold off
    by_cases q : a ∈ hd W μ
    · rw [if_pos q, if_pos q]
    · rw [if_neg q, if_neg q, upd_ne (fun (z : a = D) => q (by rw [z]; exact inD))]
  have nrow : ¬ W.isRow D := fun ⟨scr, ns, e⟩ => (R.wd.hid D (R.wd.row _ _ _ e).1) h0
  refine ⟨R.wd, ⟨fun a u n e => ?_, fun r scr ns e => ?_⟩, ?_, fun p hp => ?_, by rw [keys]; exact R.nd⟩
  · rw [upd_ne (fun z => by rw [z, h0] at e; cases e)]
    exact R.fr.keep a u n e
  · obtain ⟨i, s, q, e1, e2⟩ := R.fr.row r scr ns e
    refine ⟨i, s, q, ?_, e2⟩
    rw [upd_ne (fun (z : r = D) => nrow ⟨scr, ns, by rw [← z]; exact e⟩)]
    exact e1
  · rw [hh, oe]
    exact R.sl
  · rw [hh, oe]
    obtain ⟨i, hi⟩ := List.getElem?_of_mem hp
    by_cases q : i = j
    · subst q
      rw [List.getElem?_set_self (List.getElem?_eq_some_iff.mp hj).1] at hi
      cases hi
      exact ⟨h0, hm⟩
    · rw [List.getElem?_set_ne (Ne.symm q)] at hi
      have hp' : p ∈ μ := List.mem_of_getElem? hi
      have ne : p.1 ≠ D := fun z => by
        have n := R.nd
        have e1 : (μ.map (·.1))[i]? = some D := by rw [List.getElem?_map, hi]; exact congrArg some z
        have e2 : (μ.map (·.1))[j]? = some D := by rw [List.getElem?_map, hj]; rfl
        exact q (nd_ix n e1 e2)
      refine ⟨(R.mu p hp').1, (R.mu p hp').2.up (Same.refl _) fun u e => ?_⟩
      rw [upd_ne ne]
      exact e
end
/-! ### statements -/
/-- the state is one of Φ, in the world W -/
def StP (K : PySem.W.Frag) (W : Wd) (Φ : List DV → Mu → Prop) : L2.St → Hp → Prop := fun σ H => ∃ Γ μ, Φ Γ μ ∧ Rep K W Γ μ σ H
def Run (X : Cx) (W : Wd) (Γ : List DV) (μ : Mu) (sts : List Stmt) (D : Ends) : Prop := ∀ σ H, Rep X.K W Γ μ σ H → wSs X sts D σ H
/-- what a def hands back: data with P, all else as it was -/
def RetP (K : PySem.W.Frag) (W : Wd) (P : PyData → Prop) : VK := fun v H => Fr W H ∧ ∃ d, P d ∧ Va K (off W.M H) v d
section
variable {X : Cx} {W W0 : Wd} {Γ : List DV} {μ : Mu} {e c : Expr} {rest sts a b : List Stmt} {D : Ends} {d : PyData} {P : PyData → Prop} {pos p : Pos}
theorem run_nil (h : ∀ σ H, Rep X.K W Γ μ σ H → D.nx σ H) : Run X W Γ μ [] D := fun σ H R => pss_nil.w (h σ H R)
/-- x = e -/
theorem run_setP (i : Nat) {n : Str} (he : Ev X W Γ μ e P) (h : ∀ d, P d → Run X W (Γ.set i (.d d)) μ rest D) (nd : X.N.Nodup) (hN : X.N[i]? = some n := by rfl) (hx : Loc X.env.scope n := by first | exact Or.inl rfl | exact Or.inr rfl)
    (hs : swapsWith e (some (.Name n p)) pos.line X.env = pure false := by rfl) (hf : X.fn n = true ∨ X.env.scope.names.lookup n = some .local := by first | exact .inr rfl | exact .inl rfl) : Run X W Γ μ (.Assign [.Name n p] e pos :: rest) D := fun σ H R =>
  wSs_cons ((ps_set nd hN hx wE.pe hs hf).w (he σ H R _ fun v d H2 R2 e2 r p => h d p _ _ ⟨R2.wd, R2.fr, R2.sl.set i r, R2.mu, R2.nd⟩))
theorem run_set (i : Nat) {n : Str} (he : Ed X W Γ μ e d) (h : Run X W (Γ.set i (.d d)) μ rest D) (nd : X.N.Nodup) (hN : X.N[i]? = some n := by rfl) (hx : Loc X.env.scope n := by first | exact Or.inl rfl | exact Or.inr rfl)
    (hs : swapsWith e (some (.Name n p)) pos.line X.env = pure false := by rfl) (hf : X.fn n = true ∨ X.env.scope.names.lookup n = some .local := by first | exact .inr rfl | exact .inl rfl) : Run X W Γ μ (.Assign [.Name n p] e pos :: rest) D :=
  run_setP i he.ev (fun _ q => q ▸ h) nd hN hx hs hf
/-- x = [] : a local list -/
theorem run_newL (i : Nat) {n : Str} {p2 : Pos} (h : ∀ l, Run X W (Γ.set i (.r l)) ((l, .lst []) :: μ) rest D) (nd : X.N.Nodup) (hN : X.N[i]? = some n := by rfl) (hx : Loc X.env.scope n := by first | exact Or.inl rfl | exact Or.inr rfl)
    (hs : swapsWith (.List [] p2) (some (.Name n p)) pos.line X.env = pure false := by rfl) (hf : X.fn n = true ∨ X.env.scope.names.lookup n = some .local := by first | exact .inr rfl | exact .inl rfl) : Run X W Γ μ (.Assign [.Name n p] (.List [] p2) pos :: rest) D := fun σ H R =>
  wSs_cons ((ps_set nd hN hx (pe_lst pa_nil) hs hf).w ⟨Nat.zero_le _, fun l hl => h l _ _ (by
    have R1 := R.born (m := .lst []) (o := .lst []) hl ⟨[], upd_same, .nil⟩
    exact ⟨R1.wd, R1.fr, R1.sl.setr i, R1.mu, R1.nd⟩)⟩)
/-- l.append(e) -/
theorem run_appP (i j : Nat) {n : Str} {l : Addr} {ys : List PyData} {p1 p2 p3 : Pos} (he : Ev X W Γ μ e P) (hl : ys.length < 16777216) (h : ∀ d, P d → Run X W Γ (μ.set j (l, .lst (ys ++ [d]))) rest D)
    (hi : Γ[i]? = some (.r l) := by rfl) (hj : μ[j]? = some (l, .lst ys) := by rfl) (hN : X.N[i]? = some n := by rfl) (hv : Vis X.env.scope n := by first | exact Or.inl rfl | exact Or.inr (Or.inl rfl) | exact Or.inr (Or.inr rfl))
    (h1 : (n == ("__debug__" : Str)) = false := by decide) (h2 : (n == ("__classdict__" : Str)) = false := by decide)
    (hbase : attributeBase (.Name n p1) "append" X.env (eval (.Name n p1) X.env) = eval (.Name n p1) X.env := by rfl)
    (hfew : ((backTo p3 (starEach [e] X.env)).all (fun x => !x.1) && (backToKw p3 (keywordEach [] X.env)).all (fun x => x.1.isSome)
      && decide ([e].length + ([] : List Keyword).length + (if ([] : List Keyword).isEmpty then 0 else 1) < 30)) = true := by rfl)
    (hline : (p2.endLine == p3.line) = true := by rfl) (hs : starEach [e] X.env = (false, eval e X.env) :: starEach [] X.env := by rfl) (hplain : (backTo p3 (starEach [] X.env)).any (·.1) = false := by rfl)
    (hsw : swapsWith (.Call (.Attribute (.Name n p1) "append" p2) [e] [] p3) none pos.line X.env = pure false := by rfl) :
    Run X W Γ μ (.Expr (.Call (.Attribute (.Name n p1) "append" p2) [e] [] p3) pos :: rest) D := fun σ H R => by
  refine wSs_cons ((ps_expr (pe_bm PySem.F.plainAttrs_list PySem.F.slot_list_append PySem.F.type_list_append mt_append (pe_var hN hv h1 h2) (pa_cons wE.pe pa_nil hs) hbase hfew hline hs hplain) hsw).w ?_)
  obtain ⟨o, e1, e2⟩ := R.sl.at_ i _ hi
  have e2' : o = some (.ref l) := e2
  subst e2'
  have hmem : (l, MO.lst ys) ∈ μ := List.mem_of_getElem? hj
  obtain ⟨xs, hx, _⟩ := (R.mu _ hmem).2
  refine ⟨_, e1, .inl ⟨rfl, _, SqL.of hx⟩, ?_⟩
  refine he σ H R _ fun v d H2 R2 e2 r p => ?_
  obtain ⟨xs2, hx2, hv2⟩ := (R2.mu _ hmem).2
  refine ⟨l, xs2, v, rfl, rfl, hx2, by rw [hv2.length]; exact hl, ?_⟩
  exact h d p _ _ (R2.chg hj ⟨xs2 ++ [v], upd_same, hv2.app (.cons r .nil)⟩)
theorem run_app (i j : Nat) {n : Str} {l : Addr} {ys : List PyData} {p1 p2 p3 : Pos} (he : Ed X W Γ μ e d) (hl : ys.length < 16777216) (h : Run X W Γ (μ.set j (l, .lst (ys ++ [d]))) rest D)
    (hi : Γ[i]? = some (.r l) := by rfl) (hj : μ[j]? = some (l, .lst ys) := by rfl) (hN : X.N[i]? = some n := by rfl) (hv : Vis X.env.scope n := by first | exact Or.inl rfl | exact Or.inr (Or.inl rfl) | exact Or.inr (Or.inr rfl))
    (h1 : (n == ("__debug__" : Str)) = false := by decide) (h2 : (n == ("__classdict__" : Str)) = false := by decide)
    (hbase : attributeBase (.Name n p1) "append" X.env (eval (.Name n p1) X.env) = eval (.Name n p1) X.env := by rfl)
    (hfew : ((backTo p3 (starEach [e] X.env)).all (fun x => !x.1) && (backToKw p3 (keywordEach [] X.env)).all (fun x => x.1.isSome)
      && decide ([e].length + ([] : List Keyword).length + (if ([] : List Keyword).isEmpty then 0 else 1) < 30)) = true := by rfl)
    (hline : (p2.endLine == p3.line) = true := by rfl) (hs : starEach [e] X.env = (false, eval e X.env) :: starEach [] X.env := by rfl) (hplain : (backTo p3 (starEach [] X.env)).any (·.1) = false := by rfl)
    (hsw : swapsWith (.Call (.Attribute (.Name n p1) "append" p2) [e] [] p3) none pos.line X.env = pure false := by rfl) :
    Run X W Γ μ (.Expr (.Call (.Attribute (.Name n p1) "append" p2) [e] [] p3) pos :: rest) D :=
  run_appP i j he.ev hl (fun _ q => q ▸ h) hi hj hN hv h1 h2 hbase hfew hline hs hplain hsw
/-- a local list is from now on data -/
theorem Rep.freeze {K : PySem.W.Frag} {H : Hp} {σ : L2.St} {l : Addr} {ys : List PyData} (R : Rep K W Γ ((l, .lst ys) :: μ) σ H) : ∃ xs, H l = some (.lst xs) ∧ VaAll K (off (hd W μ) H) xs ys ∧ l ∉ hd W μ ∧ Slots K (off (hd W μ) H) σ Γ := by
  obtain ⟨h0, xs, hx, hv⟩ := R.mu _ List.mem_cons_self
  have sub : Same (off (hd W ((l, .lst ys) :: μ)) H) (off (hd W μ) H) := same_offs fun a ha => by
    rcases List.mem_append.mp ha with z | z
    · exact List.mem_append_left _ z
    · exact List.mem_append_right _ (by rw [List.map_cons]; exact List.mem_cons_of_mem _ z)
  have nd := R.nd
  rw [List.map_cons] at nd
  refine ⟨xs, hx, hv.up sub, fun q => ?_, R.sl.up sub⟩
  rcases List.mem_append.mp q with z | z
  · exact R.wd.hid l z h0
  · exact (List.nodup_cons.mp nd).1 z
/-- the i-th slot's local list becomes data -/
theorem run_fix (i : Nat) {l : Addr} {ys : List PyData} (h : Run X W (Γ.set i (.d (.list ys))) μ sts D) (hi : Γ[i]? = some (.r l) := by rfl) : Run X W Γ ((l, .lst ys) :: μ) sts D := fun σ H R => by
  obtain ⟨xs, hx, hv, nl, sl⟩ := R.freeze
  obtain ⟨o, e1, e2⟩ := R.sl.at_ i _ hi
  have e2' : o = some (.ref l) := e2
  subst e2'
  have s2 := sl.set i (Va.lst (off_out nl |>.trans hx) hv)
  have es : σ.set i (some (.ref l)) = σ := by
    apply List.ext_getElem? 
    intro k
    by_cases q : k = i
    · subst q
      have hl := (List.getElem?_eq_some_iff.mp e1).1
      rw [List.getElem?_set_self hl, e1]
    · rw [List.getElem?_set_ne (Ne.symm q)]
  rw [es] at s2
  have nd := R.nd
  rw [List.map_cons] at nd
  refine h σ H ⟨R.wd, R.fr, s2, fun p hp => ⟨(R.mu p (List.mem_cons_of_mem _ hp)).1, (R.mu p (List.mem_cons_of_mem _ hp)).2.up (same_offs fun a ha => ?_) fun _ z => z⟩, (List.nodup_cons.mp nd).2⟩
  rcases List.mem_append.mp ha with z | z
  · exact List.mem_append_left _ z
  · exact List.mem_append_right _ (by rw [List.map_cons]; exact List.mem_cons_of_mem _ z)
/-- return e -/
theorem run_retP (he : Ev X W Γ μ e P) (hD : ∀ v d H, P d → Fr W H → Va X.K (off W.M H) v d → D.rt v H) : Run X W Γ μ (.Return (some e) pos :: rest) D := fun σ H R =>
  wSs_cons ((ps_ret wE.pe).w (he σ H R _ fun v d H2 R2 e2 r p => hD v d H2 p R2.fr (r.up (same_offs fun a ha => List.mem_append_left _ ha))))
theorem run_ret {P : PyData → Prop} {nx bk ct : L2.St → Hp → Prop} (he : Ed X W Γ μ e d) (hp : P d) (hW : Wle W0 W := by first | exact Wle.refl | assumption) : Run X W Γ μ (.Return (some e) pos :: rest) ⟨nx, RetP X.K W0 P, bk, ct⟩ :=
  run_retP he.ev fun v d' H p f r => ⟨f.down hW, d', by rw [p]; exact hp, r.up (same_offs fun a ha => hW.m a ha)⟩
theorem run_retV {P A : PyData → Prop} {nx bk ct : L2.St → Hp → Prop} (he : Ev X W Γ μ e A) (hp : ∀ d, A d → P d) (hW : Wle W0 W := by first | exact Wle.refl | assumption) : Run X W Γ μ (.Return (some e) pos :: rest) ⟨nx, RetP X.K W0 P, bk, ct⟩ :=
  run_retP he fun v d' H p f r => ⟨f.down hW, d', hp _ p, r.up (same_offs fun a ha => hW.m a ha)⟩
/-- return a local list -/
theorem run_retL {P : PyData → Prop} {nx bk ct : L2.St → Hp → Prop} (i : Nat) {n : Str} {l : Addr} {ys : List PyData} (hp : P (.list ys)) (hW : Wle W0 W := by first | exact Wle.refl | assumption)
    (hi : Γ[i]? = some (.r l) := by rfl) (hN : X.N[i]? = some n := by rfl) (hv : Vis X.env.scope n := by first | exact Or.inl rfl | exact Or.inr (Or.inl rfl) | exact Or.inr (Or.inr rfl))
    (h1 : (n == ("__debug__" : Str)) = false := by decide) (h2 : (n == ("__classdict__" : Str)) = false := by decide) (hl : i < Γ.length := by decide) : Run X W Γ ((l, .lst ys) :: μ) (.Return (some (.Name n p)) pos :: rest) ⟨nx, RetP X.K W0 P, bk, ct⟩ :=
  run_fix i (run_ret (P := P) (vr i (by rw [List.getElem?_set_self hl]) hN hv h1 h2) hp hW) hi
/-- if -/
theorem run_ifV {A : Bool → Prop} (hc : EvT X W Γ μ c A) (h1 : A true → Run X W Γ μ a { D with nx := wSs X rest D }) (h2 : A false → Run X W Γ μ b { D with nx := wSs X rest D }) : Run X W Γ μ (.If c a b pos :: rest) D := fun σ H R =>
  wSs_cons ((ps_if wT.pt wSs.ps wSs.ps).w (hc σ H R _ fun k H2 R2 e2 p => by
    cases k with
    | true => exact iteT (h1 p σ H2 R2)
    | false => exact iteF (h2 p σ H2 R2)))
theorem run_if {k : Bool} (hc : EdT X W Γ μ c k) (h1 : k = true → Run X W Γ μ a { D with nx := wSs X rest D }) (h2 : k = false → Run X W Γ μ b { D with nx := wSs X rest D }) : Run X W Γ μ (.If c a b pos :: rest) D :=
  run_ifV (hc.ev (P := fun z => z = k) rfl) (fun q => h1 q.symm) (fun q => h2 q.symm)
/-- the else that is not there: on with the rest -/
theorem run_skip (h : Run X W Γ μ rest D) : Run X W Γ μ [] { D with nx := wSs X rest D } := run_nil fun σ H R => h σ H R
/-- an expression alone -/
theorem run_exprP (he : Ev X W Γ μ e P) (h : ∀ d, P d → Run X W Γ μ rest D) (hs : swapsWith e none pos.line X.env = pure false := by rfl) : Run X W Γ μ (.Expr e pos :: rest) D := fun σ H R =>
  wSs_cons ((ps_expr wE.pe hs).w (he σ H R _ fun v d H2 R2 e2 r p => h d p σ H2 R2))
theorem run_expr (he : Ed X W Γ μ e d) (h : Run X W Γ μ rest D) (hs : swapsWith e none pos.line X.env = pure false := by rfl) : Run X W Γ μ (.Expr e pos :: rest) D := run_exprP he.ev (fun _ _ => h) hs
end
end HW
set_option maxHeartbeats 4000000
namespace HW
open PySem PySem.Spec PyProof.Rows L2
/-! ### walks -/
/-- J walks over the data ds, as long as the pool stands -/
structure WalkD (K : PySem.W.Frag) (pool : Hp) (J : It) (ds : List PyData) : Prop where
  go : ∀ (i : Nat) (H : Hp), i < ds.length → Same pool H → J.go i H
  yld : ∀ (i : Nat) (d : PyData) (H : Hp) (v : V) (H' : Hp) (L : List Addr), ds[i]? = some d → (∀ l ∈ L, H l ≠ none) → Same pool (off L H) → J.yld i H v H' → Same H H' ∧ Va K (off L H') v d
  stop : ∀ (H : Hp), Same pool H → J.stop ds.length H
def IterV (X : Cx) (W : Wd) (Γ : List DV) (μ : Mu) {α : Type} (tg iter : Expr) (enc : α → PyData) (P : List α → Prop) : Prop :=
  ∃ wi : TI, PI X tg iter wi ∧ ∀ σ H, Rep X.K W Γ μ σ H → ∀ R : It → Hp → Prop, (∀ xs J H1, P xs → Rep X.K W Γ μ σ H1 → XT (hd W μ) H H1 → WalkD X.K (off (hd W μ) H1) J (xs.map enc) → R J H1) → wi σ H R
/-- the target takes the data d: put d at its slots ks -/
structure TgR (K : PySem.W.Frag) (g : TG) (ok : PyData → Prop) (put : PyData → List DV → List DV) (ks : List Nat) : Prop where
  run : ∀ (L : List Addr) (v : V) (d : PyData) (σ : L2.St) (H : Hp) (Γ : List DV) (Q : L2.St → Hp → Prop), Va K (off L H) v d → ok d → Slots K (off L H) σ Γ →
    (∀ σ', Slots K (off L H) σ' (put d Γ) → σ'.length = σ.length → (∀ i, i ∉ ks → σ'[i]? = σ[i]?) → Q σ' H) → g v σ H Q
theorem tg_name {K : PySem.W.Frag} (k : Nat) : TgR K (gName k) (fun _ => True) (fun d Γ => Γ.set k (.d d)) [k] := ⟨fun L v d σ H Γ Q r _ s q => q _ (s.set k r) (List.length_set ..) fun i hi => List.getElem?_set_ne (fun e => hi (by rw [e]; exact List.mem_cons_self))⟩
theorem tg_pair {K : PySem.W.Frag} {g1 g2 : TG} {ok1 ok2 : PyData → Prop} {put1 put2 : PyData → List DV → List DV} {k1 k2 : List Nat} (h1 : TgR K g1 ok1 put1 k1) (h2 : TgR K g2 ok2 put2 k2) :
    TgR K (gTup K 2 (gCons g1 (gCons g2 gNil))) (fun d => ∃ x y, d = .tuple [x, y] ∧ ok1 x ∧ ok2 y) (fun d Γ => match d with
      | .tuple [x, y] => put2 y (put1 x Γ)
      | _ => Γ) (k1 ++ k2) := ⟨fun L v d σ H Γ Q r o s q => by
  obtain ⟨x, y, rfl, o1, o2⟩ := o
  cases r with
  | tup hs hv =>
    cases hv with
    | cons r1 hv =>
      cases hv with
      | cons r2 hv =>
        cases hv
        refine ⟨_, _, rfl, SqT.up same_off hs, rfl, _, _, rfl, ?_⟩
        refine h1.run L _ x σ H Γ _ r1 o1 s fun σ1 s1 l1 e1 => ?_
        refine ⟨_, _, rfl, ?_⟩
        refine h2.run L _ y σ1 H _ _ r2 o2 s1 fun σ2 s2 l2 e2 => ?_
        refine ⟨rfl, q σ2 s2 (l2.trans l1) fun i hi => ?_⟩
        rw [e2 i (fun z => hi (List.mem_append_right _ z)), e1 i (fun z => hi (List.mem_append_left _ z))]⟩

/-! ### comprehensions -/
def wipeD (vs : List Nat) (Γ : List DV) : List DV := match vs with
  | [] => Γ
  | v :: vs => (wipeD vs Γ).set v .no
theorem Slots.wipe {K : PySem.W.Frag} {H : Hp} {σ : L2.St} {Γ : List DV} (h : Slots K H σ Γ) : ∀ vs : List Nat, Slots K H (wipe σ vs) (wipeD vs Γ)
  | [] => h
  | v :: vs => (Slots.wipe h vs).no v
theorem wipe_get {σ : L2.St} {i : Nat} : ∀ {vs : List Nat}, (wipe σ vs)[i]? = if i ∈ vs then (if i < σ.length then some none else none) else σ[i]?
  | [] => by simp [L2.wipe]
  | v :: vs => by
    show ((wipe σ vs).set v none)[i]? = _
    by_cases q : i = v
    · subst q
      by_cases hl : i < σ.length
      · rw [List.getElem?_set_self (by rw [wipe_length]; exact hl), if_pos List.mem_cons_self, if_pos hl]
      · rw [if_pos List.mem_cons_self, if_neg hl]
        exact List.getElem?_eq_none (by rw [List.length_set, wipe_length]; omega)
    · rw [List.getElem?_set_ne (Ne.symm q), wipe_get]
      by_cases m : i ∈ vs
      · rw [if_pos m, if_pos (List.mem_cons_of_mem _ m)]
      · rw [if_neg m, if_neg (fun z => (List.mem_cons.mp z).elim q m)]
theorem wipe_eq {σ σ' : L2.St} {vs ks : List Nat} (hk : ∀ k ∈ ks, k ∈ vs) (hl : σ'.length = (wipe σ vs).length) (h : ∀ i, i ∉ ks → σ'[i]? = (wipe σ vs)[i]?) : wipe σ' vs = wipe σ vs := by
  apply List.ext_getElem?
  intro i
  rw [wipe_get, wipe_get]
  rw [wipe_length] at hl
  by_cases m : i ∈ vs
  · rw [if_pos m, if_pos m, hl]
  · rw [if_neg m, if_neg m, h i (fun z => m (hk i z)), wipe_get, if_neg m]
abbrev blkOf (X : Cx) (scope : Scope) (s : Shared) (H : Hp) (C : Addr) (cl : List (Str × Addr)) (fp : List Addr) : Cx := X.blk s H scope (compEnvC scope cl C X.env) fp
/-- e in whatever block -/
def wEb (X : Cx) (scope : Scope) (e : Expr) : TE := fun σ H Q => ∀ s H0 C cl fp, wE (blkOf X scope s H0 C cl fp) e σ H Q
theorem wEb.pe {X : Cx} {scope : Scope} {e : Expr} (s : Shared) (H : Hp) (C : Addr) (cl : List (Str × Addr)) (fp : List Addr) : PE (blkOf X scope s H C cl fp) e (wEb X scope e) := ⟨fun pins st _ _ _ I h => h s H C cl fp pins st I⟩
def wTb (X : Cx) (scope : Scope) (e : Expr) : TT := fun σ H Q => ∀ s H0 C cl fp, wT (blkOf X scope s H0 C cl fp) e σ H Q
theorem wTb.pt {X : Cx} {scope : Scope} {e : Expr} (s : Shared) (H : Hp) (C : Addr) (cl : List (Str × Addr)) (fp : List Addr) : PT (blkOf X scope s H C cl fp) e (wTb X scope e) := ⟨fun pins st _ _ _ I h => h s H C cl fp pins st I⟩
section
variable {X : Cx} {W : Wd} {Γ : List DV} {μ : Mu} {α : Type} {tg iter elt t : Expr} {ifs : List Expr} {scope : Scope} {own : List (Str × Nat)} {pos : Pos} {enc : α → PyData} {P : List α → Prop} {g : TG} {ok : PyData → Prop} {put : PyData → List DV → List DV} {ks : List Nat} {c : α → Bool} {E : α → PyData → Prop}
theorem psnoc {α β : Type} {F : α → β → Prop} {a : α} {b : β} : ∀ {l₁ : List α} {l₂ : List β}, Paired F l₁ l₂ → F a b → Paired F (l₁ ++ [a]) (l₂ ++ [b])
  | _, _, .nil, h => .cons h .nil
  | _, _, .cons r t, h => .cons r (psnoc t h)
theorem plen {α β : Type} {F : α → β → Prop} : ∀ {l₁ : List α} {l₂ : List β}, Paired F l₁ l₂ → l₁.length = l₂.length
  | _, _, .nil => rfl
  | _, _, .cons _ t => congrArg (· + 1) (plen t)
theorem take_succ_filter {xs : List α} {i : Nat} {x : α} (h : xs[i]? = some x) : (xs.take (i + 1)).filter c = (xs.take i).filter c ++ (if c x = true then [x] else []) := by
  rw [List.take_add_one, h]
  show (xs.take i ++ [x]).filter c = _
  rw [List.filter_append]
  by_cases q : c x = true
  · rw [if_pos q, List.filter_cons_of_pos q]; rfl
  · rw [if_neg q, List.filter_cons_of_neg q]; rfl
/-- the reading of a comprehension: a list whose items are E of the items kept -/
theorem lc_read {tt : TT} {wi : TI} (hi : ∀ σ H, Rep X.K W Γ μ σ H → ∀ R : It → Hp → Prop, (∀ xs J H1, P xs → Rep X.K W Γ μ σ H1 → XT (hd W μ) H H1 → WalkD X.K (off (hd W μ) H1) J (xs.map enc) → R J H1) → wi σ H R)
    (hg : TgR X.K g ok put ks) (hk : ∀ k ∈ ks, k ∈ own.map (·.2)) (hok : ∀ xs, P xs → ∀ x ∈ xs, ok (enc x)) (hz : ∀ xs, P xs → xs.length ≤ 16777216)
    (ht : ∀ xs, P xs → ∀ x ∈ xs, ∀ W1, Wle W W1 → ∀ σ H, Rep X.K W1 (put (enc x) (wipeD (own.map (·.2)) Γ)) μ σ H → ∀ Q : Bool → Hp → Prop, (∀ H2, Rep X.K W1 (put (enc x) (wipeD (own.map (·.2)) Γ)) μ σ H2 → Q (c x) H2) → tt σ H Q)
    (he : ∀ xs, P xs → ∀ x ∈ xs, c x = true → ∀ W1, Wle W W1 → ∀ s H C cl fp, Ev (blkOf X scope s H C cl fp) W1 (put (enc x) (wipeD (own.map (·.2)) Γ)) μ elt (E x))
    {σ : L2.St} {H : Hp} (R : Rep X.K W Γ μ σ H) {Q : VK} (q : ∀ xs ys v H2, P xs → Paired E (xs.filter c) ys → Rep X.K W Γ μ σ H2 → XT (hd W μ) H H2 → Va X.K (off (hd W μ) H2) v (.list ys) → Q v H2) :
    tLc wi g tt (wEb X scope elt) (own.map (·.2)) σ H Q := by
  refine hi σ H R _ fun xs J H1 px R1 e1 wk D hD => ?_
  -- the invariant
  let vs := own.map (·.2)
  let Pv : Nat → Hp → Prop := fun i H' => ∃ ys, Paired E ((xs.take i).filter c) ys ∧ Rep X.K (W.now μ H1) (wipeD vs Γ) ((D, .lst ys) :: μ) (wipe σ vs) H'
  have R1n := R1.now
  have Rw : Rep X.K (W.now μ H1) (wipeD vs Γ) μ (wipe σ vs) H1 := ⟨R1n.wd, R1n.fr, R1n.sl.wipe vs, R1n.mu, R1n.nd⟩
  have h0 : Pv 0 (upd H1 D (.lst [])) := ⟨[], by simp only [List.take_zero, List.filter_nil]; exact .nil, Rw.born hD ⟨[], upd_same, .nil⟩⟩
  have nDmu : ∀ {i H'}, Pv i H' → Same (off (hd W μ) H1) H' := fun ⟨ys, _, Rp⟩ a o e => by
    obtain ⟨h1, h2⟩ := off_some e
    refine Rp.fr.keep a o (fun z => h1 (List.mem_append_left _ (Rep.isRow_M Rp.wd z))) ?_
    show off (μ.map (·.1)) H1 a = some o
    rw [off_out (fun z => h1 (List.mem_append_right _ z))]
    exact h2
  refine ⟨fun i m H' => m = xs.length - i ∧ i ≤ xs.length ∧ Pv i H', ⟨xs.length, by simp, Nat.zero_le _, h0⟩, ?_⟩
  rintro i m H' ⟨rfl, hile, p⟩
  by_cases hlt : i < xs.length
  · refine .inr ⟨wk.go i H' (by simpa using hlt) (nDmu p), Pv (i + 1), fun H2 p' => ⟨xs.length - (i + 1), by omega, rfl, hlt, p'⟩, fun v H2 y => ?_⟩
    obtain ⟨ys, hys, Rp⟩ := p
    obtain ⟨x, hx⟩ : ∃ x, xs[i]? = some x := ⟨xs[i], by simp [hlt]⟩
    have xin : x ∈ xs := List.mem_of_getElem? hx
    have dx : (xs.map enc)[i]? = some (enc x) := by rw [List.getElem?_map, hx]; rfl
    -- the pool off the hidden objects
    have pool : Same (off (hd W μ) H1) (off (hd (W.now μ H1) ((D, .lst ys) :: μ)) H') := fun a o e => by
      obtain ⟨h1, h2⟩ := off_some e
      have na : a ≠ D := fun z => by rw [z, hD] at h2; cases h2
      rw [off_out (fun z => by
        rcases List.mem_append.mp z with z | z
        · exact h1 (List.mem_append_left _ z)
        · rw [List.map_cons] at z
          rcases List.mem_cons.mp z with z | z
          · exact na z
          · exact h1 (List.mem_append_right _ z))]
      exact nDmu ⟨ys, hys, Rp⟩ a o e
    obtain ⟨s2, r2⟩ := wk.yld i (enc x) H' v H2 _ dx Rp.ne pool y
    have Rp2 := Rp.same s2
    refine hg.run _ v (enc x) (wipe σ vs) H2 _ _ r2 (hok xs px x xin) Rp2.sl fun σ3 sl3 l3 u3 => ?_
    refine ⟨wipe_eq hk l3 u3, ?_⟩
    have R3 : Rep X.K (W.now μ H1) (put (enc x) (wipeD vs Γ)) ((D, .lst ys) :: μ) σ3 H2 := ⟨Rp2.wd, Rp2.fr, sl3, Rp2.mu, Rp2.nd⟩
    have le3 : Wle W ((W.now μ H1).park μ D H2) := R1.now_le.trans (park_le R3)
    have back : ∀ {H4 : Hp} {ys' : List PyData}, Rep X.K (W.now μ H1) (put (enc x) (wipeD vs Γ)) ((D, .lst ys') :: μ) σ3 H4 → XT (hd (W.now μ H1) ((D, .lst ys) :: μ)) H2 H4 → Rep X.K (W.now μ H1) (wipeD vs Γ) ((D, .lst ys') :: μ) (wipe σ vs) H4 := fun R4 x4 =>
      ⟨R4.wd, R4.fr, (Rp2.sl.up x4 : _), R4.mu, R4.nd⟩
    refine ht xs px x xin _ le3 σ3 H2 R3.park _ fun H4 R4 => ?_
    have x4 := park_xt R3 R4
    have R4' := R3.unpark R4
    by_cases hc : c x = true
    · rw [hc]
      refine iteT fun s H0 C cl fp => ?_
      refine he xs px x xin hc _ (R1.now_le.trans (park_le R4')) s H0 C cl fp σ3 H4 R4'.park _ fun v5 d5 H5 R5 x5 r5 p5 => ?_
      have x5' := park_xt R4' R5
      have R5' := R4'.unpark R5
      obtain ⟨acc, ha, hv⟩ := (R5'.mu _ List.mem_cons_self).2
      refine ⟨acc, ha, ?_, ys ++ [d5], ?_, ?_⟩
      · rw [hv.length, ← plen hys]
        have l1 : ((xs.take i).filter c).length ≤ (xs.take i).length := List.length_filter_le ..
        rw [List.length_take] at l1
        have l2 := hz xs px
        show _ < 16777216
        omega
      · rw [take_succ_filter hx, if_pos hc]
        exact psnoc hys p5
      · have oc : off (hd ((W.now μ H1).park μ D H4) μ) H5 = off (hd (W.now μ H1) ((D, .lst ys) :: μ)) H5 := off_cong fun a => mem_park
        have z := back R5' (x4.trans x5')
        exact z.chg (j := 0) (m' := .lst (ys ++ [d5])) rfl ⟨acc ++ [v5], upd_same, hv.app (.cons (oc ▸ r5) .nil)⟩
    · have hc' : c x = false := by simpa using hc
      rw [hc']
      refine iteF ⟨ys, ?_, back R4' x4⟩
      rw [take_succ_filter hx, if_neg hc, List.append_nil]
      exact hys
  · have e : i = xs.length := by omega
    subst e
    refine .inl ⟨by have := wk.stop H' (nDmu p); simpa using this, ?_⟩
    have sm := nDmu p
    obtain ⟨ys, hys, Rp⟩ := p
    rw [List.take_length] at hys
    obtain ⟨acc, ha, hv, nl, sl⟩ := Rp.freeze
    have up : XT (hd W μ) H1 H' := fun a o e => by
      rw [off_out (off_some e).1]
      exact sm a o e
    have le1 : Wle W (W.now μ H1) := R1.now_le
    refine q xs ys (.ref D) H' px hys ⟨R.wd, Rp.fr.down le1, R1.sl.up up, fun p hp => ⟨(R1.mu p hp).1, (Rp.mu p (List.mem_cons_of_mem _ hp)).2.up (same_offs fun a ha => ?_) fun _ z => z⟩, R.nd⟩ (e1.trans up) (.lst (off_out nl |>.trans ha) hv)
    rcases List.mem_append.mp ha with z | z
    · exact List.mem_append_left _ z
    · exact List.mem_append_right _ (by rw [List.map_cons]; exact List.mem_cons_of_mem _ z)
/-- a comprehension's judgement: the list's data with Z -/
structure LcEv (X : Cx) (W : Wd) (Γ : List DV) (μ : Mu) (elt tg iter : Expr) (ifs : List Expr) (scope : Scope) (Z : List PyData → Prop) : Prop where
  ex : ∃ (wi : TI) (g : TG) (tt : TT) (te : TE) (own : List (Str × Nat)), PI X tg iter wi ∧ BlkOk X.N X.env.scope scope own ∧ (∀ s H C cl fp, PG (blkOf X scope s H C cl fp) tg g) ∧ (∀ s H C cl fp, PTs (blkOf X scope s H C cl fp) ifs tt) ∧
    (∀ s H C cl fp, PE (blkOf X scope s H C cl fp) elt te) ∧ ∀ σ H, Rep X.K W Γ μ σ H → ∀ Q : VK, (∀ ys v H2, Z ys → Rep X.K W Γ μ σ H2 → XT (hd W μ) H H2 → Va X.K (off (hd W μ) H2) v (.list ys) → Q v H2) → tLc wi g tt te (own.map (·.2)) σ H Q
theorem LcEv.ev {Z : List PyData → Prop} (h : LcEv X W Γ μ elt tg iter ifs scope Z) (hN : X.N.Nodup) (hc : X.calm = true := by rfl) (hs : ∀ x, foldedSetIterable iter X.env x = pure x := by intro _; rfl) :
    Ev X W Γ μ (.ListComp elt [⟨tg, iter, ifs, 0⟩] scope pos) (fun z => ∃ ys, z = .list ys ∧ Z ys) := fun σ H R Q k => by
  obtain ⟨wi, g, tt, te, own, h1, h2, h3, h4, h5, h6⟩ := h.ex
  exact (pe_lc hc hN h1 h2 h3 h4 h5 hs).w (h6 σ H R Q fun ys v H2 z R2 x2 r => k v _ H2 R2 x2 r ⟨ys, rfl, z⟩)
theorem LcEv.ed {ys : List PyData} (h : LcEv X W Γ μ elt tg iter ifs scope (fun z => z = ys)) (hN : X.N.Nodup) (hc : X.calm = true := by rfl) (hs : ∀ x, foldedSetIterable iter X.env x = pure x := by intro _; rfl) :
    Ed X W Γ μ (.ListComp elt [⟨tg, iter, ifs, 0⟩] scope pos) (.list ys) := (h.ev (pos := pos) hN hc hs |>.imp (B := fun z => z = .list ys) fun d ⟨l, e1, e2⟩ => by rw [e1, e2]).ed
/-- builders: over any target, without a test -/
theorem lc0 (own : List (Str × Nat)) (hi : IterV X W Γ μ tg iter enc P) (hg : TgR X.K g ok put ks) (hpg : ∀ s H C cl fp, PG (blkOf X scope s H C cl fp) tg g) (hok : ∀ xs, P xs → ∀ x ∈ xs, ok (enc x)) (hz : ∀ xs, P xs → xs.length ≤ 16777216)
    (he : ∀ xs, P xs → ∀ x ∈ xs, ∀ W1, Wle W W1 → ∀ s H C cl fp, Ev (blkOf X scope s H C cl fp) W1 (put (enc x) (wipeD (own.map (·.2)) Γ)) μ elt (E x)) (hb : BlkOk X.N X.env.scope scope own := by exact blkOk_by (by kernel_rfl)) (hk : ∀ k ∈ ks, k ∈ own.map (·.2) := by decide) :
    LcEv X W Γ μ elt tg iter [] scope (fun ys => ∃ xs, P xs ∧ Paired E xs ys) := ⟨by
  obtain ⟨wi, h1, h2⟩ := hi
  refine ⟨wi, g, tYes, wEb X scope elt, own, h1, hb, hpg, fun _ _ _ _ _ => pts_nil, wEb.pe, fun σ H R Q k => ?_⟩
  refine lc_read (c := fun _ => true) (E := E) h2 hg hk hok hz (fun _ _ _ _ _ _ σ H R Q q => q H R) (fun xs px x hx _ W1 l s H C cl fp => he xs px x hx W1 l s H C cl fp) R fun xs ys v H2 px hp R2 x2 r => k ys v H2 ⟨xs, px, ?_⟩ R2 x2 r
  have e : xs.filter (fun _ => true) = xs := List.filter_eq_self.mpr fun _ _ => rfl
  rw [e] at hp
  exact hp⟩
/-- .. with one -/
theorem lc1 (own : List (Str × Nat)) (hi : IterV X W Γ μ tg iter enc P) (hg : TgR X.K g ok put ks) (hpg : ∀ s H C cl fp, PG (blkOf X scope s H C cl fp) tg g) (hok : ∀ xs, P xs → ∀ x ∈ xs, ok (enc x)) (hz : ∀ xs, P xs → xs.length ≤ 16777216)
    (ht : ∀ xs, P xs → ∀ x ∈ xs, ∀ W1, Wle W W1 → ∀ s H C cl fp, EdT (blkOf X scope s H C cl fp) W1 (put (enc x) (wipeD (own.map (·.2)) Γ)) μ t (c x))
    (he : ∀ xs, P xs → ∀ x ∈ xs, c x = true → ∀ W1, Wle W W1 → ∀ s H C cl fp, Ev (blkOf X scope s H C cl fp) W1 (put (enc x) (wipeD (own.map (·.2)) Γ)) μ elt (E x)) (hb : BlkOk X.N X.env.scope scope own := by exact blkOk_by (by kernel_rfl)) (hk : ∀ k ∈ ks, k ∈ own.map (·.2) := by decide) :
    LcEv X W Γ μ elt tg iter [t] scope (fun ys => ∃ xs, P xs ∧ Paired E (xs.filter c) ys) := ⟨by
  obtain ⟨wi, h1, h2⟩ := hi
  refine ⟨wi, g, wTb X scope t, wEb X scope elt, own, h1, hb, hpg, fun s H C cl fp => pts_one (wTb.pt s H C cl fp), wEb.pe, fun σ H R Q k => ?_⟩
  exact lc_read (c := c) (E := E) h2 hg hk hok hz (fun xs px x hx W1 l σ H R Q q s H0 C cl fp => ht xs px x hx W1 l s H0 C cl fp σ H R Q fun H2 R2 _ => q H2 R2) he R fun xs ys v H2 px hp R2 x2 r => k ys v H2 ⟨xs, px, hp⟩ R2 x2 r⟩
end
/-- the walked thing, told -/
abbrev IterD (X : Cx) (W : Wd) (Γ : List DV) (μ : Mu) {α : Type} (tg iter : Expr) (enc : α → PyData) (xs : List α) : Prop := IterV X W Γ μ tg iter enc (fun l => l = xs)
theorem paired_map {α : Type} {f : α → PyData} : ∀ {xs : List α} {ys : List PyData}, Paired (fun x y => y = f x) xs ys → ys = xs.map f
  | _, _, .nil => rfl
  | _, _, .cons r t => by rw [r, paired_map t]; rfl
section
variable {X : Cx} {W : Wd} {Γ : List DV} {μ : Mu} {α : Type} {tg iter elt t : Expr} {ifs : List Expr} {scope : Scope} {pos p : Pos} {enc : α → PyData} {xs : List α} {c : α → Bool} {f : α → PyData} {n : Str}
/-- [elt for n in iter] -/
theorem lcN0 (k : Nat) (hi : IterD X W Γ μ (.Name n p) iter enc xs) (hz : xs.length ≤ 16777216) (f : α → PyData)
    (he : ∀ x ∈ xs, ∀ W1, Wle W W1 → ∀ s H C cl fp, Ed (blkOf X scope s H C cl fp) W1 ((wipeD [k] Γ).set k (.d (enc x))) μ elt (f x)) (hN : X.N.Nodup) (hn : X.N[k]? = some n := by rfl)
    (hv : ∀ s H C cl fp, Loc (blkOf X scope s H C cl fp).env.scope n := by intro _ _ _ _ _; first | exact Or.inl rfl | exact Or.inr rfl) (hf : ∀ s H C cl fp, (blkOf X scope s H C cl fp).fn n = true ∨ (blkOf X scope s H C cl fp).env.scope.names.lookup n = some .local := by intro _ _ _ _ _; first | exact .inr rfl | exact .inl rfl) (hb : BlkOk X.N X.env.scope scope [(n, k)] := by exact blkOk_by (by kernel_rfl)) :
    LcEv X W Γ μ elt (.Name n p) iter [] scope (fun ys => ys = xs.map f) := by
  have h := lc0 (E := fun x y => y = f x) (elt := elt) (scope := scope) [(n, k)] hi (tg_name (K := X.K) k) (fun s H C cl fp => pg_name hN hn (hv s H C cl fp) (hf s H C cl fp)) (fun _ _ _ _ => trivial) (fun _ e => e ▸ hz) (fun _ e x hx W1 l s H C cl fp => (he x (e ▸ hx) W1 l s H C cl fp).ev) hb (by simp)
  obtain ⟨wi, g, tt, te, own, h1, h2, h3, h4, h5, h6⟩ := h.ex
  exact ⟨wi, g, tt, te, own, h1, h2, h3, h4, h5, fun σ H R Q k => h6 σ H R Q fun ys v H2 ⟨l, e, hp⟩ => k ys v H2 (by rw [← e]; exact paired_map hp)⟩
end
end HW
set_option maxHeartbeats 4000000
namespace HW
open PySem PySem.Spec PyProof.Rows L2
section
variable {X : Cx} {W : Wd} {Γ : List DV} {μ : Mu} {α : Type} {tg iter e a b : Expr} {pos p : Pos} {enc : α → PyData} {P : List α → Prop} {xs : List α}
theorem IterV.imp {Q' : List α → Prop} (h : IterV X W Γ μ tg iter enc P) (i : ∀ xs, P xs → Q' xs) : IterV X W Γ μ tg iter enc Q' := by
  obtain ⟨wi, h1, h2⟩ := h
  exact ⟨wi, h1, fun σ H R R' k => h2 σ H R R' fun xs J H1 px => k xs J H1 (i xs px)⟩
theorem walk_list {K : PySem.W.Frag} {pool : Hp} {a : Addr} {vs : List V} {ds : List PyData} (h : pool a = some (.lst vs)) (hv : VaAll K pool vs ds) : WalkD K pool (Itl K a) ds where
  go := fun i H hi s => by
    have hl : i < vs.length := by rw [hv.length]; exact hi
    exact ⟨vs, vs[i], SqL.of (s a _ h), by simp [hl]⟩
  yld := fun i d H v H' L hd _ s y => by
    obtain ⟨rfl, y⟩ := y
    refine ⟨Same.refl _, ?_⟩
    obtain ⟨v2, e, r⟩ := hv.at hd
    have := y vs (SqL.of ((off_some (s a _ h)).2))
    rw [e] at this
    cases this
    exact r.up s
  stop := fun H s => ⟨vs, SqL.of (s a _ h), by rw [hv.length]; exact Nat.le_refl _⟩
theorem it_listV (h : Ev X W Γ μ iter (fun z => ∃ xs, z = .list (xs.map enc) ∧ P xs)) : IterV X W Γ μ tg iter enc P := ⟨_, pi_list wE.pe, fun σ H R R' k => h σ H R _ fun v d H1 R1 e1 r ⟨xs, e, px⟩ => by
  subst e
  cases r with
  | lst ha hv => exact ⟨_, rfl, ⟨_, SqL.of (off_some ha).2⟩, k xs _ H1 px R1 e1 (walk_list ha hv)⟩⟩
theorem it_list {ds : List PyData} (h : Ed X W Γ μ iter (.list ds)) (e : ds = xs.map enc := by rfl) : IterD X W Γ μ tg iter enc xs := it_listV (h.evP ⟨xs, by rw [e], rfl⟩)
/-- a sign as a text -/
abbrev sg (c : Nat) : PyData := .str ⟨#[c]⟩
theorem it_strV {P : List Nat → Prop} (h : Ev X W Γ μ iter (fun z => ∃ cs : List Nat, z = .str ⟨cs.toArray⟩ ∧ P cs)) : IterV X W Γ μ tg iter sg P := ⟨_, pi_str wE.pe, fun σ H R R' k => h σ H R _ fun v d H1 R1 e1 r ⟨cs, e, px⟩ => by
  subst e
  cases r
  refine ⟨_, rfl, k cs _ H1 px R1 e1 ⟨fun i H hi s => ?_, fun i d H v H' L hd _ s y => ?_, fun H s => ?_⟩⟩
  · show i < cs.toArray.size
    simpa using hi
  · obtain ⟨rfl, c, hc, rfl⟩ := y
    refine ⟨Same.refl _, ?_⟩
    have hc' : cs[i]? = some c := by simpa using hc
    rw [List.getElem?_map, hc'] at hd
    cases hd
    exact .str _
  · show cs.toArray.size ≤ _
    simp⟩
theorem it_str {cs : List Nat} {x : Str} (h : Ed X W Γ μ iter (.str x)) (e : x = ⟨cs.toArray⟩ := by rfl) : IterD X W Γ μ tg iter sg cs := it_strV (h.evP ⟨cs, by rw [e], rfl⟩)
/-- range(n), range(a, b) -/
abbrev nn (i : Nat) : PyData := .int (i : Int)
theorem walk_range {K : PySem.W.Frag} {pool : Hp} {lo : Int} {n : Nat} : WalkD K pool (Itr lo n) ((List.range n).map fun (i : Nat) => PyData.int (lo + (i : Int))) where
  go := fun i H hi s => by show i < n; simpa using hi
  yld := fun i d H v H' L hd _ s y => by
    obtain ⟨rfl, rfl⟩ := y
    refine ⟨Same.refl _, ?_⟩
    rw [List.getElem?_map] at hd
    obtain ⟨j, hj, rfl⟩ := Option.map_eq_some_iff.mp hd
    have hl : i < n := by
      have := (List.getElem?_eq_some_iff.mp hj).1
      simpa using this
    rw [List.getElem?_range hl] at hj
    cases hj
    exact .int _
  stop := fun H s => by show n ≤ _; simp
theorem it_rangeV {P : Nat → Prop} (h : EvA X W Γ μ [a] (fun ds => ∃ n : Int, ds = [.int n] ∧ -(2 ^ 62) ≤ n ∧ n < 2 ^ 62 ∧ P n.toNat)) (hm : X.mg "range" = none) (hg : Gl X "range" := by rfl) (hs : starEach [a] X.env = [(false, eval a X.env)] := by rfl) :
    IterV X W Γ μ tg (.Call (.Name "range" p) [a] [] pos) (fun i : Nat => PyData.int ((0 : Int) + (i : Int))) (fun l => ∃ n, l = List.range n ∧ P n) := ⟨_, pi_range1 hg hm wA.pa hs, fun σ H R R' k => h σ H R _ fun vs ds H1 R1 e1 r ⟨n, e, h1, h2, pn⟩ => by
  subst e
  cases r with
  | cons r rr =>
    cases rr
    cases r
    exact ⟨n, rfl, h1, h2, k _ _ H1 ⟨_, rfl, pn⟩ R1 e1 walk_range⟩⟩
theorem it_range {n : Nat} {z : Int} (h : Ed X W Γ μ a (.int z)) (hm : X.mg "range" = none) (e : z.toNat = n := by omega) (hz : -1000000000 ≤ z ∧ z ≤ 1000000000 := by omega) (hg : Gl X "range" := by rfl) (hs : starEach [a] X.env = [(false, eval a X.env)] := by rfl) :
    IterD X W Γ μ tg (.Call (.Name "range" p) [a] [] pos) nn (List.range n) := by
  have := it_rangeV (tg := tg) (p := p) (pos := pos) (P := fun m => m = n) ((ea_cons h ea_nil (by rw [hs]; rfl)).ev ⟨z, rfl, by omega, by omega, e⟩) hm hg hs
  obtain ⟨wi, h1, h2⟩ := this
  refine ⟨wi, h1, fun σ H R R' k => h2 σ H R R' fun xs J H1 px R1 e1 wk => ?_⟩
  obtain ⟨m, e, e3⟩ := px
  subst e
  subst e3
  refine k _ J H1 rfl R1 e1 ?_
  have e : (fun i : Nat => PyData.int ((0 : Int) + (i : Int))) = nn := by funext i; show PyData.int _ = PyData.int _; rw [Int.zero_add]
  rw [e] at wk
  exact wk
theorem it_range2 {n : Nat} {lo z : Int} (h1 : Ed X W Γ μ a (.int lo)) (h2 : Ed X W Γ μ b (.int z)) (hm : X.mg "range" = none) (e : (z - lo).toNat = n := by omega) (hz : (-1000000000 ≤ lo ∧ lo ≤ 1000000000) ∧ -1000000000 ≤ z ∧ z ≤ 1000000000 := by omega) (hg : Gl X "range" := by rfl)
    (hs : starEach [a, b] X.env = [(false, eval a X.env), (false, eval b X.env)] := by rfl) (hs2 : starEach [b] X.env = [(false, eval b X.env)] := by rfl) :
    IterD X W Γ μ tg (.Call (.Name "range" p) [a, b] [] pos) (fun i : Nat => PyData.int (lo + (i : Int))) (List.range n) := ⟨_, pi_range2 hg hm wA.pa hs hs2, fun σ H R R' k => (ea_cons h1 (ea_cons h2 ea_nil hs2) (by rw [hs, hs2])) σ H R _ fun vs H1 R1 e1 r => by
  cases r with
  | cons r rr =>
    cases rr with
    | cons r2 rr =>
      cases rr
      cases r
      cases r2
      refine ⟨lo, z, rfl, by omega, ?_⟩
      rw [e]
      exact k _ _ H1 rfl R1 e1 walk_range⟩
end
/-! ### for -/
section
variable {X : Cx} {W : Wd} {Γ : List DV} {μ : Mu} {α : Type} {tg iter : Expr} {body rest : List Stmt} {pos p : Pos} {enc : α → PyData} {P : List α → Prop} {g : TG} {ok : PyData → Prop} {put : PyData → List DV → List DV} {ks : List Nat} {D : Ends}
theorem Rep.wdown {K : PySem.W.Frag} {W W' : Wd} {Γ : List DV} {μ : Mu} {σ : L2.St} {H : Hp} (l : Wle W W') (ok : WdOk K W) (R : Rep K W' Γ μ σ H) : Rep K W Γ μ σ H := by
  refine Rep.down l ok (fun p hp => ?_) R
  cases e : W.H0 p.1 with
  | none => rfl
  | some o =>
    have h := (R.mu p hp).1
    by_cases q : W.isRow p.1
    · have hM := l.m _ (Rep.isRow_M ok q)
      exact absurd h (R.wd.hid _ hM)
    · rw [l.keep _ o q e] at h
      cases h
theorem run_forG (hi : IterV X W Γ μ tg iter enc P) (hg : TgR X.K g ok put ks) (hpg : PG X tg g) (hok : ∀ xs, P xs → ∀ x ∈ xs, ok (enc x)) (J : List α → Nat → List DV → Mu → Prop) (h0 : ∀ xs, P xs → J xs 0 Γ μ)
    (hs : ∀ xs, P xs → ∀ W1, Wle W W1 → ∀ i x Γ' μ', xs[i]? = some x → J xs i Γ' μ' → Run X W1 (put (enc x) Γ') μ' body { D with nx := StP X.K W1 (J xs (i + 1)), ct := StP X.K W1 (J xs (i + 1)), bk := wSs X rest D })
    (hd' : ∀ xs, P xs → ∀ Γ' μ', J xs xs.length Γ' μ' → Run X W Γ' μ' rest D) (hp : PassesOwn (model X.prog X.w) X.A X.env X.xe := by exact PassesOwn.never) (hc : X.calm = true := by rfl) (hf : ∀ x, foldedSetIterable iter X.env x = pure x := by intro _; rfl) :
    Run X W Γ μ (.For tg iter body [] pos :: rest) D := fun σ H R => by
  obtain ⟨wi, h1, h2⟩ := hi
  refine wSs_cons ((ps_for hp hc h1 hpg wSs.ps hf).w ?_)
  refine h2 σ H R _ fun xs J' H1 px R1 e1 wk => ?_
  have le1 : Wle W (W.now μ H1) := R1.now_le
  refine ⟨fun i m σ H => m = xs.length - i ∧ i ≤ xs.length ∧ StP X.K (W.now μ H1) (J xs i) σ H, ⟨xs.length, by simp, Nat.zero_le _, Γ, μ, h0 xs px, R1.now⟩, ?_⟩
  rintro i m σ' H' ⟨rfl, hile, Γ', μ', j, R'⟩
  have pool : Same (off (hd W μ) H1) (off (hd (W.now μ H1) μ') H') := fun a o e => by
    obtain ⟨h1, h2⟩ := off_some e
    have z : (W.now μ H1).H0 a = some o := by
      show off (μ.map (·.1)) H1 a = some o
      rw [off_out (fun z => h1 (List.mem_append_right _ z))]
      exact h2
    rw [off_out (fun q => by
      rcases List.mem_append.mp q with q | q
      · exact h1 (List.mem_append_left _ q)
      · obtain ⟨p, hp, rfl⟩ := List.mem_map.mp q
        rw [(R'.mu p hp).1] at z
        cases z)]
    exact R'.fr.keep a o (fun q => h1 (List.mem_append_left _ (Rep.isRow_M R1.wd q))) z
  have pool0 : Same (off (hd W μ) H1) H' := fun a o e => (off_some (pool a o e)).2
  by_cases hlt : i < xs.length
  · refine .inr ⟨wk.go i H' (by simpa using hlt) pool0, StP X.K (W.now μ H1) (J xs (i + 1)), fun σ2 H2 q => ⟨xs.length - (i + 1), by omega, rfl, hlt, q⟩, fun v H2 y => ?_⟩
    obtain ⟨x, hx⟩ : ∃ x, xs[i]? = some x := ⟨xs[i], by simp [hlt]⟩
    obtain ⟨s2, r2⟩ := wk.yld i (enc x) H' v H2 _ (by rw [List.getElem?_map, hx]; rfl) R'.ne pool y
    have R2 := R'.same s2
    refine hg.run _ v (enc x) σ' H2 _ _ r2 (hok xs px x (List.mem_of_getElem? hx)) R2.sl fun σ3 sl3 _ _ => ?_
    exact hs xs px _ le1 i x Γ' μ' hx j σ3 H2 ⟨R2.wd, R2.fr, sl3, R2.mu, R2.nd⟩
  · have e : i = xs.length := by omega
    subst e
    refine .inl ⟨by have := wk.stop H' pool0; simpa using this, ?_⟩
    exact hd' xs px Γ' μ' j σ' H' (R'.wdown le1 R.wd)
/-- for n in iter -/
theorem run_for {xs : List α} {n : Str} (k : Nat) (hi : IterD X W Γ μ (.Name n p) iter enc xs) (J : Nat → List DV → Mu → Prop) (h0 : J 0 Γ μ)
    (hs : ∀ W1, Wle W W1 → ∀ i x Γ' μ', xs[i]? = some x → J i Γ' μ' → Run X W1 (Γ'.set k (.d (enc x))) μ' body { D with nx := StP X.K W1 (J (i + 1)), ct := StP X.K W1 (J (i + 1)), bk := wSs X rest D })
    (hd' : ∀ Γ' μ', J xs.length Γ' μ' → Run X W Γ' μ' rest D) (hN : X.N.Nodup) (hn : X.N[k]? = some n := by rfl) (hx : Loc X.env.scope n := by first | exact Or.inl rfl | exact Or.inr rfl) (hff : X.fn n = true ∨ X.env.scope.names.lookup n = some .local := by first | exact .inr rfl | exact .inl rfl)
    (hp : PassesOwn (model X.prog X.w) X.A X.env X.xe := by exact PassesOwn.never) (hc : X.calm = true := by rfl) (hf : ∀ x, foldedSetIterable iter X.env x = pure x := by intro _; rfl) :
    Run X W Γ μ (.For (.Name n p) iter body [] pos :: rest) D :=
  run_forG hi (tg_name k) (pg_name hN hn hx hff) (fun _ _ _ _ => trivial) (fun _ => J) (fun _ _ => h0) (fun _ e W1 l i x Γ' μ' h j => hs W1 l i x Γ' μ' (e ▸ h) j) (fun _ e Γ' μ' j => hd' Γ' μ' (e ▸ j)) hp hc hf
/-- the end of a turn -/
theorem run_turn {Φ : List DV → Mu → Prop} (hD : D.nx = StP X.K W Φ := by rfl) (h : Φ Γ μ) : Run X W Γ μ [] D := run_nil fun σ H R => by
  rw [hD]
  exact ⟨Γ, μ, h, R⟩
end
/-! ### defs -/
/-- a def of data: R tells what comes -/
def spR (K : PySem.W.Frag) (R : List PyData → PyData → Prop) : Sp := fun vs H Q _ => ∃ (L : List Addr) (ds : List PyData) (d : PyData), (∀ a ∈ L, H a ≠ none) ∧ VaAll K (off L H) vs ds ∧ R ds d ∧ ∀ v H', Same H H' → Va K (off L H') v d → Q v H'
/-- a def that draws from the row r (its first argument) -/
def spW (K : PySem.W.Frag) (pre : List PyData → Prop) (post : List PyData → PyData → Prop) : Sp := fun vs H Q _ => ∃ (M : List Addr) (r scr : Addr) (ns : List Int) (ws : List V) (ds : List PyData), vs = .ref r :: ws ∧ (∀ a ∈ M, H a ≠ none) ∧ r ∈ M ∧
  RowC H r scr ∧ SqL K H scr (ns.map V.int) ∧ scr ≠ r ∧ ns.length ≤ 63 ∧ VaAll K (off M H) ws ds ∧ pre ds ∧ ∀ v H' d, post ds d → (∀ a o, a ≠ r → H a = some o → H' a = some o) → RowC H' r scr → Va K (off M H') v d → Q v H'
/-- a def of the text, ready to be called -/
structure Fd (P : Program) (w : World) (K : PySem.W.Frag) (mg : Str → Option Value) (base : Heap) (k : Nat) (x : Str) (ps : List Str) (sp : Sp) : Prop where
  ex : ∃ (f : Addr) (fd : FuncData), FnOk P w K mg base CX0 k f fd ps sp ∧ mg x = some (.ref f) ∧ PySem.W.keepIn K (.ref f) = true ∧ Binds K fd ps []
section
variable {P : Program} {w : World} {K : PySem.W.Frag} {mg : Str → Option Value} {base : Heap} {x qual : Str} {params : Arguments} {body : List Stmt} {scope : Scope} {f : Addr} {fd : FuncData} {N ps : List Str} {k : Nat}
theorem slots_start {H : Hp} : ∀ {vs : List V} {ds : List PyData} (m : Nat), VaAll K H vs ds → Slots K H (vs.map some ++ List.replicate m none) (ds.map .d ++ List.replicate m .no) := fun {vs ds} m h => by
  refine ⟨by simp [h.length], fun i dv q => ?_⟩
  by_cases hl : i < ds.length
  · rw [List.getElem?_append_left (by simpa using hl), List.getElem?_map] at q
    obtain ⟨d, hd, rfl⟩ := Option.map_eq_some_iff.mp q
    obtain ⟨v, hv, r⟩ := h.at hd
    refine ⟨some v, ?_, v, rfl, r⟩
    rw [List.getElem?_append_left (by rw [List.length_map, h.length]; exact hl), List.getElem?_map, hv]
    rfl
  · rw [List.getElem?_append_right (by simp; omega), List.length_map] at q
    have hm : i - ds.length < m := by
      have := (List.getElem?_eq_some_iff.mp q).1
      simpa using this
    rw [List.getElem?_replicate, if_pos hm] at q
    cases q
    refine ⟨none, ?_, trivial⟩
    rw [List.getElem?_append_right (by simp [h.length]; omega), List.length_map, h.length, List.getElem?_replicate, if_pos hm]
theorem fd_pure (F : FunD K x qual params body scope [] [] f fd) (S : FnScope N ps scope) (R : List PyData → PyData → Prop) (hlen : ∀ ds d, R ds d → ds.length = ps.length)
    (h : ∀ (cdv : Value) (A : Around) (outer : List Env) (s : Shared) (H : Hp) (E : XK), Room k (A.deeper (envOfC qual scope s.heap.objs.size f cdv)) → ∀ (W : Wd) (ds : List PyData) (d : PyData), W.row = none → R ds d →
      Run (cxOf CX0 P w K mg base N qual scope f cdv A outer s H E).nox W (ds.map .d ++ List.replicate (N.length - ps.length) .no) [] body { nx := fun _ H' => RetP K W (fun z => z = d) .non H', rt := RetP K W (fun z => z = d) }) :
    FnOk P w K mg base CX0 (k + 1) f fd ps (spR K R) := by
  refine F.ok S (fun vs H Q E ⟨L, ds, d, _, hv, r, _⟩ => by rw [hv.length]; exact hlen ds d r) fun cdv A outer s H vs Q E hr ⟨L, ds, d, hL, hv, r, q⟩ => ?_
  refine ⟨_, PSs.nox wSs.ps, ?_⟩
  let W : Wd := ⟨H, L, none⟩
  have ok : WdOk K W := ⟨hL, fun _ _ _ e => nomatch e⟩
  have nr : ∀ a, ¬ W.isRow a := fun a ⟨_, _, e⟩ => nomatch e
  have sl : Slots K (off (hd W []) H) (start N vs) (ds.map .d ++ List.replicate (N.length - ps.length) .no) := by
    show Slots K (off (L ++ []) H) (vs.map some ++ List.replicate (N.length - vs.length) none) _
    rw [List.append_nil, hv.length, hlen ds d r]
    exact slots_start _ hv
  have ret : ∀ v H', RetP K W (fun z => z = d) v H' → Q v H' := fun v H' ⟨fr, d', e, hv'⟩ => q v H' (fun a o e => fr.keep a o (nr a) e) (e ▸ hv')
  intro pins st I
  have z := h cdv A outer s H E hr W ds d rfl r (start N vs) H ⟨ok, ⟨fun _ _ _ e => e, fun _ _ _ e => nomatch e⟩, sl, fun _ z => (nomatch z), List.nodup_nil⟩ pins st I
  refine wpAny_mono z (fun fl s' hq => ?_) fun _ _ z => z
  cases fl with
  | next =>
    obtain ⟨σ', H', I', q'⟩ := hq
    exact ⟨σ', H', I', ret _ _ q'⟩
  | brk => exact hq
  | cont => exact hq
  | ret u =>
    obtain ⟨v, σ', H', I', r', q'⟩ := hq
    exact ⟨v, σ', H', I', r', ret _ _ q'⟩
theorem fd_row (F : FunD K x qual params body scope [] [] f fd) (S : FnScope N ps scope) (pre : List PyData → Prop) (post : List PyData → PyData → Prop) (hlen : ∀ ds, pre ds → ds.length + 1 = ps.length)
    (h : ∀ (cdv : Value) (A : Around) (outer : List Env) (s : Shared) (H : Hp) (E : XK), Room k (A.deeper (envOfC qual scope s.heap.objs.size f cdv)) → ∀ (W : Wd) (r scr : Addr) (ns : List Int) (ds : List PyData), W.row = some (r, scr, ns) → pre ds →
      Run (cxOf CX0 P w K mg base N qual scope f cdv A outer s H E).nox W (.r r :: (ds.map .d ++ List.replicate (N.length - ps.length) .no)) [] body { nx := fun _ H' => RetP K W (post ds) .non H', rt := RetP K W (post ds) }) :
    FnOk P w K mg base CX0 (k + 1) f fd ps (spW K pre post) := by
  refine F.ok S (fun vs H Q E ⟨M, r, scr, ns, ws, ds, e, _, _, _, _, _, _, hv, hpre, _⟩ => by rw [e, List.length_cons, hv.length]; exact hlen ds hpre) fun cdv A outer s H vs Q E hr ⟨M, r, scr, ns, ws, ds, e, hM, hrM, hR, hS, hne, hns, hv, hp, q⟩ => ?_
  refine ⟨_, PSs.nox wSs.ps, ?_⟩
  let W : Wd := ⟨H, M, some (r, scr, ns)⟩
  have ok : WdOk K W := ⟨hM, fun r' s' n' e => by cases e; exact ⟨hrM, hS, hne, hns⟩⟩
  have nr : ∀ a, a ≠ r → ¬ W.isRow a := fun a n ⟨_, _, e⟩ => by cases e; exact n rfl
  have sl : Slots K (off (hd W []) H) (start N vs) (.r r :: (ds.map .d ++ List.replicate (N.length - ps.length) .no)) := by
    show Slots K (off (M ++ []) H) (vs.map some ++ List.replicate (N.length - vs.length) none) _
    rw [List.append_nil, e, List.length_cons, hv.length, hlen ds hp]
    have z := slots_start (K := K) (N.length - ps.length) hv
    refine ⟨by simp [z.len, hv.length], fun i dv hi => ?_⟩
    cases i with
    | zero => cases hi; exact ⟨_, rfl, rfl⟩
    | succ i => exact z.at_ i dv hi
  have ret : ∀ v H', RetP K W (post ds) v H' → Q v H' := fun v H' ⟨fr, d', e, hv'⟩ => q v H' d' e (fun a o n e => fr.keep a o (nr a n) e) (fr.row _ _ _ rfl) hv'
  intro pins st I
  have z := h cdv A outer s H E hr W r scr ns ds rfl hp (start N vs) H ⟨ok, ⟨fun _ _ _ e => e, fun r' s' n' e => by cases e; exact hR⟩, sl, fun _ z => (nomatch z), List.nodup_nil⟩ pins st I
  refine wpAny_mono z (fun fl s' hq => ?_) fun _ _ z => z
  cases fl with
  | next =>
    obtain ⟨σ', H', I', q'⟩ := hq
    exact ⟨σ', H', I', ret _ _ q'⟩
  | brk => exact hq
  | cont => exact hq
  | ret u =>
    obtain ⟨v, σ', H', I', r', q'⟩ := hq
    exact ⟨v, σ', H', I', r', ret _ _ q'⟩
theorem Fd.mono {j : Nat} {sp : Sp} (F : Fd P w K mg base j x ps sp) (h : j ≤ k) : Fd P w K mg base k x ps sp := by
  obtain ⟨f, fd, h1, h2⟩ := F.ex
  exact ⟨f, fd, h1.mono h, h2⟩
end
/-! ### calls of defs -/
section
variable {X : Cx} {W : Wd} {Γ : List DV} {μ : Mu} {e : Expr} {es : List Expr} {pos p : Pos} {x : Str} {ps : List Str} {k : Nat} {d : PyData} {ds : List PyData}
theorem ev_call {R : List PyData → PyData → Prop} {A : List PyData → Prop} {B : PyData → Prop} (F : Fd X.prog X.w X.K X.mg X.base k x ps (spR X.K R)) (hr : Room k X.A) (ha : EvA X W Γ μ (e :: es) A) (hR : ∀ ds, A ds → ∃ d, R ds d ∧ B d) (hg : Gl X x := by rfl)
    (hdb : (x == ("__debug__" : Str)) = false := by decide) (he : starEach (e :: es) X.env = (false, eval e X.env) :: starEach es X.env := by rfl) (hpl : (backTo pos (starEach es X.env)).any (·.1) = false := by rfl) : Ev X W Γ μ (.Call (.Name x p) (e :: es) [] pos) B := fun σ H R Q q => by
  obtain ⟨f, fd, h1, h2, h3, h4⟩ := F.ex
  refine (pe_call h1 hr hg h2 h3 h4 .nil pass0 wA.pa hdb he hpl).w (ha σ H R _ fun vs ds H2 R2 e2 r2 pa => ?_)
  obtain ⟨d, hd, pb⟩ := hR ds pa
  refine ⟨HW.hd W μ, ds, d, R2.ne, by rw [List.append_nil]; exact r2, hd, fun v H3 s3 r3 => q v d H3 (R2.same s3) (e2.trans (XT.same s3)) r3 pb⟩
theorem ed_call {R : List PyData → PyData → Prop} (F : Fd X.prog X.w X.K X.mg X.base k x ps (spR X.K R)) (hr : Room k X.A) (ha : EdA X W Γ μ (e :: es) ds) (hR : R ds d) (hg : Gl X x := by rfl)
    (hdb : (x == ("__debug__" : Str)) = false := by decide) (he : starEach (e :: es) X.env = (false, eval e X.env) :: starEach es X.env := by rfl) (hpl : (backTo pos (starEach es X.env)).any (·.1) = false := by rfl) : Ed X W Γ μ (.Call (.Name x p) (e :: es) [] pos) d :=
  (ev_call (B := fun z => z = d) F hr (ha.ev (P := fun l => l = ds) rfl) (fun _ e => ⟨d, e ▸ hR, rfl⟩) hg hdb he hpl).ed
/-- f(row, ..), f a def that draws -/
theorem ev_draw {pre : List PyData → Prop} {post : List PyData → PyData → Prop} {A : List PyData → Prop} {n : Str} {p2 : Pos} {r scr : Addr} {ns : List Int} (F : Fd X.prog X.w X.K X.mg X.base k x ps (spW X.K pre post)) (hr : Room k X.A) (hrow : W.row = some (r, scr, ns)) (i : Nat) (ha : EvA X W Γ μ es A) (hR : ∀ ds, A ds → pre ds)
    (hi : Γ[i]? = some (.r r) := by rfl) (hN : X.N[i]? = some n := by rfl) (hv : Vis X.env.scope n := by first | exact Or.inl rfl | exact Or.inr (Or.inl rfl) | exact Or.inr (Or.inr rfl))
    (h1 : (n == ("__debug__" : Str)) = false := by decide) (h2 : (n == ("__classdict__" : Str)) = false := by decide) (hg : Gl X x := by rfl)
    (hdb : (x == ("__debug__" : Str)) = false := by decide) (he : starEach (.Name n p2 :: es) X.env = (false, eval (.Name n p2) X.env) :: starEach es X.env := by rfl) (hpl : (backTo pos (starEach es X.env)).any (·.1) = false := by rfl) :
    Ev X W Γ μ (.Call (.Name x p) (.Name n p2 :: es) [] pos) (fun d => ∃ ds, A ds ∧ post ds d) := fun σ H R Q q => by
  obtain ⟨f, fd, g1, g2, g3, g4⟩ := F.ex
  refine (pe_call g1 hr hg g2 g3 g4 .nil pass0 (pa_cons (pe_var hN hv h1 h2) wA.pa he) hdb he hpl).w ?_
  obtain ⟨o, e1, e2⟩ := R.sl.at_ i _ hi
  have e2' : o = some (.ref r) := e2
  subst e2'
  refine ⟨_, e1, ha σ H R _ fun vs ds H2 R2 e2 r2 pa => ?_⟩
  obtain ⟨w1, w2, w3, w4⟩ := R2.wd.row r scr ns hrow
  have isr : W.isRow r := ⟨scr, ns, hrow⟩
  have sq : SqL X.K H2 scr (ns.map V.int) := SqL.up (fun o e => R2.fr.keep scr o (fun ⟨s2, n2, z⟩ => by
    rw [hrow] at z
    cases z
    exact w3 rfl) e) w2
  refine ⟨hd W μ, r, scr, ns, vs, ds, by rw [List.append_nil], R2.ne, List.mem_append_left _ w1, R2.fr.row r scr ns hrow, sq, w3, w4, r2, hR ds pa, fun v H3 d pd keep rc r3 => ?_⟩
  have nor : ∀ a, ¬ W.isRow a → a ≠ r := fun a n z => n (z ▸ isr)
  have xt : XT (hd W μ) H2 H3 := fun a o e => by
    obtain ⟨h1, h2⟩ := off_some e
    rw [off_out h1]
    exact keep a o (fun z => h1 (List.mem_append_left _ (z ▸ w1))) h2
  have R3 : Rep X.K W Γ μ σ H3 := ⟨R2.wd, ⟨fun a o n e => keep a o (nor a n) (R2.fr.keep a o n e), fun r' s' n' e => by
    rw [hrow] at e
    cases e
    exact rc⟩, R2.sl.up xt, fun p hp => ⟨(R2.mu p hp).1, (R2.mu p hp).2.up xt fun o e => keep _ o (fun z => by
      have := (R2.mu p hp).1
      rw [z] at this
      exact R2.wd.hid r w1 this) e⟩, R2.nd⟩
  exact q v d H3 R3 (e2.trans xt) r3 ⟨ds, pa, pd⟩
end
end HW
set_option maxHeartbeats 4000000
namespace HW
open PySem PySem.Spec PyProof.Rows L2
open SX (S)
section
variable {X : Cx}
theorem IxR.to {r r' : R2} (h : IxR X r) (i : ∀ a b H Q, r' a b H Q → r a b H Q) : IxR X r' := fun e1 e2 pins s σ H x y v u Q I rx ry q hs => h e1 e2 pins s σ H x y v u Q I rx ry (i _ _ _ _ q) hs
theorem MtR.to {id : String} {r r' : V → List V → Hp → VK → Prop} (h : MtR X id r) (i : ∀ x vs H Q, r' x vs H Q → r x vs H Q) : MtR X id r' := fun pins s σ H x xs v us Q I rx rv q => h pins s σ H x xs v us Q I rx rv (i _ _ _ _ q)
/-! ### numbers -/
variable {i j : Int}
theorem o_add : OpD X (binaryOp .Add) (.int i) (.int j) (.int (i + j)) := OpR.to op_add fun a b H Q ⟨L, _, ha, hb, k⟩ => by cases ha; cases hb; exact ⟨i, j, rfl, rfl, k _ _ (Same.refl _) (.int _)⟩
theorem o_sub : OpD X (binaryOp .Sub) (.int i) (.int j) (.int (i - j)) := OpR.to op_sub fun a b H Q ⟨L, _, ha, hb, k⟩ => by cases ha; cases hb; exact ⟨i, j, rfl, rfl, k _ _ (Same.refl _) (.int _)⟩
theorem c_lt : OpD X (compareOp .Lt) (.int i) (.int j) (.bool (decide (i < j))) := OpR.to op_lt fun a b H Q ⟨L, _, ha, hb, k⟩ => by cases ha; cases hb; exact ⟨i, j, rfl, rfl, k _ _ (Same.refl _) (.bl _)⟩
theorem c_le : OpD X (compareOp .LtE) (.int i) (.int j) (.bool (decide (i ≤ j))) := OpR.to op_le fun a b H Q ⟨L, _, ha, hb, k⟩ => by cases ha; cases hb; exact ⟨i, j, rfl, rfl, k _ _ (Same.refl _) (.bl _)⟩
theorem c_gt : OpD X (compareOp .Gt) (.int i) (.int j) (.bool (decide (j < i))) := OpR.to op_gt fun a b H Q ⟨L, _, ha, hb, k⟩ => by cases ha; cases hb; exact ⟨i, j, rfl, rfl, k _ _ (Same.refl _) (.bl _)⟩
theorem c_eqI : OpD X (compareOp .Eq) (.int i) (.int j) (.bool (decide (i = j))) := OpR.to op_eq fun a b H Q ⟨L, _, ha, hb, k⟩ => by
  cases ha; cases hb
  refine ⟨rfl, ?_⟩
  rw [dec_int, Bool.beq_eq_decide_eq]
  exact k _ _ (Same.refl _) (.bl _)
theorem c_neI : OpD X (compareOp .NotEq) (.int i) (.int j) (.bool (!decide (i = j))) := OpR.to op_ne fun a b H Q ⟨L, _, ha, hb, k⟩ => by
  cases ha; cases hb
  refine ⟨rfl, ?_⟩
  rw [dec_int, Bool.beq_eq_decide_eq]
  exact k _ _ (Same.refl _) (.bl _)
/-! ### any data -/
theorem c_eqD {x y : PyData} (hu : X.A.units + 64 < cLine) (hx : SeqAt.shaped x = true) (hy : SeqAt.shaped y = true) : OpD X (compareOp .Eq) x y (.bool (PyData.eqv x y)) := OpR.to (op_eqD hu) fun a b H Q ⟨L, _, ha, hb, k⟩ =>
  ⟨x, y, (ha.up same_off).dp (nod_of_lay (SeqAt.canLay_of_shaped hx)), (hb.up same_off).dp (nod_of_lay (SeqAt.canLay_of_shaped hy)), hx, hy, k _ _ (Same.refl _) (.bl _)⟩
theorem c_neD {x y : PyData} (hu : X.A.units + 64 < cLine) (hx : SeqAt.shaped x = true) (hy : SeqAt.shaped y = true) : OpD X (compareOp .NotEq) x y (.bool (!PyData.eqv x y)) := OpR.to (op_neD hu) fun a b H Q ⟨L, _, ha, hb, k⟩ =>
  ⟨x, y, (ha.up same_off).dp (nod_of_lay (SeqAt.canLay_of_shaped hx)), (hb.up same_off).dp (nod_of_lay (SeqAt.canLay_of_shaped hy)), hx, hy, k _ _ (Same.refl _) (.bl _)⟩
/-! ### texts -/
variable {l m : List Nat}
theorem S_eq {a b : List Nat} : decide (V.str (S a) = V.str (S b)) = decide (a = b) := by rw [dec_str, SX.S_beq_eq]
theorem c_eqS : OpD X (compareOp .Eq) (.str (S l)) (.str (S m)) (.bool (decide (l = m))) := OpR.to op_eq fun a b H Q ⟨L, _, ha, hb, k⟩ => by
  cases ha; cases hb
  refine ⟨rfl, ?_⟩
  rw [S_eq]
  exact k _ _ (Same.refl _) (.bl _)
theorem o_adds (h : l.length + m.length ≤ 16777216) : OpD X (binaryOp .Add) (.str (S l)) (.str (S m)) (.str (S (l ++ m))) := OpR.to op_add_str fun a b H Q ⟨L, _, ha, hb, k⟩ => by
  cases ha; cases hb
  refine ⟨_, _, rfl, rfl, by rw [SX.S_len, SX.S_len]; exact h, ?_⟩
  rw [SX.S_cat]
  exact k _ _ (Same.refl _) (.str _)
/-- one sign in a text -/
theorem c_inS {c : Nat} : OpD X (compareOp .In) (sg c) (.str (S m)) (.bool (decide (c ∈ m))) := OpR.to op_in_sign fun a b H Q ⟨L, _, ha, hb, k⟩ => by
  cases ha; cases hb
  exact ⟨c, S m, rfl, rfl, k _ _ (Same.refl _) (.bl _)⟩
theorem at_nat {α : Type} {l : List α} {i : Int} {n : Nat} {c : α} (e : i = (n : Int)) (h : l[n]? = some c) : atI l i = some c := by
  rw [e]
  have hl := (List.getElem?_eq_some_iff.mp h).1
  unfold atI ixN
  rw [if_pos (Int.natCast_nonneg n), if_pos (by omega)]
  simpa using h
theorem i_str {c : Nat} {n : Nat} (hl : l.length ≤ 16777216) (hc : l[n]? = some c) (e : i = (n : Int) := by rfl) : IxD X (.str (S l)) (.int i) (sg c) := IxR.to ix_str fun a b H Q ⟨L, _, ha, hb, k⟩ => by
  cases ha; cases hb
  exact ⟨S l, i, c, rfl, rfl, by rw [SX.S_len]; exact hl, at_nat e hc, k _ _ (Same.refl _) (.str _)⟩
/-- s[-1] -/
theorem at_last {α : Type} {l : List α} {c : α} (h : l.getLast? = some c) : atI l (-1) = some c := by
  have hl : l ≠ [] := by rintro rfl; simp at h
  have hp : 0 < l.length := List.length_pos_iff.mpr hl
  unfold atI ixN
  rw [if_neg (by decide), if_pos (by omega)]
  have e : ((-1 : Int) + (l.length : Int)).toNat = l.length - 1 := by omega
  show l[((-1 : Int) + (l.length : Int)).toNat]? = some c
  rw [e, ← h, List.getLast?_eq_getElem?]
theorem i_strL {c : Nat} (hl : l.length ≤ 16777216) (hc : l.getLast? = some c) : IxD X (.str (S l)) (.int (-1)) (sg c) := IxR.to ix_str fun a b H Q ⟨L, _, ha, hb, k⟩ => by
  cases ha; cases hb
  exact ⟨S l, -1, c, rfl, rfl, by rw [SX.S_len]; exact hl, at_last hc, k _ _ (Same.refl _) (.str _)⟩
theorem c_lenS (h : l.length ≤ 16777216) : CallD X (.builtin "len") [.str (S l)] (nn l.length) := CallR.to call_len_str fun vs H Q ⟨L, _, hv, k⟩ => by
  cases hv with
  | cons h1 h2 =>
    cases h2; cases h1
    refine ⟨_, rfl, by rw [SX.S_len]; exact h, ?_⟩
    rw [SX.S_len]
    exact k _ _ (Same.refl _) (.int _)
/-! ### lists, tuples -/
variable {ds es : List PyData} {d : PyData}
theorem c_lenL : CallD X (.builtin "len") [.list ds] (nn ds.length) := CallR.to call_len_seq fun vs H Q ⟨L, _, hv, k⟩ => by
  cases hv with
  | cons h1 h2 =>
    cases h2
    cases h1 with
    | lst ha hs => exact ⟨_, _, rfl, .inl (SqL.of (off_some ha).2), by rw [hs.length]; exact k _ _ (Same.refl _) (.int _)⟩
theorem c_lenT : CallD X (.builtin "len") [.tuple ds] (nn ds.length) := CallR.to call_len_seq fun vs H Q ⟨L, _, hv, k⟩ => by
  cases hv with
  | cons h1 h2 =>
    cases h2
    cases h1 with
    | tup ha hs => exact ⟨_, _, rfl, .inr (SqT.up same_off ha), by rw [hs.length]; exact k _ _ (Same.refl _) (.int _)⟩
theorem i_list {n : Nat} (hd : ds[n]? = some d) (e : i = (n : Int) := by rfl) : IxD X (.list ds) (.int i) d := IxR.to ix_list fun a b H Q ⟨L, _, ha, hb, k⟩ => by
  cases hb
  cases ha with
  | lst ha hs =>
    obtain ⟨v, hv, r⟩ := hs.at hd
    exact ⟨_, _, i, v, rfl, rfl, SqL.of (off_some ha).2, at_nat e hv, k _ _ (Same.refl _) r⟩
theorem i_tup {n : Nat} (hd : ds[n]? = some d) (e : i = (n : Int) := by rfl) : IxD X (.tuple ds) (.int i) d := IxR.to ix_tup fun a b H Q ⟨L, _, ha, hb, k⟩ => by
  cases hb
  cases ha with
  | tup ha hs =>
    obtain ⟨v, hv, r⟩ := hs.at hd
    exact ⟨_, _, i, v, rfl, rfl, SqT.up same_off ha, at_nat e hv, k _ _ (Same.refl _) r⟩
theorem c_all {bs : List Bool} (hc : X.calm = true) : CallD X (.builtin "all") [.list (bs.map .bool)] (.bool (bs.all id)) := CallR.to (cr_all hc) fun vs H Q ⟨L, _, hv, k⟩ => by
  cases hv with
  | cons h1 h2 =>
    cases h2
    cases h1 with
    | lst ha hs => exact ⟨_, bs, rfl, by rw [← hs.bls]; exact SqL.of (off_some ha).2, k _ _ (Same.refl _) (.bl _)⟩
end
/-! ### methods of texts: sep.join -/
section
variable {X : Cx} {W : Wd} {Γ : List DV} {μ : Mu} {e o : Expr} {pos apos p : Pos} {l : List Nat} {ws : List (List Nat)}
theorem flat_join : ∀ ws : List (List Nat), TL.joinL [] ws = ws.flatten
  | [] => rfl
  | [w] => by simp [TL.joinL]
  | w :: v :: r => by
    have ih := flat_join (v :: r)
    rw [List.flatten_cons, ← ih]
    simp [TL.joinL]
theorem vaAll_S {K : PySem.W.Frag} {H : Hp} {vs : List V} (h : VaAll K H vs (ws.map fun w => PyData.str (S w))) : vs = (ws.map S).map V.str := by
  have e : (ws.map fun w => PyData.str (S w)) = (ws.map S).map PyData.str := by rw [List.map_map]; rfl
  rw [e] at h
  exact h.strs
theorem ev_join {Ws : List (List Nat) → Prop} (ho : Ed X W Γ μ o (.str (S []))) (he : Ev X W Γ μ e (fun z => ∃ ws : List (List Nat), z = .list (ws.map fun w => .str (S w)) ∧ Ws ws)) (hz : ∀ ws, Ws ws → (ws.map List.length).sum ≤ 16777216)
    (hs : starEach [e] X.env = [(false, eval e X.env)] := by rfl) (hbase : attributeBase o "join" X.env (eval o X.env) = eval o X.env := by rfl) (hline : (apos.endLine == pos.line) = true := by rfl) :
    Ev X W Γ μ (.Call (.Attribute o "join" apos) [e] [] pos) (fun z => ∃ ws, z = .str (S ws.flatten) ∧ Ws ws) := fun σ H R Q q => by
  refine (pe_join wE.pe wE.pe hs hbase hline).w (ho σ H R _ fun v H2 R2 e2 r2 => ?_)
  cases r2
  refine ⟨⟨_, rfl⟩, he σ H2 R2 _ fun v d H3 R3 e3 r3 ⟨ws, ed, pw⟩ => ?_⟩
  subst ed
  cases r3 with
  | lst ha hv =>
    have ev := vaAll_S hv
    refine ⟨S [], _, ws.map S, rfl, rfl, .inl (by rw [← ev]; exact SqL.of (off_some ha).2), ?_, ?_⟩
    · rw [List.map_map]
      have z := hz ws pw
      have e1 : (ws.map ((fun x : Str => x.length) ∘ S)) = ws.map List.length := List.map_congr_left fun w _ => SX.S_len w
      rw [e1, SX.S_len]
      simpa using z
    · rw [SX.join_S, flat_join]
      exact q _ _ H3 R3 (e2.trans e3) (.str _) ⟨ws, rfl, pw⟩
/-! ### slices -/
theorem po_int {lo : Expr} {z : Int} (h : Ed X W Γ μ lo (.int z)) : ∀ σ H, Rep X.K W Γ μ σ H → ∀ Q : Option Int → Hp → Prop, (∀ H2, Rep X.K W Γ μ σ H2 → XT (hd W μ) H H2 → Q (some z) H2) → tPart (wE X lo) σ H Q := fun σ H R Q q => h σ H R _ fun v H2 R2 e2 r => by
  cases r
  exact ⟨z, rfl, q H2 R2 e2⟩
/-- a part of a slice -/
def EdO (X : Cx) (W : Wd) (Γ : List DV) (μ : Mu) (e : Option Expr) (o : Option Int) : Prop := ∃ t, PO X e t ∧ ∀ σ H, Rep X.K W Γ μ σ H → ∀ Q : Option Int → Hp → Prop, (∀ H2, Rep X.K W Γ μ σ H2 → XT (hd W μ) H H2 → Q o H2) → t σ H Q
theorem so_none : EdO X W Γ μ none none := ⟨_, po_none, fun σ H R Q q => q H R XT.refl⟩
theorem so_some {z : Int} (h : Ed X W Γ μ e (.int z)) : EdO X W Γ μ (some e) (some z) := ⟨_, po_some wE.pe, po_int h⟩
/-- a slice by values -/
def rDs (K : PySem.W.Frag) (d : PyData) (lo hi : Option Int) (z : PyData) : V → Option Int → Option Int → Hp → VK → Prop := fun v l h H Q => l = lo ∧ h = hi ∧ ∃ L : List Addr, (∀ a ∈ L, H a ≠ none) ∧ Va K (off L H) v d ∧ ∀ v' H2, Same H H2 → Va K (off L H2) v' z → Q v' H2
def SlD (X : Cx) (d : PyData) (lo hi : Option Int) (z : PyData) : Prop := L2.SlR X (rDs X.K d lo hi z)
theorem SlR.to {r r' : V → Option Int → Option Int → Hp → VK → Prop} (h : L2.SlR X r) (i : ∀ x l u H Q, r' x l u H Q → r x l u H Q) : L2.SlR X r' := fun pins s σ H x v vl vu lo hi sl Q I rx hs pl pu q => h pins s σ H x v vl vu lo hi sl Q I rx hs pl pu (i _ _ _ _ _ q)
theorem ed_sl {a : Expr} {lo hi : Option Expr} {l u : Option Int} {d z : PyData} {p2 : Pos} (ha : Ed X W Γ μ a d) (hl : EdO X W Γ μ lo l) (hu : EdO X W Γ μ hi u) (hs : SlD X d l u z) : Ed X W Γ μ (.Subscript a (.Slice lo hi none p2) pos) z := fun σ H R Q q => by
  obtain ⟨tl, l1, l2⟩ := hl
  obtain ⟨tu, u1, u2⟩ := hu
  refine (pe_slice (r := rDs X.K d l u z) hs wE.pe l1 u1).w (ha σ H R _ fun v H2 R2 e2 r2 => l2 σ H2 R2 _ fun H3 R3 e3 => u2 σ H3 R3 _ fun H4 R4 e4 => ?_)
  exact ⟨rfl, rfl, hd W μ, R4.ne, (r2.up e3).up e4, fun v' H5 s5 r5 => q v' H5 (R4.same s5) (((e2.trans e3).trans e4).trans (XT.same s5)) r5⟩
end
section
variable {X : Cx} {l : List Nat} {ds : List PyData} {n m : Nat}
theorem s_str {lo hi : Option Int} (h : l.length ≤ 16777216) : SlD X (.str (S l)) lo hi (.str (S ((l.drop (HT.sIx l.length 0 lo)).take (HT.sIx l.length l.length hi - HT.sIx l.length 0 lo)))) := SlR.to sl_str fun v l' u H Q ⟨e1, e2, L, hL, hv, k⟩ => by
  subst e1 e2
  cases hv
  refine ⟨_, rfl, by rw [SX.S_len]; exact h, ?_⟩
  unfold cutS
  rw [SX.S_len]
  exact k _ _ (Same.refl _) (.str _)
theorem s_strT (n : Nat) {z : Int} (hl : l.length ≤ 16777216) (e : z = (n : Int) := by rfl) : SlD X (.str (S l)) none (some z) (.str (S (l.take n))) := by
  have h := s_str (X := X) (l := l) (lo := none) (hi := some z) hl
  subst e
  rw [HT.sIx_none, HT.sIx_nat, List.drop_zero, Nat.sub_zero] at h
  have e2 : l.take (min n l.length) = l.take n := by
    rw [Nat.min_def]
    split
    · rfl
    · rw [List.take_of_length_le (by omega), List.take_of_length_le (by omega)]
  rw [e2] at h
  exact h
end
/-! ### isinstance -/
def tyD : PyData → String
  | .none => "NoneType"
  | .bool _ => "bool"
  | .int _ => "int"
  | .str _ => "str"
  | .list _ => "list"
  | .tuple _ => "tuple"
  | .dict _ => "dict"
def isPtr : PyData → Bool
  | .dict (_ :: _) => true
  | _ => false
theorem va_ty {K : PySem.W.Frag} {H : Hp} {L : List Addr} {v : V} {d : PyData} (h : Va K (off L H) v d) (hp : isPtr d = false) : TyX K H v (.type (tyD d)) := by
  cases h with
  | non => exact .base .non
  | bl b => exact .base (.bl b)
  | int i => exact .base (.int i)
  | str x => exact .base (.str x)
  | lst ha _ => exact .base (.lst (off_some ha).2)
  | tup ha _ =>
    rcases SqT.up same_off ha with (h | ⟨o, h⟩) | ⟨o, its, n, hk, hc, _⟩
    · exact .base (.tup h)
    · exact .fTuple h
    · exact .kTuple hk hc
  | dct ha => exact .base (.dK (off_some ha).2)
  | ptr a => cases hp
  | dcf _ _ _ => cases hp
  | dtf _ _ _ => cases hp
section
variable {X : Cx} {W : Wd} {Γ : List DV} {μ : Mu} {e : Expr} {d : PyData} {pos p p2 : Pos} {b : Bool}
theorem ed_isi {T : String} {n : Str} (he : Ed X W Γ μ e d) (hm : X.mg "isinstance" = none) (hmT : X.mg n = none) (hv : bootBuiltins n = some (.type T)) (hk : ∀ K, PySem.W.kitOne K (.type (tyD d)) (.type T) = some b := by intro K; rfl) (hp : isPtr d = false := by first | rfl | assumption) (hg : Gl X "isinstance" := by rfl) (hgT : Gl X n := by rfl)
    (hn : n ≠ "__name__" := by decide) (hdb : (n == ("__debug__" : Str)) = false := by decide)
    (hs : starEach [e, .Name n p2] X.env = (false, eval e X.env) :: starEach [.Name n p2] X.env := by rfl) (hs2 : starEach [.Name n p2] X.env = (false, eval (.Name n p2) X.env) :: starEach [] X.env := by rfl) (hpl : (backTo pos (starEach [.Name n p2] X.env)).any (·.1) = false := by rfl) :
    Ed X W Γ μ (.Call (.Name "isinstance" p) [e, .Name n p2] [] pos) (.bool b) := fun σ H R Q q => by
  refine (pe_callB call_isi hg hm boot_isinstance (pa_cons wE.pe (pa_cons (pe_bltn (v := .ty T) hgT hmT hv rfl hn hdb) pa_nil hs2) hs) (by decide) (by decide) hs hpl).w (he σ H R _ fun v H2 R2 e2 r2 => ?_)
  exact ⟨v, .ty T, _, _, b, rfl, .ty T, va_ty r2 hp, hk _, q _ H2 R2 e2 (.bl b)⟩
end
end HW
set_option maxHeartbeats 4000000
namespace HW
open PySem PySem.Spec PyProof.Rows L2
open SX (S)
/-! ### what is gone through, in one shape -/
inductive Sc where
  | txt (x : Str) | lst (a : Addr) | tup (a : Addr)
def Sc.v : Sc → V
  | .txt x => .str x
  | .lst a => .ref a
  | .tup a => .ref a
def signsV (x : Str) : List V := x.cps.toList.map fun c => .str ⟨#[c]⟩
def Sc.xs (K : PySem.W.Frag) (H : Hp) : Sc → List V → Prop
  | .txt x, xs => xs = signsV x
  | .lst a, xs => SqL K H a xs
  | .tup a, xs => SqT K H a xs
def Sc.fp : Sc → List Addr
  | .txt _ => []
  | .lst a => [a]
  | .tup a => [a]
def Sc.it : Sc → Tok → Addr → Nat → Heap → Prop
  | .txt x, t, it, i, h => h.IsStrIter it (strIterType x) x t i
  | .lst a, _, it, i, h => h.IsListIter it a i
  | .tup a, _, it, i, h => h.IsTupleIter it a i
theorem Sc.at {k : Sc} {t : Tok} {it : Addr} {i : Nat} {h h' : Heap} (s : k.it t it i h) (e : ∀ o, h.get? it = some o → h'.get? it = some o) : k.it t it i h' := by
  cases k with
  | txt x => let ⟨o, ho, r⟩ := s; exact ⟨o, e o ho, r⟩
  | lst a => exact Heap.IsListIter.at s e
  | tup a => exact Heap.IsTupleIter.at s e
theorem Sc.obj {k : Sc} {t : Tok} {it : Addr} {i : Nat} {h : Heap} (s : k.it t it i h) : ∃ o, h.get? it = some o ∧ ∀ v, o.data ≠ .cell v := by
  cases k with
  | txt x => obtain ⟨o, e, c, d⟩ := s; exact ⟨o, e, fun v z => by rw [d] at z; cases z⟩
  | lst a => obtain ⟨o, e, c, d⟩ := s; exact ⟨o, e, fun v z => by rw [d] at z; cases z⟩
  | tup a => obtain ⟨o, e, c, d⟩ := s; exact ⟨o, e, fun v z => by rw [d] at z; cases z⟩
theorem sc_draws {X : Cx} {pins : List (Addr × Obj)} {σ : L2.St} {H : Hp} {s : Shared} {k : Sc} {xs : List V} {t : Tok} {it : Addr} {i : Nat} (I : Inv X pins σ H s) (hc : X.calm = true) (hx : k.xs X.K H xs) (st : k.it t it i s.heap) (hne : ∀ a ∈ k.fp, a ≠ it) :
    ∃ (n : Nat) (P : Nat → Value → Prop) (St : Nat → Heap → Prop), Draws X.prog X.w X.A.in1 it (it :: k.fp) n P St ∧ St i s.heap ∧ n = xs.length ∧ (∀ j v, P j v → ∃ x, xs[j]? = some x ∧ RelV x v) ∧ ∀ j h, St j h → k.it t it j h := by
  have hh : X.A.in1.handled = none := I.ok.hd hc
  cases k with
  | txt x =>
    have e : xs = signsV x := hx
    subst e
    have D := Draws.text (prog := X.prog) (w := X.w) (A := X.A.in1) hh it x t
    refine ⟨_, _, _, D, st, by simp [signsV], fun j v ⟨c, u, h1, h2⟩ => ⟨.str ⟨#[c]⟩, ?_, u, h2⟩, fun j h q => q⟩
    simp [signsV, h1]
  | lst a =>
    obtain ⟨its, rv, p, _⟩ := I.list (show SqL X.K H a xs from hx)
    have D := Draws.list (prog := X.prog) (w := X.w) (A := X.A.in1) hh it a (hne a (by simp [Sc.fp])) its.toArray
    refine ⟨_, _, _, D, ⟨st, p.isList⟩, by simp [rv.length], fun j v hv => ?_, fun j h q => q.1⟩
    have hv' : its[j]? = some v := by simpa using hv
    have hl : j < xs.length := by
      have := (List.getElem?_eq_some_iff.mp hv').1
      rw [rv.length]
      exact this
    have hxj : xs[j]? = some xs[j] := List.getElem?_eq_getElem hl
    obtain ⟨u, hu, ru⟩ := rv.get hxj
    rw [hv'] at hu
    cases hu
    exact ⟨_, hxj, ru⟩
  | tup a =>
    obtain ⟨its, rv, p, _⟩ := I.tuple (show SqT X.K H a xs from hx)
    have D := Draws.tuple (prog := X.prog) (w := X.w) (A := X.A.in1) hh it a (hne a (by simp [Sc.fp])) its.toArray
    refine ⟨_, _, _, D, ⟨st, p⟩, by simp [rv.length], fun j v hv => ?_, fun j h q => q.1⟩
    have hv' : its[j]? = some v := by simpa using hv
    have hl : j < xs.length := by
      have := (List.getElem?_eq_some_iff.mp hv').1
      rw [rv.length]
      exact this
    have hxj : xs[j]? = some xs[j] := List.getElem?_eq_getElem hl
    obtain ⟨u, hu, ru⟩ := rv.get hxj
    rw [hv'] at hu
    cases hu
    exact ⟨_, hxj, ru⟩
theorem Sc.inj {X : Cx} {pins : List (Addr × Obj)} {σ : L2.St} {H : Hp} {s : Shared} {k : Sc} {xs ys : List V} (I : Inv X pins σ H s) (h : k.xs X.K H xs) (h' : k.xs X.K H ys) : xs = ys := by
  cases k with
  | txt x => exact Eq.trans (show xs = signsV x from h) (show ys = signsV x from h').symm
  | lst a => exact I.list_inj h h'
  | tup a => exact I.tuple_inj h h'
theorem sc_begins {X : Cx} {pins : List (Addr × Obj)} {σ : L2.St} {H : Hp} {s : Shared} {k : Sc} {xs : List V} {u : Value} (I : Inv X pins σ H s) (hx : k.xs X.K H xs) (r : RelV k.v u) :
    ∃ (t : Tok) (o : Obj) (G : Heap → Prop), Begins u o G ∧ G s.heap ∧ (∀ b ∈ k.fp, b < s.heap.objs.size) ∧ ∀ it h, h.get? it = some o → k.it t it 0 h := by
  cases k with
  | txt x =>
    obtain ⟨t, rfl⟩ := r
    exact ⟨t, _, _, begins_text x t, trivial, (by intro b hb; simp [Sc.fp] at hb), fun it h e => ⟨_, e, rfl, rfl⟩⟩
  | lst a =>
    obtain rfl : u = .ref a := r
    obtain ⟨its, rv, p, _⟩ := I.list (show SqL X.K H a xs from hx)
    refine ⟨0, _, _, begins_list a its.toArray, p.isList, fun b hb => ?_, fun it h e => ⟨_, e, rfl, rfl⟩⟩
    have e : b = a := by simpa [Sc.fp] using hb
    rw [e]
    exact p.lt
  | tup a =>
    obtain rfl : u = .ref a := r
    obtain ⟨its, rv, p, _⟩ := I.tuple (show SqT X.K H a xs from hx)
    refine ⟨0, _, _, begins_tuple a its.toArray, p, fun b hb => ?_, fun it h e => ⟨_, e, rfl, rfl⟩⟩
    have e : b = a := by simpa [Sc.fp] using hb
    rw [e]
    obtain ⟨o, ho, _⟩ := p
    exact Heap.lt_size ho

/-! ### zip -/
/-! ### enumerate -/
def IteS (K : PySem.W.Frag) (a : Sc) : It :=
  ⟨fun i H => ∃ (xs : List V), a.xs K H xs ∧ i < xs.length, fun i H v H' => ∃ T x, v = .ref T ∧ H T = none ∧ H' = upd H T (.tup [.int (i : Nat), x]) ∧ ∀ xs, a.xs K H xs → xs[i]? = some x, fun i H => ∃ xs : List V, a.xs K H xs ∧ i = xs.length⟩
theorem turn_enumS {P : Program} {w : World} {K : PySem.W.Frag} {elts : List Expr} {kk : Nat} {tpos : Pos} {a : Sc} {N : Nat} (t : Tok) (ha : ∀ x ∈ a.fp, x < N) :
    Turn P w K (.Tuple elts kk tpos) (IteS K a) [N + 1, N] (N + 1) (fun i h => (∃ old, IsEnum h (N + 1) N ((i : Nat) : Int) old) ∧ a.it t N i h) where
  mem := by simp
  obj := fun i h st b hb => by
    obtain ⟨⟨old, he⟩, h1⟩ := st
    have e' : b = N + 1 ∨ b = N := by simpa using hb
    rcases e' with z | z
    · rw [z]; exact ⟨_, he, fun v q => nomatch q⟩
    · rw [z]; exact Sc.obj h1
  keep := fun i h h' st k => let ⟨⟨old, he⟩, hi⟩ := st; ⟨⟨old, k (N + 1) (by simp) _ he⟩, Sc.at hi (k N (by simp))⟩
  item := by
    intro X hP hw hK hc i pins s σ H E I hf st hg
    subst hP hw hK
    obtain ⟨⟨old, he⟩, hit⟩ := st
    obtain ⟨xs, hq, hx⟩ := hg
    obtain ⟨n1, P1, St1, D1, s1, e1, p1, b1⟩ := sc_draws I hc hq hit (fun x m => Nat.ne_of_lt (ha x m))
    have hel : N + 1 < s.heap.objs.size := Heap.lt_size he
    have hef : N + 1 ∉ N :: a.fp := fun m => by
      rcases List.mem_cons.mp m with z | z
      · exact Nat.succ_ne_self _ z
      · exact absurd (ha _ z) (by have : ¬ (N + 1 < N) := by omega
                                  exact this)
    refine wpAny_pyNext_enum_itemC D1 he s1 (by omega) (Nat.succ_ne_self _) hef fun x h' tk hp ho st' hT hsz hk => ?_
    refine ⟨_, rfl, wpAny_letOwnedTupleGo_enum (s := { s with heap := h', toks := tk + 1 }) ho fun h'' he' sb => ?_⟩
    obtain ⟨v1, g1, r1⟩ := p1 i x hp
    have hT2 : h''.get? s.heap.objs.size = some { cls := .type "tuple", data := .seq #[.int i tk, x] } := (sb.2 _ (Nat.ne_of_gt hel)).trans hT
    have new : ObjOk X.prog X.w (upd H s.heap.objs.size (.tup [.int (i : Nat), v1])) h'' s.heap.objs.size (.tup [.int (i : Nat), v1]) :=
      ⟨by show 2 ≤ sizeLine; decide, [.int i tk, x], .cons ⟨_, rfl⟩ (.cons r1 .nil), ⟨_, hT2, rfl, _, rfl⟩⟩
    have I1 : Inv X pins σ (upd H s.heap.objs.size (.tup [.int (i : Nat), v1])) { s with heap := h'', toks := tk + 1 } :=
      I.turnedNew (ch := [N + 1, N]) (fun b ob hb q => (sb.2 b (fun z => hb (by simp [z]))).trans (hk b ob (fun z => hb (by simp [z])) (fun z => hb (by simp [z])) q)) hf (Nat.le_refl _) new
    refine ⟨.ref s.heap.objs.size, _, I1, rfl, ⟨_, v1, rfl, I.hok.fresh (Nat.le_refl _), rfl, fun ys hy => by rw [Sc.inj I hy hq]; exact g1⟩, ⟨⟨x, ?_⟩, Sc.at (b1 _ _ st') fun o q => (sb.2 N (Ne.symm (Nat.succ_ne_self N))).trans q⟩, fun b hb => ?_⟩
    · have e1 : ((i + 1 : Nat) : Int) = (i : Int) + 1 := by omega
      rw [e1]; exact he'
    · have hb' : b < s.heap.objs.size := by
        have e' : b = N + 1 ∨ b = N := by simpa using hb
        rcases e' with z | z
        · rw [z]; exact hel
        · rw [z]; exact Nat.lt_trans (Nat.lt_succ_self _) hel
      rw [upd_ne (Nat.ne_of_lt hb')]
      exact (hf b hb).1
  done := by
    intro X hP hw hK hc i pins s σ H E I hf st hg
    subst hP hw hK
    obtain ⟨⟨old, he⟩, hit⟩ := st
    obtain ⟨xs, hq, hx⟩ := hg
    obtain ⟨n1, P1, St1, D1, s1, e1, p1, b1⟩ := sc_draws I hc hq hit (fun x m => Nat.ne_of_lt (ha x m))
    obtain ⟨f0, f1, f2, f3, f4, f5⟩ := hf N (by simp)
    have e : i = n1 := by omega
    subst e
    exact wpAny_pyNext_enum_endD D1 he s1 fun h' eb => ⟨rfl, I.turned (t' := s.toks) (fun b o hb q => eb b o hb q) f0 f1 f3 f4 f5⟩
  self := fun A i s Q E st h => let ⟨⟨_, he⟩, _⟩ := st; wpAny_pyIter_enum he h
def iEnumS (K : PySem.W.Frag) (ta : TA) : TI := fun σ H R => ta σ H fun vs H1 => ∃ a xs, vs = [Sc.v a] ∧ (∀ t, a ≠ .tup t) ∧ a.xs K H1 xs ∧ R (IteS K a) H1
theorem pi_enumS {X : Cx} {e : Expr} {ta : TA} {p pos tpos : Pos} {elts : List Expr} {kk : Nat} (hg : Gl X "enumerate") (hm : X.mg "enumerate" = none) (ha : PA X [e] ta) (hs : starEach [e] X.env = [(false, eval e X.env)] := by rfl) :
    PI X (.Tuple elts kk tpos) (.Call (.Name "enumerate" p) [e] [] pos) (iEnumS X.K ta) := by
  refine ⟨fun pins s σ H R I h => ?_⟩
  refine Call_ (ld_blt I hg hm boot_enumerate (PyProof.Rows.callWith_type1 (thn (ha.run pos pins s σ H _ I h) fun us s1 ⟨vs, H1, I1, r1, q1⟩ => ?_) hs rfl))
  obtain ⟨a, xs, ex, nt, hq, q⟩ := q1
  subst ex
  have fin : ∀ (h' : Heap) (t : Tok), (∀ x ∈ a.fp, x < s1.heap.objs.size) → IsEnum h' (s1.heap.objs.size + 1) s1.heap.objs.size 0 .none → a.it t s1.heap.objs.size 0 h' → (∀ b o, s1.heap.get? b = some o → h'.get? b = some o) →
      PIE X pins σ (.Tuple elts kk tpos) R (.ref (s1.heap.objs.size + 1)) { s1 with heap := h' } := fun h' t hfp he hit hk => by
    have I2 : Inv X pins σ H1 { s1 with heap := h' } := I1.kept (t' := s1.toks) hk
    refine ⟨s1.heap.objs.size + 1, [s1.heap.objs.size + 1, s1.heap.objs.size], _, _, H1, rfl, I2, turn_enumS t hfp, ⟨⟨.none, he⟩, hit⟩, fun b hb => ?_, q⟩
    have e' : b = s1.heap.objs.size + 1 ∨ b = s1.heap.objs.size := by simpa using hb
    have hle : s1.heap.objs.size ≤ b := by
      rcases e' with z | z
      · rw [z]; exact Nat.le_add_right _ _
      · rw [z]; exact Nat.le_refl _
    exact I1.fpOk hle (I1.hok.fresh hle)
  cases r1 with
  | cons r rr =>
    cases rr
    cases a with
    | txt x =>
      obtain ⟨t, rfl⟩ := r
      exact call_enumerate_str fun h' he hit hsz hk => wpAny_pyIter_enum he (fin h' t (by intro b hb; simp [Sc.fp] at hb) he hit hk)
    | lst a =>
      obtain ⟨its, rv, p', hz⟩ := I1.list (show SqL X.K H1 a xs from hq)
      cases r
      refine call_enumerate_list p'.isList fun h' he hit hsz hk => wpAny_pyIter_enum he (fin h' 0 (fun b hb => ?_) he hit hk)
      have e : b = a := by simpa [Sc.fp] using hb
      rw [e]
      exact p'.lt
    | tup a => exact absurd rfl (nt a)

/-! ### over data -/
/-- the items of data -/
def itemsD : PyData → Option (List PyData)
  | .str x => some (x.cps.toList.map sg)
  | .list ds => some ds
  | .tuple ds => some ds
  | _ => none
theorem va_signs {K : PySem.W.Frag} {H : Hp} : ∀ cs : List Nat, VaAll K H (cs.map fun c => V.str ⟨#[c]⟩) (cs.map sg)
  | [] => .nil
  | c :: cs => .cons (.str _) (va_signs cs)
theorem va_sc {K : PySem.W.Frag} {pool : Hp} {v : V} {d : PyData} {ds : List PyData} (h : Va K pool v d) (e : itemsD d = some ds) : ∃ (a : Sc) (xs : List V), v = a.v ∧ (∀ H, Same pool H → a.xs K H xs) ∧ VaAll K pool xs ds ∧ ((∀ t, d ≠ .tuple t) → ∀ t, a ≠ .tup t) := by
  cases h with
  | str x => cases e; exact ⟨.txt x, _, rfl, fun _ _ => rfl, va_signs _, fun _ _ => (nomatch ·)⟩
  | lst ha hs => cases e; exact ⟨.lst _, _, rfl, fun H s => SqL.of (s _ _ ha), hs, fun _ _ => (nomatch ·)⟩
  | tup ha hs => cases e; exact ⟨.tup _, _, rfl, fun H s => SqT.up s ha, hs, fun n _ => absurd rfl (n _)⟩
  | non => cases e
  | bl b => cases e
  | int i => cases e
  | dct ha => cases e
  | ptr a => cases e
  | dcf _ _ _ => cases e
  | dtf _ _ _ => cases e
/-- a pair -/
abbrev pr2 (x y : PyData) : PyData := .tuple [x, y]
theorem sc_get {K : PySem.W.Frag} {L : List Addr} {pool H : Hp} {a : Sc} {xs : List V} {ds : List PyData} {i : Nat} {d : PyData} {v : V} (hx : ∀ H, Same pool H → a.xs K H xs) (hv : VaAll K pool xs ds) (s : Same pool (off L H)) (hd : ds[i]? = some d) (y : ∀ ys, a.xs K H ys → ys[i]? = some v) : Va K (off L H) v d := by
  obtain ⟨v2, e, r⟩ := hv.at hd
  have := y xs (hx H (fun b o q => (off_some (s b o q)).2))
  rw [e] at this
  cases this
  exact r.up s
theorem walk_enumS {K : PySem.W.Frag} {pool : Hp} {a : Sc} {xs : List V} {ds : List PyData} (hx : ∀ H, Same pool H → a.xs K H xs) (hv : VaAll K pool xs ds) : WalkD K pool (IteS K a) (ds.mapIdx fun i d => pr2 (nn i) d) where
  go := fun i H hi s => ⟨xs, hx H s, by rw [hv.length]; simpa using hi⟩
  yld := fun i d H v H' L hd hL s y => by
    obtain ⟨T, x, rfl, hT, rfl, y⟩ := y
    have sm := same_new (o := .tup [.int (i : Nat), x]) hT
    refine ⟨sm, ?_⟩
    rw [List.getElem?_mapIdx] at hd
    obtain ⟨d1, h1, rfl⟩ := Option.map_eq_some_iff.mp hd
    have r := sc_get hx hv s h1 y
    exact .tup (.inl (.inl (off_upd (new_out hL hT)))) (.cons (.int _) (.cons (r.up (XT.same sm)) .nil))
  stop := fun H s => ⟨xs, hx H s, by rw [hv.length]; simp⟩
section
variable {X : Cx} {W : Wd} {Γ : List DV} {μ : Mu} {α β : Type} {a b : Expr} {pos p tpos : Pos} {elts : List Expr} {kk : Nat} {d d2 : PyData} {enc : α → PyData} {enc2 : β → PyData} {xs : List α} {ys : List β}
/-- enumerate(text), enumerate(list): pairs of place and item -/
theorem it_enum (h : Ed X W Γ μ a d) (hm : X.mg "enumerate" = none) (e : itemsD d = some (xs.map enc)) (hd : ∀ t, d ≠ .tuple t := by intro _; nofun) (hg : Gl X "enumerate" := by rfl) (hs : starEach [a] X.env = [(false, eval a X.env)] := by rfl) :
    IterD X W Γ μ (.Tuple elts kk tpos) (.Call (.Name "enumerate" p) [a] [] pos) (fun q : Nat × α => pr2 (nn q.1) (enc q.2)) (xs.mapIdx Prod.mk) := ⟨_, pi_enumS hg hm wA.pa hs, fun σ H R R' k => (ea_cons h ea_nil (by rw [hs]; rfl)) σ H R _ fun vs H1 R1 e1 r => by
  cases r with
  | cons r rr =>
    cases rr
    obtain ⟨sc, vs, rfl, h1, h2, h3⟩ := va_sc r e
    refine ⟨sc, vs, rfl, h3 hd, h1 H1 same_off, k _ _ H1 rfl R1 e1 ?_⟩
    have z := walk_enumS h1 h2
    have e : ((xs.map enc).mapIdx fun i d => pr2 (nn i) d) = (xs.mapIdx Prod.mk).map fun q : Nat × α => pr2 (nn q.1) (enc q.2) := by
      apply List.ext_getElem?
      intro i
      simp only [List.getElem?_mapIdx, List.getElem?_map, Option.map_map]
      rfl
    rw [e] at z
    exact z⟩
end
end HW
set_option maxHeartbeats 4000000
namespace HW
open PySem PySem.Spec PyProof.Rows L2
open SX (S)
/-! ### the distinct items, as they are first met -/
section
variable {α : Type} [DecidableEq α]
end
/-! ### set(list) of keys of one kind -/
section
variable {prog : Program} {w : World} {K : Type} [DecidableEq K] {knd : KeyKind prog w K} {A : Around} {R : Result → Shared → Prop} {I : Addr} {fp wr : List Addr} {G : Array GenState → Array GenState → Prop} {n : Nat} {P : Nat → Value → Prop} {St : Nat → Shared → Prop}
end
section
variable {prog : Program} {w : World} {K : Type} [DecidableEq K] {knd : KeyKind prog w K} {A : Around} {E : Value → Shared → Prop} {s : Shared}
end
/-! ### len(set(texts)) -/
section
variable {X : Cx} {W : Wd} {Γ : List DV} {μ : Mu} {a : Expr} {p p2 q pos : Pos} {ds : List PyData} {ws : List (List Nat)}
end
end HW
set_option maxHeartbeats 4000000
namespace HW
open PySem PySem.Spec PyProof.Rows L2
open SX (S)
section
variable {X : Cx} {W W0 : Wd} {Γ : List DV} {μ : Mu} {a : Expr} {i : Str} {pos : Pos}
theorem ed_S {p : Pos} {j} (l : List Nat) (e : i = S l := by decide +kernel) : Ed X W Γ μ (.Constant (.str i) j p) (.str (S l)) := e ▸ ed_str
theorem ed_gS {n z : Str} (l : List Nat) (hm : ∃ t, X.mg n = some (.str z t)) (e : z = S l := by decide +kernel) (hg : Gl X n := by rfl) (h1 : (n == ("__debug__" : Str)) = false := by decide) : Ed X W Γ μ (.Name n pos) (.str (S l)) := e ▸ ed_gstr hm hg h1
theorem run_end {P : PyData → Prop} {rt : VK} {bk ct : L2.St → Hp → Prop} (hp : P .none) (hW : Wle W0 W := by first | exact Wle.refl | assumption) : Run X W Γ μ [] ⟨fun _ H' => RetP X.K W0 P .non H', rt, bk, ct⟩ := run_nil fun σ H R => ⟨R.fr.down hW, .none, hp, .non⟩
theorem ed_neg {z : Int} (h : Ed X W Γ μ a (.int z)) : Ed X W Γ μ (.UnaryOp .USub a pos) (.int (-z)) := fun σ H R Q q => (pe_un un_neg wE.pe).w (h σ H R _ fun v H2 R2 e2 r => by
  cases r
  exact ⟨z, rfl, q _ H2 R2 e2 (.int _)⟩)
end
section
variable {X : Cx} {l : List Nat} {ds es : List PyData}
theorem foldl_rep (l : List Nat) : ∀ (n : Nat) (acc : Array Nat), (List.replicate n (S l).cps).foldl (· ++ ·) acc = acc ++ ((List.replicate n l).flatten).toArray
  | 0, acc => by simp
  | n + 1, acc => by
    rw [List.replicate_succ, List.foldl_cons, foldl_rep l n, List.replicate_succ, List.flatten_cons, Array.append_assoc]
    congr 1
    show l.toArray ++ _ = _
    simp
theorem o_mulS {n : Nat} (h : l.length * n ≤ 16777216) (h1 : 1 ≤ n) (h2 : n ≤ 1000000000) : OpD X (binaryOp .Mult) (.str (S l)) (nn n) (.str (S (List.replicate n l).flatten)) := by
  intro pins s σ H x y v u Q I rx ry q
  obtain ⟨L, _, ha, hb, k⟩ := q
  cases ha; cases hb
  obtain ⟨t, rfl⟩ := rx
  obtain ⟨t', rfl⟩ := ry
  have fin : ∀ s', Inv X pins σ H s' → ∀ t2, EP X pins σ Q (.str (S (List.replicate n l).flatten) t2) s' := fun s' I' t2 => ⟨.str _, H, I', ⟨t2, rfl⟩, k _ _ (Same.refl _) (.str _)⟩
  have hn : ¬ ((n : Int) < 1) := by omega
  have hb' : (decide ((n : Int) < -(2 ^ 63 : Int)) || decide ((n : Int) ≥ 2 ^ 63)) = false := by
    have e1 : ¬ ((n : Int) < -(2 ^ 63 : Int)) := by omega
    have e2 : ¬ ((n : Int) ≥ 2 ^ 63) := by omega
    rw [decide_eq_false e1, decide_eq_false e2]
    rfl
  have hlen : (S l).length = l.length := SX.S_len l
  refine P.mul_str hb' (fun _ hz => ?_) (fun _ _ => ?_) ?_
  · rw [hlen]
    have h3 : (l.length : Int) ≤ 16777216 := by
      have : l.length * 1 ≤ l.length * n := Nat.mul_le_mul_left _ h1
      omega
    have h4 : (16777216 : Int) ≤ (2 ^ 63 - 1) / (n : Int) := by
      rw [Int.le_ediv_iff_mul_le (by omega)]
      omega
    omega
  · rw [hlen]
    unfold Builtin.Str.tooLong
    have e : (n : Int).toNat = n := by omega
    rw [e]
    simpa [sizeLine] using h
  · rw [if_neg hn]
    by_cases hz : ((n : Int) == 1 || (S l).length == 0) = true
    · rw [if_pos hz]
      have e : (List.replicate n l).flatten = l := by
        rw [hlen] at hz
        rcases Bool.or_eq_true _ _ ▸ hz with z | z
        · have : n = 1 := by
            have := eq_of_beq z
            omega
          subst this
          simp
        · have : l = [] := List.length_eq_zero_iff.mp (eq_of_beq z)
          subst this
          simp
      have z := fin s I t
      rw [e] at z
      exact z
    · rw [if_neg hz]
      have e : (n : Int).toNat = n := by omega
      rw [e, foldl_rep l n #[]]
      have e2 : (⟨#[] ++ ((List.replicate n l).flatten).toArray⟩ : Str) = S (List.replicate n l).flatten := by simp [S]
      rw [e2]
      refine ⟨?_, fin _ (I.tok _) _⟩
      have hsz : (S (List.replicate n l).flatten).length = l.length * n := by
        rw [SX.S_len]
        simp [Nat.mul_comm]
      rw [hsz]
      simpa [sizeLine] using h
/-! ### tuples -/
theorem o_catT (h : ds.length + es.length ≤ 16777216) : OpD X (binaryOp .Add) (.tuple ds) (.tuple es) (.tuple (ds ++ es)) := OpR.to op_catA fun a b H Q ⟨L, hL, ha, hb, k⟩ => by
  cases ha with
  | tup ha hs =>
    cases hb with
    | tup hb ht =>
      refine ⟨_, _, _, _, rfl, rfl, SqT.up same_off ha, SqT.up same_off hb, by rw [hs.length, ht.length]; exact h, fun e => ?_, fun _ e => ?_, fun _ _ p hp => ?_⟩
      · subst e
        cases hs
        exact k _ _ (Same.refl _) (.tup hb ht)
      · subst e
        cases ht
        rw [List.append_nil] at k
        exact k _ _ (Same.refl _) (.tup ha hs)
      · exact k _ _ (same_new hp) (.tup (.inl (.inl (off_upd (new_out hL hp)))) ((hs.app ht).up (XT.same (same_new hp))))
end
end HW
set_option maxHeartbeats 4000000
namespace HW
open PySem PySem.Spec PyProof.Rows L2
open SX (S)
section
variable {X : Cx} {W : Wd} {Γ : List DV} {μ : Mu} {α : Type} {iter elt t : Expr} {scope : Scope} {pos p1 p2 tpos : Pos} {kk : Nat} {e1 e2 : α → PyData} {xs : List α} {n1 n2 : Str}
/-- [elt for n1, n2 in iter] -/
theorem lcP0 (k1 k2 : Nat) (hi : IterD X W Γ μ (.Tuple [.Name n1 p1, .Name n2 p2] kk tpos) iter (fun x => pr2 (e1 x) (e2 x)) xs) (hz : xs.length ≤ 16777216) (f : α → PyData)
    (he : ∀ x ∈ xs, ∀ W1, Wle W W1 → ∀ s H C cl fp, Ed (blkOf X scope s H C cl fp) W1 (((wipeD [k1, k2] Γ).set k1 (.d (e1 x))).set k2 (.d (e2 x))) μ elt (f x)) (hN : X.N.Nodup) (hn1 : X.N[k1]? = some n1 := by rfl) (hn2 : X.N[k2]? = some n2 := by rfl)
    (hv1 : ∀ s H C cl fp, Loc (blkOf X scope s H C cl fp).env.scope n1 := by intro _ _ _ _ _; first | exact Or.inl rfl | exact Or.inr rfl) (hf1 : ∀ s H C cl fp, (blkOf X scope s H C cl fp).fn n1 = true ∨ (blkOf X scope s H C cl fp).env.scope.names.lookup n1 = some .local := by intro _ _ _ _ _; first | exact .inr rfl | exact .inl rfl)
    (hv2 : ∀ s H C cl fp, Loc (blkOf X scope s H C cl fp).env.scope n2 := by intro _ _ _ _ _; first | exact Or.inl rfl | exact Or.inr rfl) (hf2 : ∀ s H C cl fp, (blkOf X scope s H C cl fp).fn n2 = true ∨ (blkOf X scope s H C cl fp).env.scope.names.lookup n2 = some .local := by intro _ _ _ _ _; first | exact .inr rfl | exact .inl rfl)
    (hcm : ∀ s H C cl fp, (blkOf X scope s H C cl fp).calm = true := by intro _ _ _ _ _; rfl)
    (hb : BlkOk X.N X.env.scope scope [(n1, k1), (n2, k2)] := by exact blkOk_by (by kernel_rfl)) :
    LcEv X W Γ μ elt (.Tuple [.Name n1 p1, .Name n2 p2] kk tpos) iter [] scope (fun ys => ys = xs.map f) := by
  have h := lc0 (E := fun x y => y = f x) (elt := elt) (scope := scope) [(n1, k1), (n2, k2)] hi (tg_pair (tg_name (K := X.K) k1) (tg_name k2))
    (fun s H C cl fp => pg_tup (hcm s H C cl fp) (pgs_cons (pg_name hN hn1 (hv1 s H C cl fp) (hf1 s H C cl fp)) (pgs_cons (pg_name hN hn2 (hv2 s H C cl fp) (hf2 s H C cl fp)) pgs_nil))) (fun _ _ x _ => ⟨e1 x, e2 x, rfl, trivial, trivial⟩) (fun _ e => e ▸ hz) (fun _ e x hx W1 l s H C cl fp => (he x (e ▸ hx) W1 l s H C cl fp).ev) hb (by simp)
  obtain ⟨wi, g, tt, te, own, h1, h2, h3, h4, h5, h6⟩ := h.ex
  exact ⟨wi, g, tt, te, own, h1, h2, h3, h4, h5, fun σ H R Q k => h6 σ H R Q fun ys v H2 ⟨l, e, hp⟩ => k ys v H2 (by rw [← e]; exact paired_map hp)⟩
/-- [elt for n1, n2 in iter if t] -/
theorem lcP1 (k1 k2 : Nat) (hi : IterD X W Γ μ (.Tuple [.Name n1 p1, .Name n2 p2] kk tpos) iter (fun x => pr2 (e1 x) (e2 x)) xs) (hz : xs.length ≤ 16777216) (c : α → Bool) (f : α → PyData)
    (ht : ∀ x ∈ xs, ∀ W1, Wle W W1 → ∀ s H C cl fp, EdT (blkOf X scope s H C cl fp) W1 (((wipeD [k1, k2] Γ).set k1 (.d (e1 x))).set k2 (.d (e2 x))) μ t (c x))
    (he : ∀ x ∈ xs, c x = true → ∀ W1, Wle W W1 → ∀ s H C cl fp, Ed (blkOf X scope s H C cl fp) W1 (((wipeD [k1, k2] Γ).set k1 (.d (e1 x))).set k2 (.d (e2 x))) μ elt (f x)) (hN : X.N.Nodup) (hn1 : X.N[k1]? = some n1 := by rfl) (hn2 : X.N[k2]? = some n2 := by rfl)
    (hv1 : ∀ s H C cl fp, Loc (blkOf X scope s H C cl fp).env.scope n1 := by intro _ _ _ _ _; first | exact Or.inl rfl | exact Or.inr rfl) (hf1 : ∀ s H C cl fp, (blkOf X scope s H C cl fp).fn n1 = true ∨ (blkOf X scope s H C cl fp).env.scope.names.lookup n1 = some .local := by intro _ _ _ _ _; first | exact .inr rfl | exact .inl rfl)
    (hv2 : ∀ s H C cl fp, Loc (blkOf X scope s H C cl fp).env.scope n2 := by intro _ _ _ _ _; first | exact Or.inl rfl | exact Or.inr rfl) (hf2 : ∀ s H C cl fp, (blkOf X scope s H C cl fp).fn n2 = true ∨ (blkOf X scope s H C cl fp).env.scope.names.lookup n2 = some .local := by intro _ _ _ _ _; first | exact .inr rfl | exact .inl rfl)
    (hcm : ∀ s H C cl fp, (blkOf X scope s H C cl fp).calm = true := by intro _ _ _ _ _; rfl)
    (hb : BlkOk X.N X.env.scope scope [(n1, k1), (n2, k2)] := by exact blkOk_by (by kernel_rfl)) :
    LcEv X W Γ μ elt (.Tuple [.Name n1 p1, .Name n2 p2] kk tpos) iter [t] scope (fun ys => ys = (xs.filter c).map f) := by
  have h := lc1 (E := fun x y => y = f x) (c := c) (t := t) (elt := elt) (scope := scope) [(n1, k1), (n2, k2)] hi (tg_pair (tg_name (K := X.K) k1) (tg_name k2))
    (fun s H C cl fp => pg_tup (hcm s H C cl fp) (pgs_cons (pg_name hN hn1 (hv1 s H C cl fp) (hf1 s H C cl fp)) (pgs_cons (pg_name hN hn2 (hv2 s H C cl fp) (hf2 s H C cl fp)) pgs_nil))) (fun _ _ x _ => ⟨e1 x, e2 x, rfl, trivial, trivial⟩) (fun _ e => e ▸ hz)
    (fun _ e x hx W1 l s H C cl fp => ht x (e ▸ hx) W1 l s H C cl fp) (fun _ e x hx hc W1 l s H C cl fp => (he x (e ▸ hx) hc W1 l s H C cl fp).ev) hb (by simp)
  obtain ⟨wi, g, tt, te, own, h1, h2, h3, h4, h5, h6⟩ := h.ex
  exact ⟨wi, g, tt, te, own, h1, h2, h3, h4, h5, fun σ H R Q k => h6 σ H R Q fun ys v H2 ⟨l, e, hp⟩ => k ys v H2 (by rw [← e]; exact paired_map hp)⟩
end
end HW
set_option maxHeartbeats 4000000
namespace HW
open PySem PySem.Spec PyProof.Rows L2
open SX (S)
section
variable {X : Cx} {W : Wd} {Γ : List DV} {μ : Mu} {α : Type} {iter elt t : Expr} {scope : Scope} {pos p : Pos} {enc : α → PyData} {n : Str} {P : List α → Prop} {E : α → PyData → Prop}
end
section
variable {X : Cx} {W : Wd} {Γ : List DV} {μ : Mu} {e o : Expr} {pos apos : Pos}
theorem sg_flat (cs : List Nat) : (cs.map fun c => [c]).flatten = cs := by
  induction cs with
  | nil => rfl
  | cons a r ih => rw [List.map_cons, List.flatten_cons, ih]; rfl
theorem sg_sum (cs : List Nat) : ((cs.map fun c => [c]).map List.length).sum = cs.length := by
  induction cs with
  | nil => rfl
  | cons a r ih => rw [List.map_cons, List.map_cons, List.sum_cons, ih, List.length_cons, Nat.add_comm]; rfl
/-- "".join of signs -/
theorem ev_joinC {Ws : List Nat → Prop} (ho : Ed X W Γ μ o (.str (S []))) (he : Ev X W Γ μ e (fun z => ∃ cs : List Nat, z = .list (cs.map sg) ∧ Ws cs)) (hz : ∀ cs, Ws cs → cs.length ≤ 16777216)
    (hs : starEach [e] X.env = [(false, eval e X.env)] := by rfl) (hbase : attributeBase o "join" X.env (eval o X.env) = eval o X.env := by rfl) (hline : (apos.endLine == pos.line) = true := by rfl) :
    Ev X W Γ μ (.Call (.Attribute o "join" apos) [e] [] pos) (fun z => ∃ cs, z = .str (S cs) ∧ Ws cs) :=
  (ev_join (Ws := fun ws => ∃ cs : List Nat, ws = cs.map (fun c => [c]) ∧ Ws cs) ho (he.imp fun d ⟨cs, e1, e2⟩ => ⟨cs.map fun c => [c], by rw [e1, List.map_map]; rfl, cs, rfl, e2⟩) (fun ws ⟨cs, e1, e2⟩ => by rw [e1, sg_sum]; exact hz cs e2) hs hbase hline).imp fun d ⟨ws, e1, cs, e2, e3⟩ => ⟨cs, by rw [e1, e2, sg_flat], e3⟩
theorem ed_joinC (cs : List Nat) {ds : List PyData} (ho : Ed X W Γ μ o (.str (S []))) (he : Ed X W Γ μ e (.list ds)) (hd : ds = cs.map sg) (hz : cs.length ≤ 16777216)
    (hs : starEach [e] X.env = [(false, eval e X.env)] := by rfl) (hbase : attributeBase o "join" X.env (eval o X.env) = eval o X.env := by rfl) (hline : (apos.endLine == pos.line) = true := by rfl) :
    Ed X W Γ μ (.Call (.Attribute o "join" apos) [e] [] pos) (.str (S cs)) :=
  (ev_joinC (Ws := fun z => z = cs) ho (he.evP ⟨cs, by rw [hd], rfl⟩) (fun _ q => q ▸ hz) hs hbase hline |>.imp (B := fun z => z = .str (S cs)) fun d ⟨w, e1, e2⟩ => by rw [e1, e2]).ed
end
/-! ### to forget -/
def wk : List DV → List DV → Prop
  | [], [] => True
  | a :: as, b :: bs => (b = .no ∨ b = a) ∧ wk as bs
  | _, _ => False
theorem wk.at : ∀ {Γ Γ' : List DV}, wk Γ Γ' → Γ.length = Γ'.length ∧ ∀ (i : Nat) (dv : DV), Γ'[i]? = some dv → dv = .no ∨ Γ[i]? = some dv
  | [], [], _ => ⟨rfl, fun i dv h => by simp at h⟩
  | a :: as, b :: bs, h => by
    obtain ⟨h1, h2⟩ := wk.at h.2
    refine ⟨by rw [List.length_cons, List.length_cons, h1], fun i dv e => ?_⟩
    cases i with
    | zero =>
      cases e
      exact h.1.imp id fun q => by rw [q]; rfl
    | succ i => exact h2 i dv (by simpa using e)
theorem Slots.weak {K : PySem.W.Frag} {H : Hp} {σ : L2.St} {Γ Γ' : List DV} (s : Slots K H σ Γ) (h : wk Γ Γ') : Slots K H σ Γ' := by
  obtain ⟨h1, h2⟩ := wk.at h
  refine ⟨s.len.trans h1, fun i dv e => ?_⟩
  rcases h2 i dv e with q | q
  · subst q
    have hl : i < σ.length := by
      rw [s.len, h1]
      exact (List.getElem?_eq_some_iff.mp e).1
    exact ⟨σ[i], List.getElem?_eq_getElem hl, trivial⟩
  · exact s.at_ i dv q
section
variable {X : Cx} {W : Wd} {Γ Γ' : List DV} {μ : Mu} {sts : List Stmt} {D : Ends}
theorem run_weak (h : Run X W Γ' μ sts D) (w : wk Γ Γ') : Run X W Γ μ sts D := fun σ H R => h σ H ⟨R.wd, R.fr, R.sl.weak w, R.mu, R.nd⟩
/-- the end of a turn, the state forgotten down to Γ' -/
theorem run_turnW {Φ : List DV → Mu → Prop} (Γ' : List DV) (w : wk Γ Γ') (h : Φ Γ' μ) (hD : D.nx = StP X.K W Φ := by rfl) : Run X W Γ μ [] D := run_weak (run_turn hD h) w
end
/-! ### a law's beginning: its row of draws -/
def tLst2 (K : PySem.W.Frag) (t : TA) : TE := fun σ H Q => t σ H fun xs H1 => xs.length ≤ sizeLine ∧ ∀ p, H1 p = none → (∀ a ys, SqL K H1 a ys → a ≠ p) → Q (.ref p) (upd H1 p (.lst xs))
/-- a list displayed: it is none of the lists that are there -/
theorem pe_lst2 {X : Cx} {es : List Expr} {t : TA} {pos : Pos} (h : PA X es t) : PE X (.List es pos) (tLst2 X.K t) := by
  refine ⟨fun pins s σ H Q I hq => wpAny_List_spliced (thn (h.run pos pins s σ H _ I hq) fun us s1 ⟨xs, H1, I1, r, z, q⟩ => ⟨by rw [← r.length]; exact z, ?_⟩)⟩
  refine ⟨.ref s1.heap.objs.size, _, I1.laid (t' := s1.toks) (o := .lst xs) (fun b u e => Heap.get?_push_of_some _ e) (Nat.le_refl _) ⟨z, us, 0, r, Heap.get?_push_size _ rfl⟩, rfl, q _ (I1.hok.fresh (Nat.le_refl _)) fun a ys hl => ?_⟩
  obtain ⟨its, _, pl, _⟩ := I1.list hl
  exact Nat.ne_of_lt pl.lt
/-- a law: the script at a, True comes -/
def spLaw (K : PySem.W.Frag) : Sp := fun vs H Q _ => ∃ (a : Addr) (ns : List Int), vs = [.ref a] ∧ ns.length ≤ 63 ∧ SqL K H a (ns.map V.int) ∧ ∀ H', Q (.bl true) H'
section
variable {P : Program} {w : World} {K : PySem.W.Frag} {mg : Str → Option Value} {base : Heap} {qual : Str} {params : Arguments} {rest : List Stmt} {scope : Scope} {f : Addr} {fd : FuncData} {N : List Str} {k : Nat} {p0 p1 p2 p3 p4 p5 p6 : Pos} {j1 j2 j3 : Nat} {sd : Int}
theorem fd_law {body : List Stmt} (F : FunD K "law" qual params body scope [] [] f fd) (S : FnScope N ["_law_script"] scope) (hN : N = ("_law_script" : Str) :: ("_law_row" : Str) :: N.drop 2)
    (hb : body = .Assign [.Name "_law_row" p0] (.List [.Name "_law_script" p1, .Constant (.int 0) j1 p2, .Constant (.int sd) j2 p3, .Constant (.int 0) j3 p4] p5) p6 :: rest)
    (hx : ∀ (cdv : Value) (A : Around) (outer : List Env) (s : Shared) (H : Hp) (E : XK), Loc (cxOf CX0 P w K mg base N qual scope f cdv A outer s H E).nox.env.scope "_law_row" := by intro _ _ _ _ _ _; first | exact Or.inl rfl | exact Or.inr rfl)
    (hv : ∀ (cdv : Value) (A : Around) (outer : List Env) (s : Shared) (H : Hp) (E : XK), Vis (cxOf CX0 P w K mg base N qual scope f cdv A outer s H E).nox.env.scope "_law_script" := by intro _ _ _ _ _ _; first | exact Or.inl rfl | exact Or.inr (Or.inl rfl) | exact Or.inr (Or.inr rfl))
    (hs : ∀ (cdv : Value) (A : Around) (outer : List Env) (s : Shared) (H : Hp) (E : XK), swapsWith (.List [.Name "_law_script" p1, .Constant (.int 0) j1 p2, .Constant (.int sd) j2 p3, .Constant (.int 0) j3 p4] p5) (some (.Name "_law_row" p0)) p6.line (cxOf CX0 P w K mg base N qual scope f cdv A outer s H E).nox.env = pure false := by intro _ _ _ _ _ _; rfl)
    (hf : ∀ (cdv : Value) (A : Around) (outer : List Env) (s : Shared) (H : Hp) (E : XK), (cxOf CX0 P w K mg base N qual scope f cdv A outer s H E).nox.fn "_law_row" = true ∨ (cxOf CX0 P w K mg base N qual scope f cdv A outer s H E).nox.env.scope.names.lookup ("_law_row" : Str) = some .local := by intro _ _ _ _ _ _; first | exact .inr rfl | exact .inl rfl)
    (h : ∀ (cdv : Value) (A : Around) (outer : List Env) (s : Shared) (H : Hp) (E : XK), Room k (A.deeper (envOfC qual scope s.heap.objs.size f cdv)) → ∀ (W : Wd) (r scr : Addr) (ns : List Int), W.row = some (r, scr, ns) →
      Run (cxOf CX0 P w K mg base N qual scope f cdv A outer s H E).nox W (.no :: .r r :: List.replicate (N.length - 2) .no) [] rest { nx := fun _ H' => RetP K W (fun z => z = .bool true) .non H', rt := RetP K W (fun z => z = .bool true) }) :
    FnOk P w K mg base CX0 (k + 1) f fd ["_law_script"] (spLaw K) := by
  refine F.ok S (fun vs H Q E ⟨a, ns, e, _⟩ => by rw [e]; rfl) fun cdv A outer s H vs Q E hr ⟨a, ns, e, hns, hl, q⟩ => ?_
  subst e
  refine ⟨_, PSs.nox wSs.ps, ?_⟩
  rw [hb]
  have hN0 : N[0]? = some ("_law_script" : Str) := by rw [hN]; rfl
  have hN1 : N[1]? = some ("_law_row" : Str) := by rw [hN]; rfl
  refine wSs_cons ((ps_set (i := 1) S.nd hN1 (hx cdv A outer s H E) (pe_lst2 (pa_cons (pe_var (i := 0) hN0 (hv cdv A outer s H E)) (pa_cons pe_int (pa_cons pe_int (pa_cons pe_int pa_nil))))) (hs cdv A outer s H E) (hf cdv A outer s H E)).w ?_)
  have hst : start N [.ref a] = some (.ref a) :: none :: List.replicate (N.length - 2) none := by
    rw [hN]
    show some (V.ref a) :: List.replicate _ none = _
    simp [List.replicate_succ]
  rw [hst]
  refine ⟨_, rfl, Nat.le_of_ble_eq_true rfl, fun r hr' hfr => ?_⟩
  have har : a ≠ r := hfr a _ hl
  let row : HO := .lst [.ref a, .int 0, .int sd, .int 0]
  let W : Wd := ⟨upd H r row, [r], some (r, a, ns)⟩
  have hW : upd H r row r = some row := upd_same
  have ok : WdOk K W := ⟨fun b hb => by
    rw [List.mem_singleton.mp hb]
    show upd H r row r ≠ none
    rw [hW]
    simp, fun r' s' n' e => by
    cases e
    exact ⟨List.mem_cons_self, SqL.up (fun o e => by show upd H r row a = some o; rw [upd_ne har]; exact e) hl, har, hns⟩⟩
  have sl : Slots K (off (hd W []) (upd H r row)) (some (.ref a) :: some (.ref r) :: List.replicate (N.length - 2) none) (.no :: .r r :: List.replicate (N.length - 2) .no) := by
    refine ⟨by simp, fun i dv e => ?_⟩
    match i, e with
    | 0, e => cases e; exact ⟨_, rfl, trivial⟩
    | 1, e => cases e; exact ⟨_, rfl, rfl⟩
    | i + 2, e =>
      have e' : (List.replicate (N.length - 2) DV.no)[i]? = some dv := e
      rw [List.getElem?_replicate] at e'
      split at e'
      · rename_i hi
        cases e'
        refine ⟨none, ?_, trivial⟩
        show (List.replicate (N.length - 2) (none : Option V))[i]? = some none
        rw [List.getElem?_replicate, if_pos hi]
      · cases e'
  have ret : ∀ v H', RetP K W (fun z => z = .bool true) v H' → Q v H' := fun v H' ⟨fr, d', e, hv'⟩ => by
    subst e
    cases hv'
    exact q H'
  have z := h cdv A outer s H E hr W r a ns rfl _ _ ⟨ok, ⟨fun _ _ _ e => e, fun r' s' n' e => by cases e; exact ⟨0, sd, 0, hW, Int.le_refl _⟩⟩, sl, fun _ z => (nomatch z), List.nodup_nil⟩
  intro pins st I
  refine wpAny_mono (z pins st I) (fun fl s' hq => ?_) fun _ _ z => z
  cases fl with
  | next =>
    obtain ⟨σ', H', I', q'⟩ := hq
    exact ⟨σ', H', I', ret _ _ q'⟩
  | brk => exact hq
  | cont => exact hq
  | ret u =>
    obtain ⟨v, σ', H', I', r', q'⟩ := hq
    exact ⟨v, σ', H', I', r', ret _ _ q'⟩
end
end HW
set_option maxHeartbeats 4000000
namespace HW
open PySem PySem.Spec PyProof.Rows L2
open SX (S)
/-- the end of a turn, the state forgotten down to Γ' -/
theorem run_go {X : Cx} {W : Wd} {Γ : List DV} {μ : Mu} {Φ : List DV → Mu → Prop} {rt : VK} {bk ct : L2.St → Hp → Prop} (Γ' : List DV) (w : wk Γ Γ') (h : Φ Γ' μ) : Run X W Γ μ [] ⟨StP X.K W Φ, rt, bk, ct⟩ := run_turnW Γ' w h rfl
/-! ### shapes, for == -/
structure Shp (n : Nat) (d : PyData) : Prop where
  lay : d.canLay0 = true
  dep : d.depth ≤ n
theorem Shp.int {i : Int} : Shp 0 (.int i) := ⟨rfl, Nat.le_refl _⟩
theorem Shp.bl {i : Bool} : Shp 0 (.bool i) := ⟨rfl, Nat.le_refl _⟩
theorem Shp.non : Shp 0 .none := ⟨rfl, Nat.le_refl _⟩
theorem Shp.all {n : Nat} : ∀ {xs : List PyData}, (∀ x ∈ xs, Shp n x) → PyData.canLayAll0 xs = true ∧ PyData.depthAll xs ≤ n
  | [], _ => ⟨rfl, Nat.zero_le _⟩
  | x :: xs, h => by
    obtain ⟨h1, h2⟩ := Shp.all fun y hy => h y (List.mem_cons_of_mem _ hy)
    have h3 := h x List.mem_cons_self
    exact ⟨by rw [PyData.canLayAll0, h3.lay, h1]; rfl, by rw [PyData.depthAll]; exact Nat.max_le.mpr ⟨h3.dep, h2⟩⟩
theorem Shp.list {n : Nat} {xs : List PyData} (h : ∀ x ∈ xs, Shp n x) : Shp (n + 1) (.list xs) := ⟨by rw [PyData.canLay0]; exact (Shp.all h).1, by rw [PyData.depth]; exact Nat.succ_le_succ (Shp.all h).2⟩
theorem Shp.tup {n : Nat} {xs : List PyData} (h : ∀ x ∈ xs, Shp n x) : Shp (n + 1) (.tuple xs) := ⟨by rw [PyData.canLay0]; exact (Shp.all h).1, by rw [PyData.depth]; exact Nat.succ_le_succ (Shp.all h).2⟩
theorem Shp.up {n m : Nat} {d : PyData} (h : Shp n d) (l : n ≤ m) : Shp m d := ⟨h.lay, Nat.le_trans h.dep l⟩
theorem Shp.str {l : List Nat} (h : ∀ c ∈ l, c < 128) : Shp 0 (.str (S l)) := ⟨by
  show PyData.strOk (S l) = true
  unfold PyData.strOk
  simp only [S, List.all_toArray, List.all_eq_true, decide_eq_true_eq]
  exact fun c hc => Nat.lt_trans (h c hc) (by decide), Nat.le_refl _⟩
theorem Shp.ok {n : Nat} {d : PyData} (h : Shp n d) (l : n ≤ 64 := by decide) : SeqAt.shaped d = true := by
  unfold SeqAt.shaped
  rw [h.lay, decide_eq_true (Nat.le_trans h.dep l)]
  rfl
section
variable {X : Cx} {x y : PyData} {n : Nat}
theorem c_eqSame (hu : X.A.units + 64 < cLine) (h : Shp n x) (hn : n ≤ 64 := by decide) : OpD X (compareOp .Eq) x x (.bool true) := by
  have z := c_eqD (X := X) hu (h.ok hn) (h.ok hn)
  rw [SeqAt.eqv_refl x h.lay] at z
  exact z
theorem c_neSame (hu : X.A.units + 64 < cLine) (h : Shp n x) (hn : n ≤ 64 := by decide) : OpD X (compareOp .NotEq) x x (.bool false) := by
  have z := c_neD (X := X) hu (h.ok hn) (h.ok hn)
  rw [SeqAt.eqv_refl x h.lay] at z
  exact z
end
end HW
set_option maxHeartbeats 4000000
namespace HW
open PySem PySem.Spec PyProof.Rows L2
open SX (S)
abbrev FnP (K : PySem.W.Frag) (x : Str) (st : Stmt) (f : Addr) (fd : FuncData) : Prop := FunD K x x (defArgs st) (defBody st) (defScope st) [] [] f fd
structure Gs (mg : Str → Option Value) : Prop where
  isinstance : mg "isinstance" = none
  str : mg "str" = none
  int : mg "int" = none
  len : mg "len" = none
  all : mg "all" = none
  range : mg "range" = none
  set : mg "set" = none
  enumerate : mg "enumerate" = none
  zip : mg "zip" = none
  min : mg "min" = none
  max : mg "max" = none
  sorted : mg "sorted" = none
  any : mg "any" = none
  tuple : mg "tuple" = none
  list : mg "list" = none
  bool : mg "bool" = none
  dict : mg "dict" = none
  abs : mg "abs" = none
  sum : mg "sum" = none
abbrev gSEEN (mg : Str → Option Value) : Prop := ∃ t, mg "SEEN" = some (.str "x" t)
abbrev gHOLE (mg : Str → Option Value) : Prop := ∃ t, mg "HOLE" = some (.str "." t)
abbrev gOPEN (mg : Str → Option Value) : Prop := ∃ t, mg "OPEN" = some (.str "?" t)
abbrev gLETTERS (mg : Str → Option Value) : Prop := ∃ t, mg "LETTERS" = some (.str "abcd" t)
abbrev gMOST_MASK (mg : Str → Option Value) : Prop := ∃ t, mg "MOST_MASK" = some (.int 12 t)
abbrev gMOST_ROW (mg : Str → Option Value) : Prop := ∃ t, mg "MOST_ROW" = some (.int 60 t)
/-! the plain words -/
def maskB (m : List Nat) : Bool := decide (1 ≤ m.length) && decide (m.length ≤ 12) && m.all (fun c => decide (c ∈ [120, 46])) && decide (m[0]? = some 120) && decide (m.getLast? = some 120)
def rowB (l : List Nat) : Bool := decide (l.length ≤ 60) && l.all (fun c => decide (c ∈ [97, 98, 99, 100]))
def seenL (m : List Nat) : List Nat := ((m.mapIdx Prod.mk).filter fun q => decide (q.2 = 120)).map Prod.fst
abbrev sD (l : List Nat) : PyData := .str (S l)
abbrev nD (l : List Nat) : PyData := .list (l.map nn)
abbrev wD (l : List (List Nat)) : PyData := .list (l.map sD)
def R_is_mask (ds : List PyData) (d : PyData) : Prop := ∃ m : List Nat, ds = [sD m] ∧ maskB m = true ∧ d = .bool true
def R_need_mask (ds : List PyData) (d : PyData) : Prop := ∃ m : List Nat, ds = [sD m] ∧ maskB m = true ∧ d = .none
def R_is_row (ds : List PyData) (d : PyData) : Prop := ∃ l : List Nat, ds = [sD l] ∧ rowB l = true ∧ d = .bool true
def R_need_row (ds : List PyData) (d : PyData) : Prop := ∃ l : List Nat, ds = [sD l] ∧ rowB l = true ∧ d = .none
def R_seen_by (ds : List PyData) (d : PyData) : Prop := ∃ m : List Nat, ds = [sD m] ∧ m.length ≤ 16777216 ∧ d = nD (seenL m)
theorem map_fst_le {α β : Type} (l : List (α × β)) (p : α × β → Bool) : ((l.filter p).map Prod.fst).length ≤ l.length := by
  rw [List.length_map]
  exact List.length_filter_le ..
/-! ### the draws -/
section
variable {X : Cx} {σ : L2.St} {H : Hp} {a b : Expr} {x y z : V} {Q : VK} {pos : Pos}
/-- e gives v here, whatever the heap is then: the heap stays -/
def At (X : Cx) (σ : L2.St) (H : Hp) (e : Expr) (v : V) : Prop := ∀ Q : VK, Q v H → wE X e σ H Q
theorem at_var (i : Nat) {n : Str} (h : σ[i]? = some (some x)) (hN : X.N[i]? = some n := by rfl) (hv : Vis X.env.scope n := by first | exact Or.inl rfl | exact Or.inr (Or.inl rfl) | exact Or.inr (Or.inr rfl))
    (h1 : (n == ("__debug__" : Str)) = false := by decide) (h2 : (n == ("__classdict__" : Str)) = false := by decide) : At X σ H (.Name n pos) x := fun Q q => (pe_var hN hv h1 h2).w ⟨x, h, q⟩
theorem at_k {e : Expr} {v : V} (h : At X σ H e v) (q : Q v H) : wE X e σ H Q := h Q q
theorem at_int {i : Int} {j p} : At X σ H (.Constant (.int i) j p) (.int i) := fun Q q => pe_int.w q
theorem at_op {op : Operator} {r : R2} (o : OpR X (binaryOp op) r) (ha : At X σ H a x) (hb : At X σ H b y) (hz : ∀ Q : VK, Q z H → r x y H Q) : At X σ H (.BinOp a op b pos) z := fun Q q => (pe_op o wE.pe wE.pe).w (ha _ (hb _ (hz Q q)))
theorem at_ix {p : Addr} {xs : List V} {i : Int} (ha : At X σ H a (.ref p)) (hb : At X σ H b (.int i)) (hl : SqL X.K H p xs) (hx : atI xs i = some x) (hs : PlainIx b := by exact fun _ _ => rfl) : At X σ H (.Subscript a b pos) x := fun Q q =>
  (pe_ix ix_list wE.pe wE.pe hs).w (ha _ (hb _ ⟨p, xs, i, x, rfl, rfl, hl, hx, q⟩))
theorem at_int1 {p : Pos} {i : Int} (ha : At X σ H a (.int i)) (hm : X.mg "int" = none) (hg : Gl X "int" := by rfl) (hs : starEach [a] X.env = (false, eval a X.env) :: starEach [] X.env := by rfl) (hpl : (backTo pos (starEach [] X.env)).any (·.1) = false := by rfl) : At X σ H (.Call (.Name "int" p) [a] [] pos) (.int i) := fun Q q =>
  (pe_callTy call_int1 hg hm boot_int (pa_cons wE.pe pa_nil hs) (by decide) (by decide) hs hpl).w (ha _ (.inl ⟨i, rfl, q⟩))
theorem at_len {p : Pos} {l : Addr} {xs : List V} (ha : At X σ H a (.ref l)) (hl : SqL X.K H l xs) (hm : X.mg "len" = none) (hg : Gl X "len" := by rfl) (hs : starEach [a] X.env = (false, eval a X.env) :: starEach [] X.env := by rfl) (hpl : (backTo pos (starEach [] X.env)).any (·.1) = false := by rfl) : At X σ H (.Call (.Name "len" p) [a] [] pos) (.int xs.length) := fun Q q =>
  (pe_callB call_len_seq hg hm boot_len (pa_cons wE.pe pa_nil hs) (by decide) (by decide) hs hpl).w (ha _ ⟨l, xs, rfl, .inl hl, q⟩)
theorem at_cmp {op : CmpOp} {r : R2} {k : Bool} (o : OpR X (compareOp op) r) (ha : At X σ H a x) (hb : At X σ H b y) (hz : ∀ Q : VK, Q (.bl k) H → r x y H Q) {Qb : Bool → Hp → Prop} (q : Qb k H) (hm : behindInMarks op b = false := by first | exact nomark _ | rfl) : wT X (.Compare a [op] [b] pos) σ H Qb :=
  (pt_cmpR o wE.pe wE.pe hm).w (ha _ (hb _ (hz _ ⟨k, rfl, q⟩)))
end
def R_taken_pre (ds : List PyData) : Prop := ∃ m : Int, ds = [.int m] ∧ 0 < m ∧ m < 1073741824
def R_taken_post (ds : List PyData) (d : PyData) : Prop := ∃ m : Int, ∃ k : Nat, ds = [.int m] ∧ d = .int (k : Int) ∧ (k : Int) < m
/-! ### rings -/
def ringV (l ps : List Nat) : List (List Nat) := (List.range l.length).map fun p => ps.map fun a => l.getD ((p + a) % l.length) 0
def R_need_ring (ds : List PyData) (d : PyData) : Prop := ∃ l : List Nat, ds = [sD l] ∧ rowB l = true ∧ l ≠ [] ∧ d = .none
theorem rowB_len {l : List Nat} (h : rowB l = true) : l.length ≤ 60 := by
  unfold rowB at h
  simp only [Bool.and_eq_true, decide_eq_true_eq] at h
  exact h.1
theorem maskB_len {m : List Nat} (h : maskB m = true) : m.length ≤ 12 := by
  unfold maskB at h
  simp only [Bool.and_eq_true, decide_eq_true_eq] at h
  exact h.1.1.1.2
theorem seenL_len (m : List Nat) : (seenL m).length ≤ m.length := by
  unfold seenL
  refine Nat.le_trans (map_fst_le _ _) ?_
  simp
/-! ### the law's own defs -/
def lowL (n : Nat) (l : List Nat) : Prop := ∀ c ∈ l, 97 ≤ c ∧ c < 97 + n
def openL (m : List Nat) : List Nat := (List.range m.length).filter fun i => decide (m.getD i 0 = 120)
abbrev DRAW (P : Program) (w : World) (K : PySem.W.Frag) (mg : Str → Option Value) (base : Heap) (k : Nat) : Prop := Fd P w K mg base k "_law_taken" ["_law_row", "_law_many"] (spW K R_taken_pre R_taken_post)
section
variable {X : Cx} {W : Wd} {Γ : List DV} {μ : Mu} {a : Expr} {pos p p2 : Pos} {n : Str} {r scr : Addr} {ns : List Int} {k : Nat}
/-- _law_taken(_law_row, a) -/
theorem ev_taken {A : PyData → Prop} (m : Nat) (F : DRAW X.prog X.w X.K X.mg X.base k) (hr : Room k X.A) (hrow : W.row = some (r, scr, ns)) (i : Nat) (ha : Ev X W Γ μ a A) (hm : ∀ d, A d → ∃ z : Nat, d = nn z ∧ 1 ≤ z ∧ z ≤ m) (hm2 : m < 1000000 := by decide)
    (hi : Γ[i]? = some (.r r) := by rfl) (hN : X.N[i]? = some n := by rfl) (hv : Vis X.env.scope n := by first | exact Or.inl rfl | exact Or.inr (Or.inl rfl) | exact Or.inr (Or.inr rfl))
    (h1 : (n == ("__debug__" : Str)) = false := by decide) (h2 : (n == ("__classdict__" : Str)) = false := by decide) (hg : Gl X "_law_taken" := by rfl)
    (he : starEach (.Name n p2 :: [a]) X.env = (false, eval (.Name n p2) X.env) :: starEach [a] X.env := by rfl) (hpl : (backTo pos (starEach [a] X.env)).any (·.1) = false := by rfl) (he2 : starEach [a] X.env = (false, eval a X.env) :: starEach [] X.env := by rfl) :
    Ev X W Γ μ (.Call (.Name "_law_taken" p) (.Name n p2 :: [a]) [] pos) (fun d => ∃ z k : Nat, A (nn z) ∧ d = nn k ∧ k < z ∧ z ≤ m) :=
  (ev_draw F hr hrow i (eva_cons ha eva_nil he2) (fun ds ⟨x, r, e, ax, er⟩ => by
    obtain ⟨z, e2, h3, h4⟩ := hm x ax
    subst er
    exact ⟨(z : Int), by rw [e, e2], by omega, by omega⟩) hi hN hv h1 h2 hg (by decide) he hpl).imp fun d ⟨ds, ⟨x, r, e, ax, er⟩, m', k', e3, e4, h5⟩ => by
    obtain ⟨z, e2, h3, h4⟩ := hm x ax
    subst er
    rw [e, e2] at e3
    have e5 : (z : Int) = m' := by
      have := (List.cons.inj e3).1
      exact PyData.int.inj this
    exact ⟨z, k', e2 ▸ ax, e4, by omega, h4⟩
theorem ev_takenN (m : Nat) (F : DRAW X.prog X.w X.K X.mg X.base k) (hr : Room k X.A) (hrow : W.row = some (r, scr, ns)) (i : Nat) {z : Int} (ha : Ed X W Γ μ a (.int z)) (e : z = (m : Int)) (h1m : 1 ≤ m := by decide) (hm2 : m < 1000000 := by decide)
    (hi : Γ[i]? = some (.r r) := by rfl) (hN : X.N[i]? = some n := by rfl) (hv : Vis X.env.scope n := by first | exact Or.inl rfl | exact Or.inr (Or.inl rfl) | exact Or.inr (Or.inr rfl))
    (h1 : (n == ("__debug__" : Str)) = false := by decide) (h2 : (n == ("__classdict__" : Str)) = false := by decide) (hg : Gl X "_law_taken" := by rfl)
    (he : starEach (.Name n p2 :: [a]) X.env = (false, eval (.Name n p2) X.env) :: starEach [a] X.env := by rfl) (hpl : (backTo pos (starEach [a] X.env)).any (·.1) = false := by rfl) (he2 : starEach [a] X.env = (false, eval a X.env) :: starEach [] X.env := by rfl) :
    Ev X W Γ μ (.Call (.Name "_law_taken" p) (.Name n p2 :: [a]) [] pos) (fun d => ∃ k : Nat, d = nn k ∧ k < m) :=
  (ev_taken (A := fun d => d = nn m) m F hr hrow i (ha.evP (by rw [e])) (fun d e => ⟨m, e, h1m, Nat.le_refl _⟩) hm2 hi hN hv h1 h2 hg he hpl he2).imp fun d ⟨z, k, e1, e2, h3, h4⟩ => ⟨k, e2, by omega⟩
end
theorem EvA.imp {X : Cx} {W : Wd} {Γ : List DV} {μ : Mu} {es : List Expr} {A B : List PyData → Prop} (h : EvA X W Γ μ es A) (i : ∀ d, A d → B d) : EvA X W Γ μ es B := fun σ H R Q k => h σ H R Q fun v d H2 R2 x2 r p => k v d H2 R2 x2 r (i d p)

/-! ### the plain law -/
theorem mapIdx_range (m : List Nat) : m.mapIdx Prod.mk = (List.range m.length).map fun i => (i, m.getD i 0) := by
  apply List.ext_getElem?
  intro i
  rw [List.getElem?_mapIdx, List.getElem?_map]
  by_cases h : i < m.length
  · rw [List.getElem?_range h, List.getElem?_eq_getElem h]
    show some (i, m[i]) = some (i, m.getD i 0)
    rw [List.getD_eq_getElem?_getD, List.getElem?_eq_getElem h]
    rfl
  · rw [List.getElem?_eq_none (by omega), List.getElem?_eq_none (by simp; omega)]
    rfl
theorem open_seen (m : List Nat) : openL m = seenL m := by
  unfold seenL openL
  rw [mapIdx_range, List.filter_map, List.map_map]
  have e : (Prod.fst ∘ fun i => (i, m.getD i 0)) = (id : Nat → Nat) := rfl
  rw [e, List.map_id]
  rfl
theorem mem_open {m : List Nat} {a : Nat} (h : a ∈ openL m) : a < m.length := by
  have := (List.mem_filter.mp h).1
  simpa using this
theorem shp_w {ws : List (List Nat)} (h : ∀ v ∈ ws, ∀ c ∈ v, c < 128) : Shp 1 (wD ws) := Shp.list fun x hx => by
  obtain ⟨v, hv, rfl⟩ := List.mem_map.mp hx
  exact Shp.str (h v hv)

end HW
set_option maxHeartbeats 4000000
namespace HW
open PySem PySem.Spec PyProof.Rows L2
open SX (S)
section
variable {X : Cx} {W W0 : Wd} {Γ : List DV} {μ : Mu} {e c a b : Expr} {rest sts body : List Stmt} {D : Ends} {d x y : PyData} {pos p p1 p2 p3 : Pos} {n n1 n2 : Str} {α : Type}
/-- for n1, n2 in iter -/
theorem run_for2 {xs : List α} {iter : Expr} {e1 e2 : α → PyData} {kk : Nat} {tpos : Pos} (k1 k2 : Nat) (hi : IterD X W Γ μ (.Tuple [.Name n1 p1, .Name n2 p2] kk tpos) iter (fun x => pr2 (e1 x) (e2 x)) xs) (J : Nat → List DV → Mu → Prop) (h0 : J 0 Γ μ)
    (hs : ∀ W1, Wle W W1 → ∀ i x Γ' μ', xs[i]? = some x → J i Γ' μ' → Run X W1 ((Γ'.set k1 (.d (e1 x))).set k2 (.d (e2 x))) μ' body { D with nx := StP X.K W1 (J (i + 1)), ct := StP X.K W1 (J (i + 1)), bk := wSs X rest D })
    (hd' : ∀ Γ' μ', J xs.length Γ' μ' → Run X W Γ' μ' rest D) (hN : X.N.Nodup) (hn1 : X.N[k1]? = some n1 := by rfl) (hn2 : X.N[k2]? = some n2 := by rfl) (hx1 : Loc X.env.scope n1 := by first | exact Or.inl rfl | exact Or.inr rfl) (hx2 : Loc X.env.scope n2 := by first | exact Or.inl rfl | exact Or.inr rfl)
    (hf1 : X.fn n1 = true ∨ X.env.scope.names.lookup n1 = some .local := by first | exact .inr rfl | exact .inl rfl) (hf2 : X.fn n2 = true ∨ X.env.scope.names.lookup n2 = some .local := by first | exact .inr rfl | exact .inl rfl)
    (hp : PassesOwn (model X.prog X.w) X.A X.env X.xe := by exact PassesOwn.never) (hc : X.calm = true := by rfl) (hf : ∀ x, foldedSetIterable iter X.env x = pure x := by intro _; rfl) :
    Run X W Γ μ (.For (.Tuple [.Name n1 p1, .Name n2 p2] kk tpos) iter body [] pos :: rest) D :=
  run_forG hi (tg_pair (tg_name (K := X.K) k1) (tg_name k2)) (pg_tup hc (pgs_cons (pg_name hN hn1 hx1 hf1) (pgs_cons (pg_name hN hn2 hx2 hf2) pgs_nil))) (fun _ _ x _ => ⟨e1 x, e2 x, rfl, trivial, trivial⟩) (fun _ => J) (fun _ _ => h0) (fun _ e W1 l i x Γ' μ' h j => hs W1 l i x Γ' μ' (e ▸ h) j) (fun _ e Γ' μ' j => hd' Γ' μ' (e ▸ j)) hp hc hf
/-- while c: the state J m with the measure m; c tells b m -/
theorem run_while {c : Expr} (J : Nat → List DV → Mu → Prop) (B : Nat → Bool) (m0 : Nat) (h0 : J m0 Γ μ) (hc : ∀ W1, Wle W W1 → ∀ m Γ' μ', J m Γ' μ' → EdT X W1 Γ' μ' c (B m))
    (hs : ∀ W1, Wle W W1 → ∀ m Γ' μ', B m = true → J m Γ' μ' → Run X W1 Γ' μ' body { D with nx := StP X.K W1 (fun Γ2 μ2 => ∃ m', m' < m ∧ J m' Γ2 μ2), ct := StP X.K W1 (fun Γ2 μ2 => ∃ m', m' < m ∧ J m' Γ2 μ2), bk := wSs X rest D })
    (hd' : ∀ m Γ' μ', B m = false → J m Γ' μ' → Run X W Γ' μ' rest D) (hp : PassesOwn (model X.prog X.w) X.A X.env X.xe := by exact PassesOwn.never) :
    Run X W Γ μ (.While c body [] pos :: rest) D := fun σ H R => by
  refine wSs_cons ((ps_while hp wT.pt wSs.ps).w ⟨fun m => StP X.K (W.now μ H) (J m), ⟨m0, Γ, μ, h0, R.now⟩, ?_⟩)
  have le1 : Wle W (W.now μ H) := R.now_le
  rintro m σ' H' ⟨Γ', μ', j, R'⟩
  refine hc _ le1 m Γ' μ' j σ' H' R' _ fun H2 R2 _ => ?_
  cases hb : B m with
  | true =>
    refine iteT ⟨StP X.K (W.now μ H) (fun Γ2 μ2 => ∃ m', m' < m ∧ J m' Γ2 μ2), fun σ2 H3 ⟨Γ2, μ2, ⟨m', hm, j'⟩, R3⟩ => ⟨m', hm, Γ2, μ2, j', R3⟩, ?_⟩
    exact hs _ le1 m Γ' μ' hb j σ' H2 R2
  | false => exact iteF (hd' m Γ' μ' hb j σ' H2 (R2.wdown le1 R.wd))
end
end HW
set_option maxHeartbeats 4000000
namespace HW
open PySem PySem.Spec PyProof.Rows L2
open SX (S)
/-! ### views -/
def viewL (l m : List Nat) (p : Nat) : List Nat := (seenL m).map fun a => l.getD (p + a) 0
def viewsL (l m : List Nat) : List (List Nat) := (List.range (l.length + 1 - m.length)).map (viewL l m)
def tellsB (l m : List Nat) : Bool := decide (viewsL l m).Nodup
theorem viewsL_len (l m : List Nat) : (viewsL l m).length = l.length + 1 - m.length := by simp [viewsL]
theorem mem_seen {m : List Nat} {a : Nat} (h : a ∈ seenL m) : a < m.length := mem_open (open_seen m ▸ h)
theorem maskB_pos {m : List Nat} (h : maskB m = true) : 1 ≤ m.length := by
  unfold maskB at h
  simp only [Bool.and_eq_true, decide_eq_true_eq] at h
  exact h.1.1.1.1
def R_view_by (ds : List PyData) (d : PyData) : Prop := ∃ (l m : List Nat) (p : Nat), ds = [sD l, sD m, nn p] ∧ l.length ≤ 4000 ∧ m.length ≤ 4000 ∧ p + m.length ≤ l.length ∧ d = sD (viewL l m p)
def R_is_from (ds : List PyData) (d : PyData) : Prop := ∃ v a b : Int, ds = [.int v, .int a, .int b] ∧ d = .bool (decide (a ≤ v) && decide (v ≤ b))
def R_need_letters (ds : List PyData) (d : PyData) : Prop := ∃ n : Nat, ds = [nn n] ∧ 1 ≤ n ∧ n ≤ 4 ∧ d = .none
def letL (n : Nat) : List Nat := [97, 98, 99, 100].take n
theorem mem_letL {n c : Nat} (hn : n ≤ 4) : c ∈ letL n ↔ 97 ≤ c ∧ c < 97 + n := by
  unfold letL
  match n, hn with
  | 0, _ => constructor <;> intro h <;> first | omega | simp at h
  | 1, _ => simp; omega
  | 2, _ => simp; omega
  | 3, _ => simp; omega
  | 4, _ => simp; omega
theorem letL_len {n : Nat} (hn : n ≤ 4) : (letL n).length = n := by simp [letL]; omega
theorem flat_len {α β : Type} (f : α → List β) (c : Nat) : ∀ l : List α, (∀ x ∈ l, (f x).length ≤ c) → (l.flatMap f).length ≤ l.length * c
  | [], _ => by simp
  | x :: l, h => by
    have h1 := h x List.mem_cons_self
    have h2 := flat_len f c l fun y hy => h y (List.mem_cons_of_mem _ hy)
    rw [List.flatMap_cons, List.length_append, List.length_cons, Nat.add_mul]
    omega

/-! ### draws in use -/
section
variable {X : Cx} {W : Wd} {Γ : List DV} {μ : Mu} {a b e i : Expr} {pos p p2 : Pos} {n : Str} {r scr : Addr} {ns : List Int} {k : Nat}
/-- [..][draw] -/
theorem ev_pick (xs : List PyData) (he : Ed X W Γ μ e (.list xs)) (hi : Ev X W Γ μ i (fun d => ∃ q : Nat, d = nn q ∧ q < xs.length)) (hs : PlainIx i := by exact fun _ _ => rfl) : Ev X W Γ μ (.Subscript e i pos) (fun z => z ∈ xs) :=
  ev_ix he.ev hi (fun x y ex ⟨q, ey, hq⟩ => by
    subst ex
    subst ey
    exact ⟨xs[q], List.getElem_mem hq, i_list (n := q) (List.getElem?_eq_getElem hq)⟩) hs
end
end HW
set_option maxHeartbeats 4000000
namespace HW
open PySem PySem.Spec PyProof.Rows L2
open SX (S)
section
variable {X : Cx} {w : List Nat} {ws : List (List Nat)} {ds : List PyData}
theorem inV_S (w : List Nat) : ∀ ws : List (List Nat), inV (.str (S w)) ((ws.map S).map V.str) = decide (w ∈ ws)
  | [] => rfl
  | v :: ws => by
    have ih := inV_S w ws
    unfold inV at ih ⊢
    rw [List.map_cons, List.map_cons, List.any_cons, ih]
    have e : eqV (V.str (S v)) (V.str (S w)) = decide (w = v) := by
      show (S v == S w) = _
      rw [SX.S_beq_eq]
      exact decide_eq_decide.mpr ⟨Eq.symm, Eq.symm⟩
    rw [e]
    by_cases h : w = v
    · subst h; simp
    · simp [h]
theorem flat_S : ∀ ws : List (List Nat), ((ws.map S).map V.str).all flatV = true
  | [] => rfl
  | v :: ws => by rw [List.map_cons, List.map_cons, List.all_cons, flat_S ws]; rfl
theorem c_ninTS : OpD X (compareOp .NotIn) (sD w) (.tuple (ws.map sD)) (.bool (!decide (w ∈ ws))) := OpR.to op_notIn_seq fun a b H Q ⟨L, _, ha, hb, k⟩ => by
  cases ha
  cases hb with
  | tup hl hv =>
    have ev := vaAll_S hv
    subst ev
    refine ⟨_, _, rfl, .inr (SqT.up same_off hl), rfl, flat_S ws, ?_⟩
    show Q (.bl (!inV _ _)) H
    rw [inV_S]
    exact k _ _ (Same.refl _) (.bl _)
/-- xs == [], xs != [] -/
theorem eqv_nil (ds : List PyData) : PyData.eqv (.list ds) (.list []) = ds.isEmpty := by cases ds <;> rfl
theorem c_neNil {n : Nat} (hu : X.A.units + 64 < cLine) (h : Shp n (.list ds)) (hn : n ≤ 64 := by decide) : OpD X (compareOp .NotEq) (.list ds) (.list []) (.bool (!ds.isEmpty)) := by
  have z := c_neD (X := X) (y := .list []) hu (h.ok hn) rfl
  rw [eqv_nil] at z
  exact z
end
end HW
set_option maxHeartbeats 4000000
namespace HW
open PySem PySem.Spec PyProof.Rows L2
open SX (S)
section
variable {X : Cx} {W W0 : Wd} {Γ : List DV} {μ : Mu} {b : Expr} {rest : List Stmt} {D : Ends} {x y : PyData} {pos p p1 p2 pl : Pos} {n1 n2 : Str}
/-- n1, n2 = [], b : n1 a local list -/
theorem run_parL0 (i j : Nat) {kt k2 : Nat} {pt pt2 : Pos} (hb : ∀ l, Ed X W Γ ((l, .lst []) :: μ) b y) (h : ∀ l, Run X W ((Γ.set i (.r l)).set j (.d y)) ((l, .lst []) :: μ) rest D) (hN : X.N.Nodup) (hij : i ≠ j := by decide) (hi : X.N[i]? = some n1 := by rfl) (hj : X.N[j]? = some n2 := by rfl)
    (hx : X.env.scope.names.lookup n1 = some .local := by rfl) (hy : X.env.scope.names.lookup n2 = some .local := by rfl) (hc : X.calm = true := by rfl)
    (hw : swappedStores [.Tuple [.Name n1 p1, .Name n2 p2] kt pt] (.Tuple [.List [] pl, b] k2 pt2) X.env = pure (some [n1, n2]) := by rfl)
    (hs : swapsWithSole [.Tuple [.Name n1 p1, .Name n2 p2] kt pt] (.Tuple [.List [] pl, b] k2 pt2) pos.line X.env = pure false := by rfl)
    (hs1 : starEach [.List [] pl, b] X.env = (false, eval (.List [] pl) X.env) :: starEach [b] X.env := by rfl) (hs2 : starEach [b] X.env = (false, eval b X.env) :: starEach [] X.env := by rfl) :
    Run X W Γ μ (.Assign [.Tuple [.Name n1 p1, .Name n2 p2] kt pt] (.Tuple [.List [] pl, b] k2 pt2) pos :: rest) D := fun σ H R =>
  wSs_cons ((ps_par hc hN hi hj hij hx hy (pa_cons (pe_lst pa_nil) (pa_cons wE.pe pa_nil hs2) hs1) hw hs).w ⟨Nat.zero_le _, fun l hl => by
    have R1 := R.born (m := .lst []) (o := .lst []) hl ⟨[], upd_same, .nil⟩
    exact hb l σ _ R1 _ fun v H2 R2 x2 r2 => ⟨_, _, rfl, h l _ _ ⟨R2.wd, R2.fr, (R2.sl.setr i).set j r2, R2.mu, R2.nd⟩⟩⟩)
/-- n1, n2 = a, [] : n2 a local list -/
theorem run_parL1 {a : Expr} (i j : Nat) {kt k2 : Nat} {pt pt2 : Pos} (ha : Ed X W Γ μ a x) (h : ∀ l, Run X W ((Γ.set i (.d x)).set j (.r l)) ((l, .lst []) :: μ) rest D) (hN : X.N.Nodup) (hij : i ≠ j := by decide) (hi : X.N[i]? = some n1 := by rfl) (hj : X.N[j]? = some n2 := by rfl)
    (hx : X.env.scope.names.lookup n1 = some .local := by rfl) (hy : X.env.scope.names.lookup n2 = some .local := by rfl) (hc : X.calm = true := by rfl)
    (hw : swappedStores [.Tuple [.Name n1 p1, .Name n2 p2] kt pt] (.Tuple [a, .List [] pl] k2 pt2) X.env = pure (some [n1, n2]) := by rfl)
    (hs : swapsWithSole [.Tuple [.Name n1 p1, .Name n2 p2] kt pt] (.Tuple [a, .List [] pl] k2 pt2) pos.line X.env = pure false := by rfl)
    (hs1 : starEach [a, .List [] pl] X.env = (false, eval a X.env) :: starEach [.List [] pl] X.env := by rfl) (hs2 : starEach [.List [] pl] X.env = (false, eval (.List [] pl) X.env) :: starEach [] X.env := by rfl) :
    Run X W Γ μ (.Assign [.Tuple [.Name n1 p1, .Name n2 p2] kt pt] (.Tuple [a, .List [] pl] k2 pt2) pos :: rest) D := fun σ H R =>
  wSs_cons ((ps_par hc hN hi hj hij hx hy (pa_cons wE.pe (pa_cons (pe_lst pa_nil) pa_nil hs2) hs1) hw hs).w (ha σ H R _ fun v H2 R2 x2 r2 => ⟨Nat.zero_le _, fun l hl => by
    have sm := same_new (o := .lst []) hl
    have R3 : Rep X.K W (Γ.set i (.d x)) μ (σ.set i (some v)) H2 := ⟨R2.wd, R2.fr, R2.sl.set i r2, R2.mu, R2.nd⟩
    have R1 := R3.born (m := .lst []) (o := .lst []) hl ⟨[], upd_same, .nil⟩
    exact ⟨_, _, rfl, h l _ _ ⟨R1.wd, R1.fr, R1.sl.setr j, R1.mu, R1.nd⟩⟩⟩))
end
/-! ### the rows that are told, letter by letter -/
theorem getD_app {l : List Nat} {c i : Nat} (h : i < l.length) : (l ++ [c]).getD i 0 = l.getD i 0 := by
  rw [List.getD_eq_getElem?_getD, List.getD_eq_getElem?_getD, List.getElem?_append_left h]
theorem viewL_app {l m : List Nat} {c p : Nat} (h : p + m.length ≤ l.length) : viewL (l ++ [c]) m p = viewL l m p := by
  unfold viewL
  refine List.map_congr_left fun a ha => getD_app ?_
  have := mem_seen ha
  omega
theorem viewsL_snoc (l m : List Nat) (c : Nat) (hm : 1 ≤ m.length) : viewsL (l ++ [c]) m = if l.length + 1 < m.length then viewsL l m else viewsL l m ++ [viewL (l ++ [c]) m (l.length + 1 - m.length)] := by
  unfold viewsL
  rw [List.length_append, List.length_singleton]
  by_cases h : l.length + 1 < m.length
  · rw [if_pos h]
    have e1 : l.length + 1 + 1 - m.length = 0 := by omega
    have e2 : l.length + 1 - m.length = 0 := by omega
    rw [e1, e2]
    rfl
  · rw [if_neg h]
    have e1 : l.length + 1 + 1 - m.length = (l.length + 1 - m.length) + 1 := by omega
    rw [e1, List.range_succ, List.map_append]
    congr 1
    refine List.map_congr_left fun p hp => viewL_app ?_
    have := List.mem_range.mp hp
    omega
def okC (m r : List Nat) (c : Nat) : Bool := decide (r.length + 1 < m.length) || !decide (viewL (r ++ [c]) m (r.length + 1 - m.length) ∈ viewsL r m)
theorem tells_snoc (r m : List Nat) (c : Nat) (hm : 1 ≤ m.length) : tellsB (r ++ [c]) m = (tellsB r m && okC m r c) := by
  unfold tellsB okC
  rw [viewsL_snoc r m c hm]
  by_cases h : r.length + 1 < m.length
  · rw [if_pos h, decide_eq_true h]
    simp
  · rw [if_neg h, decide_eq_false h, Bool.false_or, Bool.eq_iff_iff]
    simp only [decide_eq_true_eq, Bool.and_eq_true, Bool.not_eq_true', decide_eq_false_iff_not]
    rw [List.nodup_append]
    constructor
    · rintro ⟨h1, _, h3⟩
      exact ⟨h1, fun q => h3 _ q _ (List.mem_singleton.mpr rfl) rfl⟩
    · rintro ⟨h1, h2⟩
      exact ⟨h1, by simp, fun a ha b hb => by rw [List.mem_singleton.mp hb]; rintro rfl; exact h2 ha⟩
def stepR (m : List Nat) (n : Nat) (r : List Nat) : List (List Nat) := ((letL n).filter (okC m r)).map fun c => r ++ [c]
def nextL (m : List Nat) (n : Nat) (rs : List (List Nat)) : List (List Nat) := rs.flatMap (stepR m n)
def lev (m : List Nat) (n : Nat) : Nat → List (List Nat)
  | 0 => [[]]
  | k + 1 => nextL m n (lev m n k)
theorem stepR_len (m : List Nat) {n : Nat} (hn : n ≤ 4) (r : List Nat) : (stepR m n r).length ≤ n := by
  unfold stepR
  rw [List.length_map]
  exact Nat.le_trans (List.length_filter_le ..) (by rw [letL_len hn]; exact Nat.le_refl _)
theorem lev_len (m : List Nat) {n : Nat} (hn : n ≤ 4) : ∀ k, (lev m n k).length ≤ n ^ k
  | 0 => by simp [lev]
  | k + 1 => by
    have h1 := flat_len (stepR m n) n (lev m n k) (fun r _ => stepR_len m hn r)
    have h2 := Nat.mul_le_mul_right n (lev_len m hn k)
    rw [← Nat.pow_succ] at h2
    exact Nat.le_trans h1 h2
theorem mem_lev {m : List Nat} {n : Nat} (hm : 1 ≤ m.length) (hn : n ≤ 4) : ∀ {k : Nat} {r : List Nat}, r ∈ lev m n k ↔ r.length = k ∧ lowL n r ∧ tellsB r m = true
  | 0, r => by
    constructor
    · intro h
      have e : r = [] := by simpa [lev] using h
      subst e
      refine ⟨rfl, (fun c hc => nomatch hc), ?_⟩
      unfold tellsB viewsL
      have : ([] : List Nat).length + 1 - m.length = 0 := by simp; omega
      rw [this]
      rfl
    · rintro ⟨h, _⟩
      have e : r = [] := List.length_eq_zero_iff.mp h
      subst e
      simp [lev]
  | k + 1, r => by
    show r ∈ (lev m n k).flatMap (stepR m n) ↔ _
    rw [List.mem_flatMap]
    constructor
    · rintro ⟨q, hq, hr⟩
      obtain ⟨h1, h2, h3⟩ := (mem_lev hm hn).mp hq
      unfold stepR at hr
      obtain ⟨c, hc, rfl⟩ := List.mem_map.mp hr
      obtain ⟨hc1, hc2⟩ := List.mem_filter.mp hc
      refine ⟨by simp [h1], fun x hx => ?_, by rw [tells_snoc q m c hm, h3, hc2]; rfl⟩
      rcases List.mem_append.mp hx with z | z
      · exact h2 x z
      · rw [List.mem_singleton.mp z]
        exact (mem_letL hn).mp hc1
    · rintro ⟨h1, h2, h3⟩
      have hne : r ≠ [] := by rintro rfl; simp at h1
      have er := List.dropLast_concat_getLast hne
      refine ⟨r.dropLast, (mem_lev hm hn).mpr ⟨by simp [h1], fun c hc => h2 c (List.dropLast_subset r hc), ?_⟩, ?_⟩
      · rw [← er, tells_snoc _ m _ hm, Bool.and_eq_true] at h3
        exact h3.1
      · unfold stepR
        refine List.mem_map.mpr ⟨r.getLast hne, List.mem_filter.mpr ⟨(mem_letL hn).mpr (h2 _ (List.getLast_mem hne)), ?_⟩, er⟩
        rw [← er, tells_snoc _ m _ hm, Bool.and_eq_true] at h3
        exact h3.2
/-! counting -/
theorem nodup_len {α : Type} [DecidableEq α] : ∀ (l D : List α), l.Nodup → (∀ x ∈ l, x ∈ D) → l.length ≤ D.length
  | [], _, _, _ => Nat.zero_le _
  | x :: l, D, h, s => by
    have h1 := List.nodup_cons.mp h
    have hx := s x List.mem_cons_self
    have ih := nodup_len l (D.erase x) h1.2 fun y hy => (List.mem_erase_of_ne (by rintro rfl; exact h1.1 hy)).mpr (s y (List.mem_cons_of_mem _ hy))
    rw [List.length_erase_of_mem hx] at ih
    have := List.length_pos_of_mem hx
    rw [List.length_cons]
    omega
def words (n : Nat) : Nat → List (List Nat)
  | 0 => [[]]
  | s + 1 => (words n s).flatMap fun v => (letL n).map fun c => v ++ [c]
theorem words_len {n : Nat} (hn : n ≤ 4) : ∀ s, (words n s).length ≤ n ^ s
  | 0 => by simp [words]
  | s + 1 => by
    have h1 := flat_len (fun v : List Nat => (letL n).map fun c => v ++ [c]) n (words n s) (fun v _ => by rw [List.length_map, letL_len hn]; exact Nat.le_refl _)
    have h2 := Nat.mul_le_mul_right n (words_len hn s)
    rw [← Nat.pow_succ] at h2
    exact Nat.le_trans h1 h2
theorem mem_words {n : Nat} (hn : n ≤ 4) : ∀ {s : Nat} {v : List Nat}, v.length = s → lowL n v → v ∈ words n s
  | 0, v, h, _ => by
    have e : v = [] := List.length_eq_zero_iff.mp h
    subst e
    simp [words]
  | s + 1, v, h, hl => by
    have hne : v ≠ [] := by rintro rfl; simp at h
    refine List.mem_flatMap.mpr ⟨v.dropLast, mem_words hn (by simp [h]) fun c hc => hl c (List.dropLast_subset v hc), ?_⟩
    exact List.mem_map.mpr ⟨v.getLast hne, (mem_letL hn).mpr (hl _ (List.getLast_mem hne)), List.dropLast_concat_getLast hne⟩
theorem viewL_low {l m : List Nat} {n p : Nat} (hl : lowL n l) (h : p + m.length ≤ l.length) : lowL n (viewL l m p) := by
  intro c hc
  unfold viewL at hc
  obtain ⟨a, ha, rfl⟩ := List.mem_map.mp hc
  have h1 := mem_seen ha
  have h2 : p + a < l.length := by omega
  rw [List.getD_eq_getElem?_getD, List.getElem?_eq_getElem h2]
  exact hl _ (List.getElem_mem h2)
theorem viewL_len (l m : List Nat) (p : Nat) : (viewL l m p).length = (seenL m).length := by simp [viewL]
/-- a told row has at most so many places -/
theorem told_bound {r m : List Nat} {n : Nat} (hm : 1 ≤ m.length) (hn : n ≤ 4) (hl : lowL n r) (ht : tellsB r m = true) : r.length + 1 - m.length ≤ n ^ (seenL m).length := by
  unfold tellsB at ht
  have h := nodup_len (viewsL r m) (words n (seenL m).length) (of_decide_eq_true ht) fun v hv => by
    unfold viewsL at hv
    obtain ⟨p, hp, rfl⟩ := List.mem_map.mp hv
    have := List.mem_range.mp hp
    exact mem_words hn (viewL_len _ _ _) (viewL_low hl (by omega))
  rw [viewsL_len] at h
  exact Nat.le_trans h (words_len hn _)
theorem lev_top {m : List Nat} {n k : Nat} (hm : 1 ≤ m.length) (hn : n ≤ 4) (h : lev m n k ≠ []) : k + 1 ≤ n ^ (seenL m).length + m.length := by
  obtain ⟨r, hr⟩ := List.exists_mem_of_ne_nil _ h
  obtain ⟨h1, h2, h3⟩ := (mem_lev hm hn).mp hr
  have := told_bound hm hn h2 h3
  omega
theorem lev_nil {m : List Nat} {n k : Nat} (h : lev m n k = []) : ∀ j, k ≤ j → lev m n j = []
  | 0, hj => by have : k = 0 := by omega
                subst this; exact h
  | j + 1, hj => by
    by_cases e : k = j + 1
    · subst e; exact h
    · show nextL m n (lev m n j) = []
      rw [lev_nil h j (by omega)]
      rfl
/-- small enough -/
structure Small (m : List Nat) (n : Nat) : Prop where
  mask : maskB m = true
  lo : 1 ≤ n
  hi : n ≤ 4
  wide : m.length ≤ [12, 8, 5, 4].getD (n - 1) 0
  seen : (seenL m).length ≤ [12, 4, 2, 1].getD (n - 1) 0
theorem Small.bound {m : List Nat} {n : Nat} (h : Small m n) : n ^ (n ^ (seenL m).length + m.length - 1) ≤ 8388608 ∧ n ^ (seenL m).length ≤ 16 := by
  obtain ⟨_, lo, hi, wide, seen⟩ := h
  match n, lo, hi with
  | 1, _, _ => simp
  | 2, _, _ =>
    have w : m.length ≤ 8 := wide
    have s : (seenL m).length ≤ 4 := seen
    have h1 : 2 ^ (seenL m).length ≤ 2 ^ 4 := Nat.pow_le_pow_right (by decide) s
    refine ⟨Nat.le_trans (Nat.pow_le_pow_right (by decide) (show _ ≤ 23 by omega)) (by decide), h1⟩
  | 3, _, _ =>
    have w : m.length ≤ 5 := wide
    have s : (seenL m).length ≤ 2 := seen
    have h1 : 3 ^ (seenL m).length ≤ 3 ^ 2 := Nat.pow_le_pow_right (by decide) s
    refine ⟨Nat.le_trans (Nat.pow_le_pow_right (by decide) (show _ ≤ 13 by omega)) (by decide), by omega⟩
  | 4, _, _ =>
    have w : m.length ≤ 4 := wide
    have s : (seenL m).length ≤ 1 := seen
    have h1 : 4 ^ (seenL m).length ≤ 4 ^ 1 := Nat.pow_le_pow_right (by decide) s
    refine ⟨Nat.le_trans (Nat.pow_le_pow_right (by decide) (show _ ≤ 7 by omega)) (by decide), by omega⟩
theorem Small.pos {m : List Nat} {n : Nat} (h : Small m n) : 1 ≤ m.length := maskB_pos h.mask
theorem Small.top {m : List Nat} {n k : Nat} (h : Small m n) (hk : lev m n k ≠ []) : k + 1 ≤ 16 + m.length := by
  have := lev_top h.pos h.hi hk
  have := h.bound.2
  omega
theorem Small.len {m : List Nat} {n : Nat} (h : Small m n) (k : Nat) : (lev m n k).length ≤ 8388608 := by
  by_cases e : lev m n k = []
  · rw [e]; exact Nat.zero_le _
  · have h1 := lev_top h.pos h.hi e
    exact Nat.le_trans (lev_len m h.hi k) (Nat.le_trans (Nat.pow_le_pow_right h.lo (by omega)) h.bound.1)
/-- where the levels end -/
theorem exists_top (m : List Nat) (n T : Nat) (hT : lev m n T = []) : ∃ K, K ≤ T ∧ lev m n K = [] ∧ ∀ j, j < K → lev m n j ≠ [] := by
  induction T with
  | zero => exact ⟨0, Nat.le_refl _, hT, fun j hj => by omega⟩
  | succ T ih =>
    by_cases e : lev m n T = []
    · obtain ⟨K, h1, h2, h3⟩ := ih e
      exact ⟨K, by omega, h2, h3⟩
    · refine ⟨T + 1, Nat.le_refl _, hT, fun j hj q => ?_⟩
      exact e (lev_nil q T (by omega))
theorem Small.ends {m : List Nat} {n : Nat} (h : Small m n) : lev m n (16 + m.length) = [] := by
  by_cases e : lev m n (16 + m.length) = []
  · exact e
  · have := h.top e
    omega
/-- the least k without a row -/
noncomputable def topK (m : List Nat) (n : Nat) : Nat := open Classical in if h : ∃ K, lev m n K = [] ∧ ∀ j, j < K → lev m n j ≠ [] then h.choose else 0
theorem Small.topK {m : List Nat} {n : Nat} (h : Small m n) : lev m n (topK m n) = [] ∧ ∀ j, j < HW.topK m n → lev m n j ≠ [] := by
  have ex : ∃ K, lev m n K = [] ∧ ∀ j, j < K → lev m n j ≠ [] := by
    obtain ⟨K, _, h2⟩ := exists_top m n _ h.ends
    exact ⟨K, h2⟩
  unfold HW.topK
  rw [dif_pos ex]
  exact ex.choose_spec
theorem topK_eq {m : List Nat} {n K : Nat} (hs : Small m n) (h1 : lev m n K = []) (h2 : ∀ j, j < K → lev m n j ≠ []) : K = topK m n := by
  obtain ⟨g1, g2⟩ := hs.topK
  rcases Nat.lt_trichotomy K (topK m n) with h | h | h
  · exact absurd h1 (g2 K h)
  · exact h
  · exact absurd g1 (h2 _ h)
theorem Small.topK_pos {m : List Nat} {n : Nat} (h : Small m n) : 1 ≤ HW.topK m n := by
  obtain ⟨g1, g2⟩ := h.topK
  rcases Nat.eq_zero_or_pos (HW.topK m n) with e | e
  · rw [e] at g1
    simp [lev] at g1
  · exact e
/-! as data -/
abbrev rowT (m r : List Nat) : PyData := pr2 (sD r) (.tuple ((viewsL r m).map sD))
abbrev rowsT (m : List Nat) (rs : List (List Nat)) : PyData := .list (rs.map (rowT m))
def R_need_small (ds : List PyData) (d : PyData) : Prop := ∃ (m : List Nat) (n : Nat), ds = [sD m, nn n] ∧ Small m n ∧ d = .none
def R_longer (ds : List PyData) (d : PyData) : Prop := ∃ (rs : List (List Nat)) (m : List Nat) (n : Nat), ds = [rowsT m rs, sD m, nn n] ∧ 1 ≤ n ∧ n ≤ 4 ∧ maskB m = true ∧ (∀ r ∈ rs, r.length ≤ 3000) ∧ rs.length ≤ 16777216 ∧ (nextL m n rs).length < 16777216 ∧ d = rowsT m (nextL m n rs)
noncomputable def levelsD (m : List Nat) (n : Nat) : PyData := .list ((List.range (topK m n)).map fun j => wD (lev m n j))
def R_levels_of (ds : List PyData) (d : PyData) : Prop := ∃ (m : List Nat) (n : Nat), ds = [sD m, nn n] ∧ Small m n ∧ d = levelsD m n
theorem low_128 {n : Nat} {l : List Nat} (hn : n ≤ 4) (h : lowL n l) : ∀ c ∈ l, c < 128 := fun c hc => by
  have := h c hc
  omega
theorem shp_rowT {n : Nat} (hn : n ≤ 4) {m r : List Nat} (h : lowL n r) : Shp 2 (rowT m r) := Shp.tup fun x hx => by
  rcases List.mem_cons.mp hx with e | hx
  · rw [e]; exact (Shp.str (low_128 hn h)).up (by decide)
  · rw [List.mem_singleton.mp hx]
    refine Shp.tup fun y hy => ?_
    obtain ⟨v, hv, rfl⟩ := List.mem_map.mp hy
    unfold viewsL at hv
    obtain ⟨p, hp, rfl⟩ := List.mem_map.mp hv
    have := List.mem_range.mp hp
    by_cases hm : 1 ≤ m.length
    · exact Shp.str (low_128 hn (viewL_low h (by omega)))
    · have em : m = [] := List.length_eq_zero_iff.mp (by omega)
      subst em
      exact Shp.str (l := viewL r [] p) (fun c hc => by
        have e : viewL r [] p = [] := rfl
        rw [e] at hc
        cases hc)
theorem shp_lev {m : List Nat} {n : Nat} (hm : 1 ≤ m.length) (hn : n ≤ 4) (k : Nat) : Shp 3 (rowsT m (lev m n k)) := Shp.list fun x hx => by
  obtain ⟨r, hr, rfl⟩ := List.mem_map.mp hx
  exact shp_rowT hn ((mem_lev hm hn).mp hr).2.1
end HW
set_option maxHeartbeats 4000000
namespace HW
open PySem PySem.Spec PyProof.Rows L2
open SX (S)
section
variable {X : Cx} {W : Wd} {Γ : List DV} {μ : Mu} {n : Str} {pos : Pos} {ns : List Int}
theorem va_ints {K : PySem.W.Frag} {H : Hp} : ∀ ns : List Int, VaAll K H (ns.map V.int) (ns.map PyData.int)
  | [] => .nil
  | n :: ns => .cons (.int n) (va_ints ns)
/-- a constant tuple of ints -/
theorem ed_gtup (hm : HX.gTup X.K X.mg n ns) (hg : Gl X n := by rfl) (h1 : (n == ("__debug__" : Str)) = false := by decide) : Ed X W Γ μ (.Name n pos) (.tuple (ns.map PyData.int)) := by
  obtain ⟨a, hm, hs⟩ := hm
  exact ed_c (pe_glob hg hm (v := .ref a) rfl h1) fun H => .tup (hs H) (va_ints ns)
end
abbrev gWID (K : PySem.W.Frag) (mg : Str → Option Value) : Prop := HX.gTup K mg "MOST_WIDTHS" [12, 8, 5, 4]
abbrev gSEE (K : PySem.W.Frag) (mg : Str → Option Value) : Prop := HX.gTup K mg "MOST_SEEN" [12, 4, 2, 1]
end HW
set_option maxHeartbeats 4000000
namespace HW
open PySem PySem.Spec PyProof.Rows L2
open SX (S)
/-! ### comprehensions with two for -/
/-- what a walked thing wants -/
def wI (X : Cx) (tg iter : Expr) : TI := fun σ H R => ∀ (pins : List (Addr × Obj)) (s : Shared), Inv X pins σ H s → wpAny (model X.prog X.w) X.A (eval iter X.env) (fun v s1 => wpAny (model X.prog X.w) X.A (pyIter v) (PIE X pins σ tg R) X.xe s1) X.xe s
theorem wI.pi {X : Cx} {tg iter : Expr} : PI X tg iter (wI X tg iter) := ⟨fun pins s _ _ _ I h => h pins s I⟩
theorem _root_.L2.PI.w {X : Cx} {tg iter : Expr} {t : TI} (h : PI X tg iter t) {σ : L2.St} {H : Hp} {R : It → Hp → Prop} (q : t σ H R) : wI X tg iter σ H R := fun pins s I => h.run pins s σ H R I q
def wIb (X : Cx) (scope : Scope) (tg iter : Expr) : TI := fun σ H R => ∀ s H0 C cl fp, wI (blkOf X scope s H0 C cl fp) tg iter σ H R
theorem wIb.pi {X : Cx} {scope : Scope} {tg iter : Expr} (s : Shared) (H : Hp) (C : Addr) (cl : List (Str × Addr)) (fp : List Addr) : PI (blkOf X scope s H C cl fp) tg iter (wIb X scope tg iter) := ⟨fun pins st _ _ _ I h => h s H C cl fp pins st I⟩
section
variable {X : Cx} {W : Wd} {Γ : List DV} {μ : Mu} {α β : Type} {tg iter tg1 iter1 elt : Expr} {scope : Scope} {enc : α → PyData} {enc1 : β → PyData} {xs : List α} {ys : α → List β} {f : α → β → PyData} {k1 k2 : Nat}
theorem flat_take_succ {γ : Type} {g : α → List γ} {i : Nat} {x : α} (h : xs[i]? = some x) : (xs.take (i + 1)).flatMap g = (xs.take i).flatMap g ++ g x := by
  rw [List.take_add_one, h, List.flatMap_append]
  simp
theorem flat_take_le {γ : Type} {g : α → List γ} (i : Nat) : ((xs.take i).flatMap g).length ≤ (xs.flatMap g).length := by
  have e : xs.flatMap g = (xs.take i).flatMap g ++ (xs.drop i).flatMap g := by rw [← List.flatMap_append, List.take_append_drop]
  rw [e, List.length_append]
  omega
theorem yes_ (σ : L2.St) (H : Hp) (Q : Bool → Hp → Prop) (q : Q true H) : tYes σ H Q := q
theorem lc2_read {wi : TI} (hk : k1 ≠ k2)
    (hi : ∀ σ H, Rep X.K W Γ μ σ H → ∀ R : It → Hp → Prop, (∀ J H1, Rep X.K W Γ μ σ H1 → XT (hd W μ) H H1 → WalkD X.K (off (hd W μ) H1) J (xs.map enc) → R J H1) → wi σ H R)
    (hi1 : ∀ x ∈ xs, ∀ W1, Wle W W1 → ∀ s H C cl fp, IterD (blkOf X scope s H C cl fp) W1 ((wipeD [k1, k2] Γ).set k1 (.d (enc x))) μ tg1 iter1 enc1 (ys x)) (hz : (xs.flatMap fun x => (ys x).map (f x)).length ≤ 16777216)
    (he : ∀ x ∈ xs, ∀ y ∈ ys x, ∀ W1, Wle W W1 → ∀ s H C cl fp, Ed (blkOf X scope s H C cl fp) W1 ((wipeD [k2] ((wipeD [k1, k2] Γ).set k1 (.d (enc x)))).set k2 (.d (enc1 y))) μ elt (f x y))
    {σ : L2.St} {H : Hp} (R : Rep X.K W Γ μ σ H) {Q : VK} (q : ∀ v H2, Rep X.K W Γ μ σ H2 → XT (hd W μ) H H2 → Va X.K (off (hd W μ) H2) v (.list (xs.flatMap fun x => (ys x).map (f x))) → Q v H2) :
    tLc2 wi (gName k1) tYes (wIb X scope tg1 iter1) (gName k2) tYes (wEb X scope elt) [k1, k2] [k2] σ H Q := by
  refine hi σ H R _ fun J H1 R1 e1 wkk D hD => ?_
  let g : α → List PyData := fun x => (ys x).map (f x)
  let vs : List Nat := [k1, k2]
  let Pv : Nat → Hp → Prop := fun i H' => Rep X.K (W.now μ H1) (wipeD vs Γ) ((D, .lst ((xs.take i).flatMap g)) :: μ) (wipe σ vs) H'
  have R1n := R1.now
  have Rw : Rep X.K (W.now μ H1) (wipeD vs Γ) μ (wipe σ vs) H1 := ⟨R1n.wd, R1n.fr, R1n.sl.wipe vs, R1n.mu, R1n.nd⟩
  have h0 : Pv 0 (upd H1 D (.lst [])) := Rw.born hD ⟨[], upd_same, .nil⟩
  have nDmu : ∀ {i H'}, Pv i H' → Same (off (hd W μ) H1) H' := fun Rp a o e => by
    obtain ⟨h1, h2⟩ := off_some e
    refine Rp.fr.keep a o (fun z => h1 (List.mem_append_left _ (Rep.isRow_M Rp.wd z))) ?_
    show off (μ.map (·.1)) H1 a = some o
    rw [off_out (fun z => h1 (List.mem_append_right _ z))]
    exact h2
  have le1 : Wle W (W.now μ H1) := R1.now_le
  refine ⟨fun i m H' => m = xs.length - i ∧ i ≤ xs.length ∧ Pv i H', ⟨xs.length, by simp, Nat.zero_le _, h0⟩, ?_⟩
  rintro i m H' ⟨rfl, hile, Rp⟩
  by_cases hlt : i < xs.length
  · refine .inr ⟨wkk.go i H' (by simpa using hlt) (nDmu Rp), Pv (i + 1), fun H2 p' => ⟨xs.length - (i + 1), by omega, rfl, hlt, p'⟩, fun v H2 y => ?_⟩
    obtain ⟨x, hx⟩ : ∃ x, xs[i]? = some x := ⟨xs[i], by simp [hlt]⟩
    have xin : x ∈ xs := List.mem_of_getElem? hx
    have dx : (xs.map enc)[i]? = some (enc x) := by rw [List.getElem?_map, hx]; rfl
    have pool : Same (off (hd W μ) H1) (off (hd (W.now μ H1) ((D, .lst ((xs.take i).flatMap g)) :: μ)) H') := fun a o e => by
      obtain ⟨h1, h2⟩ := off_some e
      have na : a ≠ D := fun z => by rw [z, hD] at h2; cases h2
      rw [off_out (fun z => by
        rcases List.mem_append.mp z with z | z
        · exact h1 (List.mem_append_left _ z)
        · rw [List.map_cons] at z
          rcases List.mem_cons.mp z with z | z
          · exact na z
          · exact h1 (List.mem_append_right _ z))]
      exact nDmu Rp a o e
    obtain ⟨s2, r2⟩ := wkk.yld i (enc x) H' v H2 _ dx Rp.ne pool y
    have Rp2 := Rp.same s2
    refine (tg_name (K := X.K) k1).run _ v (enc x) (wipe σ vs) H2 _ _ r2 trivial Rp2.sl fun σ3 sl3 l3 u3 => ?_
    refine ⟨wipe_eq (ks := [k1]) (by intro k hk; rw [List.mem_singleton.mp hk]; exact List.mem_cons_self) l3 u3, ?_⟩
    have R3 : Rep X.K (W.now μ H1) ((wipeD vs Γ).set k1 (.d (enc x))) ((D, .lst ((xs.take i).flatMap g)) :: μ) σ3 H2 := ⟨Rp2.wd, Rp2.fr, sl3, Rp2.mu, Rp2.nd⟩
    refine yes_ _ _ _ ?_
    refine iteT ?_
    intro s0 H0 C0 cl0 fp0
    obtain ⟨wj, pj, rj⟩ := hi1 x xin _ (le1.trans (park_le R3)) s0 H0 C0 cl0 fp0
    refine pj.w (rj σ3 H2 R3.park _ fun zs J1 H4 ez R4 x4 wk1 => ?_)
    subst ez
    have x4' := park_xt R3 R4
    have R4' := R3.unpark R4
    -- the inner world
    let acc := (xs.take i).flatMap g
    let WB := (W.now μ H1).now ((D, .lst acc) :: μ) H4
    have leB : Wle (W.now μ H1) WB := R4'.now_le
    let Pw : Nat → Hp → Prop := fun j H5 => Rep X.K WB (wipeD [k2] ((wipeD vs Γ).set k1 (.d (enc x)))) ((D, .lst (acc ++ ((ys x).take j).map (f x))) :: μ) (wipe σ3 [k2]) H5
    have RB := R4'.now
    have w0 : Pw 0 H4 := by
      show Rep X.K WB _ ((D, .lst (acc ++ ((ys x).take 0).map (f x))) :: μ) _ H4
      rw [List.take_zero, List.map_nil, List.append_nil]
      exact ⟨RB.wd, RB.fr, RB.sl.wipe [k2], RB.mu, RB.nd⟩
    have keepB : ∀ {j H5}, Pw j H5 → XT (hd (W.now μ H1) ((D, .lst acc) :: μ)) H4 H5 := fun Rj a o e => by
      obtain ⟨h1, h2⟩ := off_some e
      rw [off_out h1]
      refine Rj.fr.keep a o (fun z => h1 (List.mem_append_left _ (Rep.isRow_M Rj.wd z))) ?_
      show off ((((D, MO.lst acc) :: μ)).map (·.1)) H4 a = some o
      rw [off_out (fun z => h1 (List.mem_append_right _ z))]
      exact h2
    have pk : ∀ a, a ∈ hd ((W.now μ H1).park μ D H2) μ ↔ a ∈ hd (W.now μ H1) ((D, .lst acc) :: μ) := fun a => mem_park
    have pool1 : ∀ {j H5}, Pw j H5 → Same (off (hd ((W.now μ H1).park μ D H2) μ) H4) (off (hd WB ((D, .lst (acc ++ ((ys x).take j).map (f x))) :: μ)) H5) := fun Rj a o e => by
      obtain ⟨h1, h2⟩ := off_some e
      have h1' : a ∉ hd (W.now μ H1) ((D, .lst acc) :: μ) := fun z => h1 ((pk a).mpr z)
      exact keepB Rj a o (by rw [off_out h1']; exact h2)
    have pool1' : ∀ {j H5}, Pw j H5 → Same (off (hd ((W.now μ H1).park μ D H2) μ) H4) H5 := fun Rj a o e => (off_some (pool1 Rj a o e)).2
    have hacc : ∀ j, j ≤ (ys x).length → (acc ++ ((ys x).take j).map (f x)).length ≤ ((xs.take (i + 1)).flatMap g).length := fun j hj => by
      have h3 : ((xs.take (i + 1)).flatMap g).length = acc.length + (ys x).length := by
        rw [flat_take_succ hx, List.length_append]
        show _ + ((ys x).map (f x)).length = _
        rw [List.length_map]
      have h4 : (acc ++ ((ys x).take j).map (f x)).length ≤ acc.length + (ys x).length := by
        rw [List.length_append, List.length_map, List.length_take]
        omega
      exact Nat.le_trans h4 (Nat.le_of_eq h3.symm)
    have hz' : (xs.flatMap g).length ≤ 16777216 := hz
    have htot := flat_take_le (xs := xs) (g := g) (i + 1)
    refine ⟨fun j k H5 => k = (ys x).length - j ∧ j ≤ (ys x).length ∧ Pw j H5, ⟨(ys x).length, by simp, Nat.zero_le _, w0⟩, ?_⟩
    rintro j k H5 ⟨rfl, hjle, Rj⟩
    by_cases hlj : j < (ys x).length
    · refine .inr ⟨wk1.go j H5 (by simpa using hlj) (pool1' Rj), Pw (j + 1), fun H6 p' => ⟨(ys x).length - (j + 1), by omega, rfl, hlj, p'⟩, fun v1 H6 y1 => ?_⟩
      obtain ⟨b, hb⟩ : ∃ b, (ys x)[j]? = some b := ⟨(ys x)[j], by simp [hlj]⟩
      have bin : b ∈ ys x := List.mem_of_getElem? hb
      have db : ((ys x).map enc1)[j]? = some (enc1 b) := by rw [List.getElem?_map, hb]; rfl
      obtain ⟨s6, r6⟩ := wk1.yld j (enc1 b) H5 v1 H6 _ db Rj.ne (pool1 Rj) y1
      have Rj2 := Rj.same s6
      refine (tg_name (K := X.K) k2).run _ v1 (enc1 b) (wipe σ3 [k2]) H6 _ _ r6 trivial Rj2.sl fun σ4 sl4 l4 u4 => ?_
      refine ⟨wipe_eq (ks := [k2]) (by intro k hk; exact hk) l4 u4, ?_⟩
      have R6 : Rep X.K WB ((wipeD [k2] ((wipeD vs Γ).set k1 (.d (enc x)))).set k2 (.d (enc1 b))) ((D, .lst (acc ++ ((ys x).take j).map (f x))) :: μ) σ4 H6 := ⟨Rj2.wd, Rj2.fr, sl4, Rj2.mu, Rj2.nd⟩
      refine yes_ _ _ _ ?_
      refine iteT ?_
      intro s9 H9 C9 cl9 fp9
      refine he x xin b bin _ ((le1.trans leB).trans (park_le R6)) s9 H9 C9 cl9 fp9 σ4 H6 R6.park _ fun v5 H7 R7 x7 r7 => ?_
      have x7' := park_xt R6 R7
      have R7' := R6.unpark R7
      obtain ⟨ac, ha, hv⟩ := (R7'.mu _ List.mem_cons_self).2
      refine ⟨ac, ha, ?_, ?_⟩
      · rw [hv.length]
        have h3 := hacc (j + 1) hlj
        rw [List.take_add_one, hb, List.map_append] at h3
        simp only [List.length_append, List.length_map] at h3 ⊢
        have h4 : ((some b).toList.map (f x)).length = 1 := rfl
        simp only [List.length_map] at h4
        show _ < 16777216
        omega
      · have oc : off (hd (WB.park μ D H6) μ) H7 = off (hd WB ((D, .lst (acc ++ ((ys x).take j).map (f x))) :: μ)) H7 := off_cong fun a => mem_park
        have Rb : Rep X.K WB (wipeD [k2] ((wipeD vs Γ).set k1 (.d (enc x)))) ((D, .lst (acc ++ ((ys x).take j).map (f x))) :: μ) (wipe σ3 [k2]) H7 := ⟨R7'.wd, R7'.fr, Rj2.sl.up x7', R7'.mu, R7'.nd⟩
        have z := Rb.chg (j := 0) (m' := .lst ((acc ++ ((ys x).take j).map (f x)) ++ [f x b])) rfl ⟨ac ++ [v5], upd_same, hv.app (.cons (oc ▸ r7) .nil)⟩
        show Rep X.K WB _ ((D, .lst (acc ++ ((ys x).take (j + 1)).map (f x))) :: μ) _ _
        have e : acc ++ ((ys x).take (j + 1)).map (f x) = (acc ++ ((ys x).take j).map (f x)) ++ [f x b] := by
          rw [List.take_add_one, hb, List.map_append, List.append_assoc]
          rfl
        rw [e]
        exact z
    · have e : j = (ys x).length := by omega
      subst e
      refine .inl ⟨by have := wk1.stop H5 (pool1' Rj); simpa using this, ?_⟩
      have xk := keepB Rj
      have x25 : XT (hd (W.now μ H1) ((D, .lst acc) :: μ)) H2 H5 := x4'.trans xk
      have Rd := Rj.wdown leB R4'.wd
      have e2 : (xs.take (i + 1)).flatMap g = acc ++ ((ys x).take (ys x).length).map (f x) := by
        rw [flat_take_succ hx, List.take_length]
      show Rep X.K (W.now μ H1) (wipeD vs Γ) ((D, .lst ((xs.take (i + 1)).flatMap g)) :: μ) (wipe σ vs) H5
      rw [e2]
      exact ⟨Rd.wd, Rd.fr, (Rp2.sl.up x25 : _), Rd.mu, Rd.nd⟩
  · have e : i = xs.length := by omega
    subst e
    refine .inl ⟨by have := wkk.stop H' (nDmu Rp); simpa using this, ?_⟩
    have sm := nDmu Rp
    have Rp' : Rep X.K (W.now μ H1) (wipeD vs Γ) ((D, .lst (xs.flatMap g)) :: μ) (wipe σ vs) H' := by
      have z := Rp
      show Rep X.K (W.now μ H1) (wipeD vs Γ) ((D, .lst (xs.flatMap g)) :: μ) (wipe σ vs) H'
      have e3 : (xs.take xs.length).flatMap g = xs.flatMap g := by rw [List.take_length]
      rw [← e3]
      exact z
    obtain ⟨ac, ha, hv, nl, sl⟩ := Rp'.freeze
    have up : XT (hd W μ) H1 H' := fun a o e => by
      rw [off_out (off_some e).1]
      exact sm a o e
    refine q (.ref D) H' ⟨R.wd, Rp.fr.down le1, R1.sl.up up, fun p hp => ⟨(R1.mu p hp).1, (Rp.mu p (List.mem_cons_of_mem _ hp)).2.up (same_offs fun a ha => ?_) fun _ z => z⟩, R.nd⟩ (e1.trans up) (.lst (off_out nl |>.trans ha) hv)
    rcases List.mem_append.mp ha with z | z
    · exact List.mem_append_left _ z
    · exact List.mem_append_right _ (by rw [List.map_cons]; exact List.mem_cons_of_mem _ z)
end
section
variable {X : Cx} {W : Wd} {Γ : List DV} {μ : Mu} {α β : Type} {iter iter1 elt : Expr} {scope : Scope} {pos p1 p2 : Pos} {enc : α → PyData} {enc1 : β → PyData} {xs : List α} {n1 n2 : Str}
/-- x = [elt for n1 in iter for n2 in iter1] -/
theorem run_setLc2 {rest : List Stmt} {D : Ends} {spos py : Pos} {nm : Str} (i k1 k2 : Nat) (hi : IterD X W Γ μ (.Name n1 p1) iter enc xs) (ys : α → List β) (f : α → β → PyData) (hz : (xs.flatMap fun x => (ys x).map (f x)).length ≤ 16777216)
    (hi1 : ∀ x ∈ xs, ∀ W1, Wle W W1 → ∀ s H C cl fp, IterD (blkOf X scope s H C cl fp) W1 ((wipeD [k1, k2] Γ).set k1 (.d (enc x))) μ (.Name n2 p2) iter1 enc1 (ys x))
    (he : ∀ x ∈ xs, ∀ y ∈ ys x, ∀ W1, Wle W W1 → ∀ s H C cl fp, Ed (blkOf X scope s H C cl fp) W1 ((wipeD [k2] ((wipeD [k1, k2] Γ).set k1 (.d (enc x)))).set k2 (.d (enc1 y))) μ elt (f x y))
    (hr : Run X W (Γ.set i (.d (.list (xs.flatMap fun x => (ys x).map (f x))))) μ rest D) (hN : X.N.Nodup) (hk : k1 ≠ k2 := by decide) (hn : X.N[i]? = some nm := by rfl) (hn1 : X.N[k1]? = some n1 := by rfl) (hn2 : X.N[k2]? = some n2 := by rfl)
    (hl : X.env.scope.names.lookup nm = some .local := by rfl)
    (hsw : swapsWith (.ListComp elt [⟨.Name n1 p1, iter, [], 0⟩, ⟨.Name n2 p2, iter1, [], 0⟩] scope pos) (some (.Name nm py)) spos.line X.env = pure true := by exact (sw_true rfl rfl rfl (by decide +kernel)))
    (hv1 : ∀ s H C cl fp, Loc (blkOf X scope s H C cl fp).env.scope n1 := by intro _ _ _ _ _; first | exact Or.inl rfl | exact Or.inr rfl) (hf1 : ∀ s H C cl fp, (blkOf X scope s H C cl fp).fn n1 = true ∨ (blkOf X scope s H C cl fp).env.scope.names.lookup n1 = some .local := by intro _ _ _ _ _; first | exact .inr rfl | exact .inl rfl)
    (hv2 : ∀ s H C cl fp, Loc (blkOf X scope s H C cl fp).env.scope n2 := by intro _ _ _ _ _; first | exact Or.inl rfl | exact Or.inr rfl) (hf2 : ∀ s H C cl fp, (blkOf X scope s H C cl fp).fn n2 = true ∨ (blkOf X scope s H C cl fp).env.scope.names.lookup n2 = some .local := by intro _ _ _ _ _; first | exact .inr rfl | exact .inl rfl)
    (hb : BlkOk X.N X.env.scope scope [(n1, k1), (n2, k2)] := by exact blkOk_by (by kernel_rfl)) (hc : X.calm = true := by rfl) (hs : ∀ x, foldedSetIterable iter X.env x = pure x := by intro _; rfl) (hs1 : ∀ env x, foldedSetIterable iter1 env x = pure x := by intro _ _; rfl) :
    Run X W Γ μ (.Assign [.Name nm py] (.ListComp elt [⟨.Name n1 p1, iter, [], 0⟩, ⟨.Name n2 p2, iter1, [], 0⟩] scope pos) spos :: rest) D := fun σ H R => by
  obtain ⟨wi, h1, h2⟩ := hi
  refine wSs_cons ((ps_setLc2 (vs1 := [k2]) hc hN hn hl hsw h1 hb (fun i hi => by rw [List.mem_singleton.mp hi]; simp) (fun s H C cl fp => pg_name hN hn1 (hv1 s H C cl fp) (hf1 s H C cl fp)) (fun _ _ _ _ _ => pts_nil) (wIb.pi (scope := scope)) (fun s H C cl fp => pg_name hN hn2 (hv2 s H C cl fp) (hf2 s H C cl fp)) (fun _ _ _ _ _ => pts_nil) wEb.pe hs hs1).w ?_)
  exact lc2_read hk (fun σ H R Rr k => h2 σ H R Rr fun l J H1 e R1 x1 wkk => k J H1 R1 x1 (e ▸ wkk)) hi1 hz he R fun v H2 R2 x2 r => hr _ _ ⟨R2.wd, R2.fr, R2.sl.set i r, R2.mu, R2.nd⟩
end
end HW
set_option maxHeartbeats 4000000
namespace HW
open PySem PySem.Spec PyProof.Rows L2
open SX (S)
section
variable {X : Cx} {W : Wd} {Γ : List DV} {μ μ' : Mu} {sts a b rest : List Stmt} {D D' : Ends} {c : Expr} {pos : Pos}
/-- local objects forgotten -/
theorem run_sub (h : Run X W Γ μ' sts D) (s : μ'.Sublist μ) : Run X W Γ μ sts D := fun σ H R => by
  have sk : (μ'.map (·.1)).Sublist (μ.map (·.1)) := s.map _
  have sub : Same (off (hd W μ) H) (off (hd W μ') H) := same_offs fun a ha => by
    rcases List.mem_append.mp ha with z | z
    · exact List.mem_append_left _ z
    · exact List.mem_append_right _ (sk.subset z)
  exact h σ H ⟨R.wd, R.fr, R.sl.up sub, fun p hp => ⟨(R.mu p (s.subset hp)).1, (R.mu p (s.subset hp)).2.up sub fun _ z => z⟩, R.nd.sublist sk⟩
/-- weaker ends -/
theorem Run.mono (h : Run X W Γ μ sts D) (h1 : ∀ σ H, D.nx σ H → D'.nx σ H) (h2 : ∀ v H, D.rt v H → D'.rt v H) (h3 : ∀ σ H, D.bk σ H → D'.bk σ H) (h4 : ∀ σ H, D.ct σ H → D'.ct σ H) : Run X W Γ μ sts D' := fun σ H R pins s I =>
  wpAny_mono (h σ H R pins s I) (fun fl s' q => by
    cases fl with
    | next => obtain ⟨σ', H', I', q'⟩ := q; exact ⟨σ', H', I', h1 _ _ q'⟩
    | brk => obtain ⟨σ', H', I', q'⟩ := q; exact ⟨σ', H', I', h3 _ _ q'⟩
    | cont => obtain ⟨σ', H', I', q'⟩ := q; exact ⟨σ', H', I', h4 _ _ q'⟩
    | ret u => obtain ⟨v, σ', H', I', r, q'⟩ := q; exact ⟨v, σ', H', I', r, h2 _ _ q'⟩) fun _ _ z => z
/-- if, both ways on to one state Φ -/
theorem run_ifJ {k : Bool} (Φ : List DV → Mu → Prop) (hc : EdT X W Γ μ c k) (h1 : k = true → Run X W Γ μ a { D with nx := StP X.K W Φ }) (h2 : k = false → Run X W Γ μ b { D with nx := StP X.K W Φ }) (hr : ∀ Γ' μ', Φ Γ' μ' → Run X W Γ' μ' rest D) : Run X W Γ μ (.If c a b pos :: rest) D :=
  have on : ∀ σ H, StP X.K W Φ σ H → wSs X rest D σ H := fun σ H ⟨Γ', μ', p, R⟩ => hr Γ' μ' p σ H R
  run_if hc (fun q => (h1 q).mono on (fun _ _ z => z) (fun _ _ z => z) (fun _ _ z => z)) (fun q => (h2 q).mono on (fun _ _ z => z) (fun _ _ z => z) (fun _ _ z => z))
/-- the end of a branch, a turn: on to Φ -/
theorem run_to {Φ : List DV → Mu → Prop} {rt : VK} {bk ct : L2.St → Hp → Prop} (Γ' : List DV) (μ' : Mu) (w : wk Γ Γ') (s : μ'.Sublist μ) (h : Φ Γ' μ') : Run X W Γ μ [] ⟨StP X.K W Φ, rt, bk, ct⟩ := run_sub (run_go Γ' w h) s
end
/-! ### all masks -/
def maskG : Nat → List (List Nat)
  | 0 => [[120]]
  | k + 1 => (maskG k).flatMap fun v => [46, 120].map fun c => v ++ [c]
def masksL (w : Nat) : List (List Nat) := if w = 1 then [[120]] else (maskG (w - 2)).map fun v => v ++ [120]
def R_all_masks (ds : List PyData) (d : PyData) : Prop := ∃ w : Nat, ds = [nn w] ∧ 1 ≤ w ∧ w ≤ 12 ∧ d = wD (masksL w)
theorem maskG_len : ∀ k, (maskG k).length = 2 ^ k
  | 0 => rfl
  | k + 1 => by
    have h : ∀ l : List (List Nat), (l.flatMap fun v => [46, 120].map fun c => v ++ [c]).length = l.length * 2 := by
      intro l
      induction l with
      | nil => rfl
      | cons v l ih => rw [List.flatMap_cons, List.length_append, ih, List.length_cons]; simp; omega
    rw [maskG, h, maskG_len k, Nat.pow_succ]
theorem mem_maskG : ∀ {k : Nat} {v : List Nat}, v ∈ maskG k → v.length = k + 1 ∧ v[0]? = some 120 ∧ ∀ c ∈ v, c = 120 ∨ c = 46
  | 0, v, h => by
    have e : v = [120] := by simpa [maskG] using h
    subst e
    exact ⟨rfl, rfl, fun c hc => .inl (by simpa using hc)⟩
  | k + 1, v, h => by
    obtain ⟨u, hu, hv⟩ := List.mem_flatMap.mp h
    obtain ⟨c, hc, rfl⟩ := List.mem_map.mp hv
    obtain ⟨h1, h2, h3⟩ := mem_maskG hu
    refine ⟨by simp [h1], ?_, fun x hx => ?_⟩
    · rw [List.getElem?_append_left (by omega)]
      exact h2
    · rcases List.mem_append.mp hx with z | z
      · exact h3 x z
      · rw [List.mem_singleton.mp z]
        have : c = 46 ∨ c = 120 := by simpa using hc
        omega
theorem mem_masksL {w : Nat} {m : List Nat} (h1 : 1 ≤ w) (h2 : w ≤ 12) (h : m ∈ masksL w) : maskB m = true ∧ m.length = w := by
  unfold masksL at h
  by_cases e : w = 1
  · rw [if_pos e] at h
    have e2 : m = [120] := by simpa using h
    subst e2
    subst e
    exact ⟨by decide, rfl⟩
  · rw [if_neg e] at h
    obtain ⟨v, hv, rfl⟩ := List.mem_map.mp h
    obtain ⟨g1, g2, g3⟩ := mem_maskG hv
    refine ⟨?_, by simp [g1]; omega⟩
    unfold maskB
    simp only [Bool.and_eq_true, decide_eq_true_eq, List.all_eq_true]
    refine ⟨⟨⟨⟨by simp, by simp [g1]; omega⟩, fun c hc => ?_⟩, ?_⟩, List.getLast?_concat⟩
    · rcases List.mem_append.mp hc with z | z
      · rcases g3 c z with e | e <;> (subst e; simp)
      · rw [List.mem_singleton.mp z]; simp
    · rw [List.getElem?_append_left (by omega)]
      exact g2
theorem masksL_len {w : Nat} (h2 : w ≤ 12) : (masksL w).length ≤ 1024 := by
  unfold masksL
  split
  · simp
  · rw [List.length_map, maskG_len]
    exact Nat.le_trans (Nat.pow_le_pow_right (by decide) (show w - 2 ≤ 10 by omega)) (by decide)
/-! the best ones -/
noncomputable def stepB (many n : Nat) (s : Nat × List (List Nat)) (m : List Nat) : Nat × List (List Nat) :=
  if (seenL m).length = many then
    (if topK m n - 1 > s.1 then (topK m n - 1, [m]) else if topK m n - 1 = s.1 then (s.1, s.2 ++ [m]) else s)
  else s
noncomputable def foldB (many n : Nat) (ms : List (List Nat)) : Nat × List (List Nat) := ms.foldl (stepB many n) (0, [])
def allM (w : Nat) : List (List Nat) := (List.range w).flatMap fun i => masksL (i + 1)
theorem foldB_snoc (many n : Nat) (ms : List (List Nat)) (m : List Nat) : foldB many n (ms ++ [m]) = stepB many n (foldB many n ms) m := by unfold foldB; rw [List.foldl_append]; rfl
theorem stepB_len (many n : Nat) (s : Nat × List (List Nat)) (m : List Nat) : (stepB many n s m).2.length ≤ s.2.length + 1 := by
  unfold stepB
  split
  · split
    · simp
    · split
      · simp
      · omega
  · omega
theorem foldB_len (many n : Nat) (ms : List (List Nat)) : (foldB many n ms).2.length ≤ ms.length := by
  have key : ∀ (ms : List (List Nat)) (s : Nat × List (List Nat)), (ms.foldl (stepB many n) s).2.length ≤ s.2.length + ms.length := by
    intro ms
    induction ms with
    | nil => intro s; exact Nat.le_refl _
    | cons m ms ih =>
      intro s
      have h1 := ih (stepB many n s m)
      have h2 := stepB_len many n s m
      rw [List.foldl_cons, List.length_cons]
      omega
  have := key ms (0, [])
  simpa [foldB] using this
theorem allM_len {w : Nat} (h : w ≤ 12) : (allM w).length ≤ 12288 := by
  have h1 := flat_len (fun i => masksL (i + 1)) 1024 (List.range w) (fun i hi => masksL_len (by have := List.mem_range.mp hi; omega))
  rw [List.length_range] at h1
  unfold allM
  omega
def R_best_masks (ds : List PyData) (d : PyData) : Prop := ∃ many w n : Nat, ds = [nn many, nn w, nn n] ∧ 1 ≤ many ∧ many ≤ 12 ∧ 1 ≤ w ∧ w ≤ 12 ∧ 1 ≤ n ∧ n ≤ 4 ∧ w ≤ [12, 8, 5, 4].getD (n - 1) 0 ∧ many ≤ [12, 4, 2, 1].getD (n - 1) 0 ∧
  d = .tuple [nn (foldB many n (allM w)).1, wD (foldB many n (allM w)).2]
end HW
set_option maxHeartbeats 4000000
namespace HW
open PySem PySem.Spec PyProof.Rows L2
open SX (S)
/-! ### x[::-1] of texts and lists -/
section
variable {X : Cx} {W : Wd} {Γ : List DV} {μ : Mu} {e : Expr} {p1 p2 p3 pos : Pos} {k : Nat} {l : List Nat} {ds : List PyData}
end
/-! ### a, b = a list of two -/
section
variable {X : Cx} {W : Wd} {Γ : List DV} {μ : Mu} {e : Expr} {rest : List Stmt} {D : Ends} {pos p1 p2 : Pos} {n1 n2 : Str} {P : PyData → Prop}
end
end HW
set_option maxHeartbeats 4000000
namespace HW
open PySem PySem.Spec PyProof.Rows L2
open SX (S)
section
variable {X : Cx} {i : Nat} {xs : List Nat}
end
/-! ### unlike -/
/-! ### the law's small masks -/
theorem open_get {m : List Nat} {i : Nat} : i ∈ openL m ↔ i < m.length ∧ m[i]? = some 120 := by
  unfold openL
  rw [List.mem_filter, List.mem_range, decide_eq_true_eq, List.getD_eq_getElem?_getD]
  constructor
  · rintro ⟨h1, h2⟩
    rw [List.getElem?_eq_getElem h1] at h2 ⊢
    exact ⟨h1, congrArg some h2⟩
  · rintro ⟨h1, h2⟩
    rw [h2]
    exact ⟨h1, rfl⟩
end HW
set_option maxHeartbeats 4000000
namespace HW
open PySem PySem.Spec PyProof.Rows L2
open SX (S)
/-! ### rows whose views differ much -/
section
variable {X : Cx} {ds : List PyData}
end
end HW
set_option maxHeartbeats 4000000
namespace HW
open PySem PySem.Spec PyProof.Rows L2
open SX (S)
/-! ### shorter turns -/
theorem wk_n : wk [] [] := trivial
theorem wk_s {a : DV} {as bs : List DV} (h : wk as bs) : wk (a :: as) (a :: bs) := ⟨.inr rfl, h⟩
theorem wk_0 {a : DV} {as bs : List DV} (h : wk as bs) : wk (a :: as) (.no :: bs) := ⟨.inl rfl, h⟩
/-- a state that has Γ' and μ' -/
def Stt (K : PySem.W.Frag) (W : Wd) (Γ' : List DV) (μ' : Mu) : L2.St → Hp → Prop := StP K W (fun Γ μ => wk Γ Γ' ∧ μ = μ')
section
variable {X : Cx} {W : Wd} {Γ Γ' : List DV} {μ μ' : Mu} {α : Type} {iter : Expr} {a b body rest : List Stmt} {pos p : Pos} {enc : α → PyData} {D : Ends} {n : Str} {c : Expr}
/-- the end of a turn, a branch -/
theorem run_e {rt : VK} {bk ct : L2.St → Hp → Prop} (hm : μ = μ' := by rfl) (w : wk Γ Γ' := by repeat (first | exact wk_n | refine wk_s ?_ | refine wk_0 ?_)) : Run X W Γ μ [] ⟨Stt X.K W Γ' μ', rt, bk, ct⟩ := run_turn rfl ⟨w, hm⟩
/-- for n in iter: before turn i the state is Γ0 i, μ0 i -/
theorem run_forS {xs : List α} (k : Nat) (hi : IterD X W Γ μ (.Name n p) iter enc xs) (Γ0 : Nat → List DV) (μ0 : Nat → Mu)
    (hs : ∀ W1, Wle W W1 → ∀ i x, xs[i]? = some x → Run X W1 ((Γ0 i).set k (.d (enc x))) (μ0 i) body { D with nx := Stt X.K W1 (Γ0 (i + 1)) (μ0 (i + 1)), ct := Stt X.K W1 (Γ0 (i + 1)) (μ0 (i + 1)), bk := wSs X rest D })
    (hd' : Run X W (Γ0 xs.length) (μ0 xs.length) rest D) (hN : X.N.Nodup) (hk : ∀ i, (Γ0 i)[k]? = some .no := by intro _; rfl) (hm : μ = μ0 0 := by first | rfl | (simp; done)) (w : wk Γ (Γ0 0) := by repeat (first | exact wk_n | refine wk_s ?_ | refine wk_0 ?_)) (hn : X.N[k]? = some n := by rfl) (hx : Loc X.env.scope n := by first | exact Or.inl rfl | exact Or.inr rfl) (hff : X.fn n = true ∨ X.env.scope.names.lookup n = some .local := by first | exact .inr rfl | exact .inl rfl)
    (hp : PassesOwn (model X.prog X.w) X.A X.env X.xe := by exact PassesOwn.never) (hc : X.calm = true := by rfl) (hf : ∀ x, foldedSetIterable iter X.env x = pure x := by intro _; rfl) :
    Run X W Γ μ (.For (.Name n p) iter body [] pos :: rest) D :=
  run_for k hi (fun i Γ μ => wk Γ (Γ0 i) ∧ μ = μ0 i) ⟨w, hm⟩ (fun W1 l i x Γ' μ' h ⟨w', e⟩ => by
    subst e
    refine run_weak (hs W1 l i x h) ?_
    exact wk_set w' k) (fun Γ' μ' ⟨w', e⟩ => by
    subst e
    exact run_weak hd' w') hN hn hx hff hp hc hf
where
  wk_set : ∀ {Γ Γ' : List DV}, wk Γ Γ' → ∀ k {d : DV}, wk (Γ.set k d) (Γ'.set k d)
    | [], [], _, _, _ => trivial
    | a :: as, b :: bs, h, 0, d => ⟨.inr rfl, h.2⟩
    | a :: as, b :: bs, h, k + 1, d => ⟨h.1, wk_set h.2 k⟩
theorem run_for2S {xs : List α} {n1 n2 : Str} {p1 p2 tpos : Pos} {kk : Nat} {e1 e2 : α → PyData} (k1 k2 : Nat) (hi : IterD X W Γ μ (.Tuple [.Name n1 p1, .Name n2 p2] kk tpos) iter (fun x => pr2 (e1 x) (e2 x)) xs) (Γ0 : Nat → List DV) (μ0 : Nat → Mu)
    (hs : ∀ W1, Wle W W1 → ∀ i x, xs[i]? = some x → Run X W1 (((Γ0 i).set k1 (.d (e1 x))).set k2 (.d (e2 x))) (μ0 i) body { D with nx := Stt X.K W1 (Γ0 (i + 1)) (μ0 (i + 1)), ct := Stt X.K W1 (Γ0 (i + 1)) (μ0 (i + 1)), bk := wSs X rest D })
    (hd' : Run X W (Γ0 xs.length) (μ0 xs.length) rest D) (hN : X.N.Nodup) (hm : μ = μ0 0 := by first | rfl | (simp; done)) (w : wk Γ (Γ0 0) := by repeat (first | exact wk_n | refine wk_s ?_ | refine wk_0 ?_)) (hn1 : X.N[k1]? = some n1 := by rfl) (hn2 : X.N[k2]? = some n2 := by rfl) (hx1 : Loc X.env.scope n1 := by first | exact Or.inl rfl | exact Or.inr rfl) (hx2 : Loc X.env.scope n2 := by first | exact Or.inl rfl | exact Or.inr rfl)
    (hf1 : X.fn n1 = true ∨ X.env.scope.names.lookup n1 = some .local := by first | exact .inr rfl | exact .inl rfl) (hf2 : X.fn n2 = true ∨ X.env.scope.names.lookup n2 = some .local := by first | exact .inr rfl | exact .inl rfl)
    (hp : PassesOwn (model X.prog X.w) X.A X.env X.xe := by exact PassesOwn.never) (hc : X.calm = true := by rfl) (hf : ∀ x, foldedSetIterable iter X.env x = pure x := by intro _; rfl) :
    Run X W Γ μ (.For (.Tuple [.Name n1 p1, .Name n2 p2] kk tpos) iter body [] pos :: rest) D :=
  run_for2 k1 k2 hi (fun i Γ μ => wk Γ (Γ0 i) ∧ μ = μ0 i) ⟨w, hm⟩ (fun W1 l i x Γ' μ' h ⟨w', e⟩ => by
    subst e
    exact run_weak (hs W1 l i x h) (run_forS.wk_set (run_forS.wk_set w' k1) k2)) (fun Γ' μ' ⟨w', e⟩ => by
    subst e
    exact run_weak hd' w') hN hn1 hn2 hx1 hx2 hf1 hf2 hp hc hf
end
/-! ### len and the like, short -/
section
variable {X : Cx} {W : Wd} {Γ : List DV} {μ : Mu} {a : Expr} {pos p : Pos} {l : List Nat} {ds : List PyData}
theorem lenS (G : Gs X.mg) (h : Ed X W Γ μ a (sD l)) (hl : l.length ≤ 16777216 := by omega) (hg : Gl X "len" := by rfl) (he : starEach [a] X.env = (false, eval a X.env) :: starEach [] X.env := by rfl) : Ed X W Γ μ (.Call (.Name "len" p) [a] [] pos) (nn l.length) := ed_callB G.len boot_len (ea_cons h ea_nil he) (c_lenS hl) hg (he := he)
theorem lenL (G : Gs X.mg) (h : Ed X W Γ μ a (.list ds)) (hg : Gl X "len" := by rfl) (he : starEach [a] X.env = (false, eval a X.env) :: starEach [] X.env := by rfl) : Ed X W Γ μ (.Call (.Name "len" p) [a] [] pos) (nn ds.length) := ed_callB G.len boot_len (ea_cons h ea_nil he) c_lenL hg (he := he)
theorem lenT (G : Gs X.mg) (h : Ed X W Γ μ a (.tuple ds)) (hg : Gl X "len" := by rfl) (he : starEach [a] X.env = (false, eval a X.env) :: starEach [] X.env := by rfl) : Ed X W Γ μ (.Call (.Name "len" p) [a] [] pos) (nn ds.length) := ed_callB G.len boot_len (ea_cons h ea_nil he) c_lenT hg (he := he)
end
end HW
set_option maxHeartbeats 4000000
namespace HW
open PySem PySem.Spec PyProof.Rows L2
open SX (S)
/-! ### what it is to be told -/
theorem nodup_range {α : Type} (f : Nat → α) (n : Nat) : ((List.range n).map f).Nodup ↔ ∀ p q, p < q → q < n → f p ≠ f q := by
  induction n with
  | zero => simp
  | succ n ih =>
    rw [List.range_succ, List.map_append, List.nodup_append, ih]
    constructor
    · rintro ⟨h1, _, h3⟩ p q hpq hq
      by_cases e : q = n
      · subst e
        exact h3 _ (List.mem_map.mpr ⟨p, List.mem_range.mpr hpq, rfl⟩) _ (by simp)
      · exact h1 p q hpq (by omega)
    · intro h
      refine ⟨fun p q hpq hq => h p q hpq (by omega), by simp, fun x hx y hy e => ?_⟩
      obtain ⟨p, hp, rfl⟩ := List.mem_map.mp hx
      have hp' := List.mem_range.mp hp
      have ey : y = f n := by simpa using hy
      subst ey
      exact h p n hp' (Nat.lt_succ_self n) e
theorem seen_get {m : List Nat} {i : Nat} : i ∈ seenL m ↔ i < m.length ∧ m[i]? = some 120 := by rw [← open_seen]; exact open_get
theorem map_ne {α : Type} {f g : Nat → α} {l : List Nat} : l.map f ≠ l.map g ↔ ∃ a ∈ l, f a ≠ g a := by
  constructor
  · intro h
    apply Classical.byContradiction
    intro hn
    refine h (List.map_congr_left fun a ha => ?_)
    apply Classical.byContradiction
    intro h2
    exact hn ⟨a, ha, h2⟩
  · rintro ⟨a, ha, hne⟩ e
    exact hne (List.map_inj_left.mp e a ha)
theorem tells_iff {l m : List Nat} : tellsB l m = true ↔ ∀ p q, p < q → q + m.length ≤ l.length → ∃ a, a < m.length ∧ m[a]? = some 120 ∧ l.getD (p + a) 0 ≠ l.getD (q + a) 0 := by
  unfold tellsB viewsL
  rw [decide_eq_true_iff, nodup_range]
  constructor
  · intro h p q h1 h2
    obtain ⟨a, ha, hne⟩ := map_ne.mp (h p q h1 (by omega))
    obtain ⟨h3, h4⟩ := seen_get.mp ha
    exact ⟨a, h3, h4, hne⟩
  · intro h p q h1 h2
    obtain ⟨a, h3, h4, h5⟩ := h p q h1 (by omega)
    exact map_ne.mpr ⟨a, seen_get.mpr ⟨h3, h4⟩, h5⟩
theorem ring_iff {l m : List Nat} : (ringV l (seenL m)).Nodup ↔ ∀ p q, p < q → q < l.length → ∃ a, a < m.length ∧ m[a]? = some 120 ∧ l.getD ((p + a) % l.length) 0 ≠ l.getD ((q + a) % l.length) 0 := by
  unfold ringV
  rw [nodup_range]
  constructor
  · intro h p q h1 h2
    obtain ⟨a, ha, hne⟩ := map_ne.mp (h p q h1 h2)
    obtain ⟨h3, h4⟩ := seen_get.mp ha
    exact ⟨a, h3, h4, hne⟩
  · intro h p q h1 h2
    obtain ⟨a, h3, h4, h5⟩ := h p q h1 h2
    exact map_ne.mpr ⟨a, seen_get.mpr ⟨h3, h4⟩, h5⟩
theorem ring_tells {l m : List Nat} (hm : 1 ≤ m.length) (h : (ringV l (seenL m)).Nodup) : tellsB l m = true := by
  rw [ring_iff] at h
  rw [tells_iff]
  intro p q h1 h2
  obtain ⟨a, h3, h4, h5⟩ := h p q h1 (by omega)
  rw [Nat.mod_eq_of_lt (by omega), Nat.mod_eq_of_lt (by omega)] at h5
  exact ⟨a, h3, h4, h5⟩

/-! ### distances -/
abbrev gMOST_WRONG (mg : Str → Option Value) : Prop := ∃ t, mg "MOST_WRONG" = some (.int 12 t)
end HW
set_option maxHeartbeats 4000000
namespace HW
open PySem PySem.Spec PyProof.Rows L2
open SX (S)
/-! ### methods of texts with one text: find, index, count -/
section
variable {X : Cx} {W : Wd} {Γ : List DV} {μ : Mu} {o e : Expr} {apos pos : Pos} {l : List Nat} {c : Nat}
end
/-! ### turned letters, masks with one place more open -/
end HW
set_option maxHeartbeats 4000000
namespace HW
open PySem PySem.Spec PyProof.Rows L2
open SX (S)
open PySem.W (dataLt minD maxD AlikeAll AllAlike Sortable EachIs dataLe alike)
/-! ### the order of data: <, min, max, sorted -/
section
variable {X : Cx} {pins : List (Addr × Obj)} {σ : L2.St} {H : Hp} {s : Shared} {L : List Addr}
end
/-! sorted -/
section
variable {X : Cx}
end
/-! texts: the order is that of their signs -/
end HW
set_option maxHeartbeats 4000000
namespace HW
open PySem PySem.Spec PyProof.Rows L2
open SX (S)
/-! ### turns that carry a fact -/
def SttP (K : PySem.W.Frag) (W : Wd) (Γ' : List DV) (μ' : Mu) (p : Prop) : L2.St → Hp → Prop := StP K W (fun Γ μ => wk Γ Γ' ∧ μ = μ' ∧ p)
section
variable {X : Cx} {W : Wd} {Γ Γ' : List DV} {μ μ' : Mu} {α : Type} {iter a b : Expr} {body rest : List Stmt} {pos p : Pos} {enc : α → PyData} {D : Ends} {n : Str} {c : Expr}
theorem run_eP {q : Prop} {rt : VK} {bk ct : L2.St → Hp → Prop} (hq : q) (hm : μ = μ' := by rfl) (w : wk Γ Γ' := by repeat (first | exact wk_n | refine wk_s ?_ | refine wk_0 ?_)) : Run X W Γ μ [] ⟨SttP X.K W Γ' μ' q, rt, bk, ct⟩ := run_turn rfl ⟨w, hm, hq⟩
end
/-! ### rings -/
theorem Small.power {m : List Nat} {n : Nat} (h : Small m n) : 1 ≤ n ^ (seenL m).length ∧ n ^ (seenL m).length ≤ 16 := ⟨Nat.one_le_pow _ _ h.lo, h.bound.2⟩
theorem Small.words {m : List Nat} {n k : Nat} (h : Small m n) (hk : k ≤ n ^ (seenL m).length) : (words n k).length ≤ 8388608 := by
  have h1 := h.pos
  exact Nat.le_trans (words_len h.hi k) (Nat.le_trans (Nat.pow_le_pow_right h.lo (by omega)) h.bound.1)
end HW
set_option maxHeartbeats 4000000
namespace HW
open PySem PySem.Spec PyProof.Rows L2
open SX (S)
open PySem.W (dataLt minD maxD AlikeAll AllAlike Sortable EachIs dataLe alike)
/-! ### pairs (number, text) in order -/
section
variable {X : Cx}
end
/-! ### "".join of signs that are drawn -/
section
variable {X : Cx} {W : Wd} {Γ : List DV} {μ : Mu} {α : Type} {iter elt o : Expr} {scope : Scope} {pos pos2 apos p : Pos} {enc : α → PyData} {n : Str} {P : List α → Prop} {Q : Nat → Prop}
end
/-! ### mending -/
end HW
set_option maxHeartbeats 4000000
namespace HW
open PySem PySem.Spec PyProof.Rows L2
open SX (S)
open PySem.W (dataLt minD maxD AlikeAll AllAlike Sortable EachIs dataLe alike)
/-! ### a list in strict order is the sorted one -/
/-! ### looks -/
def lookB (m t : List Nat) : Bool := decide (t.length = (seenL m).length) && t.all fun c => decide (c ∈ [97, 98, 99, 100, 63])
def R_is_view (ds : List PyData) (d : PyData) : Prop := ∃ m t : List Nat, ds = [sD m, sD t] ∧ m.length ≤ 4000 ∧ lookB m t = true ∧ d = .bool true
theorem lookB_iff {m t : List Nat} : lookB m t = true ↔ t.length = (seenL m).length ∧ ∀ c ∈ t, c = 63 ∨ 97 ≤ c ∧ c < 101 := by
  unfold lookB
  rw [Bool.and_eq_true, decide_eq_true_iff, List.all_eq_true]
  constructor
  · rintro ⟨h1, h2⟩
    exact ⟨h1, fun c hc => by have := of_decide_eq_true (h2 c hc); simp at this; omega⟩
  · rintro ⟨h1, h2⟩
    exact ⟨h1, fun c hc => decide_eq_true (by have := h2 c hc; simp; omega)⟩
/-! ### either way -/
abbrev Stand := Nat × Bool
def backL (l m : List Nat) (p : Nat) : List Nat := (seenL m).map fun a => l.getD (p - a) 0
def standAt (l m : List Nat) (p : Nat) : List (Stand × List Nat) := (if m.length ≤ p + 1 then [((p, false), backL l m p)] else []) ++ (if p + m.length ≤ l.length then [((p, true), viewL l m p)] else [])
end HW
set_option maxHeartbeats 4000000
namespace HW
open PySem PySem.Spec PyProof.Rows L2
open SX (S)
section
variable {X : Cx} {W : Wd} {Γ Γ' : List DV} {μ μ' : Mu} {α : Type} {iter : Expr} {body rest : List Stmt} {pos : Pos} {D : Ends}
/-- for n1, n2 in iter, with a fact -/
theorem run_for2P {xs : List α} {n1 n2 : Str} {p1 p2 tpos : Pos} {kk : Nat} {e1 e2 : α → PyData} (k1 k2 : Nat) (hi : IterD X W Γ μ (.Tuple [.Name n1 p1, .Name n2 p2] kk tpos) iter (fun x => pr2 (e1 x) (e2 x)) xs) (Γ0 : Nat → List DV) (μ0 : Nat → Mu) (Pf : Nat → Prop) (h0 : Pf 0)
    (hs : ∀ W1, Wle W W1 → ∀ i x, xs[i]? = some x → Pf i → Run X W1 (((Γ0 i).set k1 (.d (e1 x))).set k2 (.d (e2 x))) (μ0 i) body { D with nx := SttP X.K W1 (Γ0 (i + 1)) (μ0 (i + 1)) (Pf (i + 1)), ct := SttP X.K W1 (Γ0 (i + 1)) (μ0 (i + 1)) (Pf (i + 1)), bk := wSs X rest D })
    (hd' : Pf xs.length → Run X W (Γ0 xs.length) (μ0 xs.length) rest D) (hN : X.N.Nodup) (hm : μ = μ0 0 := by first | rfl | (simp; done)) (w : wk Γ (Γ0 0) := by repeat (first | exact wk_n | refine wk_s ?_ | refine wk_0 ?_)) (hn1 : X.N[k1]? = some n1 := by rfl) (hn2 : X.N[k2]? = some n2 := by rfl) (hx1 : Loc X.env.scope n1 := by first | exact Or.inl rfl | exact Or.inr rfl) (hx2 : Loc X.env.scope n2 := by first | exact Or.inl rfl | exact Or.inr rfl)
    (hf1 : X.fn n1 = true ∨ X.env.scope.names.lookup n1 = some .local := by first | exact .inr rfl | exact .inl rfl) (hf2 : X.fn n2 = true ∨ X.env.scope.names.lookup n2 = some .local := by first | exact .inr rfl | exact .inl rfl)
    (hp : PassesOwn (model X.prog X.w) X.A X.env X.xe := by exact PassesOwn.never) (hc : X.calm = true := by rfl) (hf : ∀ x, foldedSetIterable iter X.env x = pure x := by intro _; rfl) :
    Run X W Γ μ (.For (.Tuple [.Name n1 p1, .Name n2 p2] kk tpos) iter body [] pos :: rest) D :=
  run_for2 k1 k2 hi (fun i Γ μ => wk Γ (Γ0 i) ∧ μ = μ0 i ∧ Pf i) ⟨w, hm, h0⟩ (fun W1 l i x Γ' μ' h ⟨w', e, q⟩ => by
    subst e
    exact run_weak (hs W1 l i x h q) (run_forS.wk_set (run_forS.wk_set w' k1) k2)) (fun Γ' μ' ⟨w', e, q⟩ => by
    subst e
    exact run_weak (hd' q) w') hN hn1 hn2 hx1 hx2 hf1 hf2 hp hc hf
end
section
variable {X : Cx} {W : Wd} {Γ : List DV} {μ : Mu} {a b : Expr} {pos p p2 : Pos} {n : Str} {r scr : Addr} {ns : List Int} {k : Nat} {l m : List Nat}
end
/-! ### the first like ones -/
end HW
set_option maxHeartbeats 4000000
namespace HW
open PySem PySem.Spec PyProof.Rows L2
open SX (S)
/-! ### local dicts whose keys are numbers or texts -/
section
variable {κ : Type} [DecidableEq κ]
end
section
variable {κ : Type} [DecidableEq κ] {K : PySem.W.Frag} {H : Hp} {ks : List (κ × V)} {kvs : List (κ × PyData)} {k : κ} {v : V} {d : PyData}
end
section
variable {X : Cx} {W W0 : Wd} {Γ : List DV} {μ : Mu} {e b value : Expr} {rest : List Stmt} {D : Ends} {pos p p1 p2 pd pos' : Pos} {n n1 n2 : Str} {k : L2.Key} {kvs : List (L2.Key × PyData)} {l : Addr} {d y : PyData}
end
/-! ### xs.index(text); x or "a" -/
section
variable {X : Cx} {W : Wd} {Γ : List DV} {μ : Mu} {o e a b : Expr} {apos pos : Pos} {ws : List (List Nat)} {w : List Nat} {j : Nat}
end
/-! ### draws of great numbers -/
section
variable {X : Cx} {W : Wd} {Γ : List DV} {μ : Mu} {a : Expr} {pos p p2 : Pos} {n : Str} {r scr : Addr} {ns : List Int} {k : Nat}
end
end HW
set_option maxHeartbeats 4000000
namespace HW
open PySem PySem.Spec PyProof.Rows L2
open SX (S)
/-! ### rows without end -/
end HW
set_option maxHeartbeats 4000000
namespace HW
open PySem PySem.Spec PyProof.Rows L2
open SX (S)
/-! ### local lists: copied, read, written at a place -/
section
variable {X : Cx} {W W0 : Wd} {Γ : List DV} {μ : Mu} {e value i' : Expr} {rest : List Stmt} {D : Ends} {pos p p1 p2 pos' : Pos} {n : Str} {l : Addr} {d y : PyData} {ds ys : List PyData} {z : Int}
/-- isinstance(e, (A, B)) -/
theorem ed_isi2 {T1 T2 : String} {n1 n2 : Str} {b : Bool} {kt : Nat} {pt q1 q2 : Pos} (he : Ed X W Γ μ e d) (hm : X.mg "isinstance" = none) (hm1 : X.mg n1 = none) (hv1 : bootBuiltins n1 = some (.type T1)) (hm2 : X.mg n2 = none) (hv2 : bootBuiltins n2 = some (.type T2)) (hk : ∀ K, PySem.W.kitAny K (.type (tyD d)) [.type T1, .type T2] = some b := by intro K; rfl) (hp : isPtr d = false := by first | rfl | assumption) (hg : Gl X "isinstance" := by rfl) (hg1 : Gl X n1 := by rfl) (hg2 : Gl X n2 := by rfl)
    (hn1 : n1 ≠ "__name__" := by decide) (hd1 : (n1 == ("__debug__" : Str)) = false := by decide) (hn2 : n2 ≠ "__name__" := by decide) (hd2 : (n2 == ("__debug__" : Str)) = false := by decide)
    (hs : starEach [e, .Tuple [.Name n1 q1, .Name n2 q2] kt pt] X.env = (false, eval e X.env) :: starEach [.Tuple [.Name n1 q1, .Name n2 q2] kt pt] X.env := by rfl) (hs2 : starEach [.Tuple [.Name n1 q1, .Name n2 q2] kt pt] X.env = (false, eval (.Tuple [.Name n1 q1, .Name n2 q2] kt pt) X.env) :: starEach [] X.env := by rfl) (hpl : (backTo pos (starEach [.Tuple [.Name n1 q1, .Name n2 q2] kt pt] X.env)).any (·.1) = false := by rfl)
    (hs3 : starEach [.Name n1 q1, .Name n2 q2] X.env = (false, eval (.Name n1 q1) X.env) :: starEach [.Name n2 q2] X.env := by rfl) (hs4 : starEach [.Name n2 q2] X.env = (false, eval (.Name n2 q2) X.env) :: starEach [] X.env := by rfl) :
    Ed X W Γ μ (.Call (.Name "isinstance" p) [e, .Tuple [.Name n1 q1, .Name n2 q2] kt pt] [] pos) (.bool b) := fun σ H R Q q => by
  refine (pe_callB call_isiT hg hm boot_isinstance (pa_cons wE.pe (pa_cons (pe_tup (pa_cons (pe_bltn (v := .ty T1) hg1 hm1 hv1 rfl hn1 hd1) (pa_cons (pe_bltn (v := .ty T2) hg2 hm2 hv2 rfl hn2 hd2) pa_nil hs4) hs3)) pa_nil hs2) hs) (by decide) (by decide) hs hpl).w (he σ H R _ fun v H2 R2 e2 r2 => ?_)
  refine ⟨by show 2 ≤ sizeLine; decide, fun t ht => ?_⟩
  have sm := same_new (o := HO.tup [.ty T1, .ty T2]) ht
  have r3 := r2.up (XT.same (L := hd W μ) sm)
  exact ⟨_, t, _, _, _, b, rfl, upd_same, .cons (.ty T1) (.cons (.ty T2) .nil), va_ty r3 hp, hk _, q _ _ (R2.same sm) (e2.trans (XT.same sm)) (.bl b)⟩
end
/-! ### rows put together -/
abbrev gL (f : List Nat) : PyData := .list (f.map sg)
/-- a list or a tuple of looks -/
def seqD (t : Bool) (ds : List PyData) : PyData := if t then .tuple ds else .list ds
def R_need_views (ds : List PyData) (d : PyData) : Prop := ∃ (m : List Nat) (t : Bool) (vs : List (List Nat)) (most : Nat), ds = [sD m, seqD t (vs.map sD), nn most] ∧ m.length ≤ 4000 ∧ 1 ≤ vs.length ∧ vs.length ≤ most ∧ most ≤ 4000 ∧ (∀ v ∈ vs, lookB m v = true) ∧ d = .none
end HW
set_option maxHeartbeats 4000000
namespace HW
open PySem PySem.Spec PyProof.Rows L2
open SX (S)
/-! ### enumerate over text, list or tuple -/
open Sem (wp) in
open AutoSeq1 (wpAny_loadPart') in
theorem meets_enumN {v : Value} {o : Obj} {H : Heap → Prop} (B : Begins v o H) :
    Meets (Builtin.«enumerate.__new__» ⟨[.type "enumerate", v], []⟩) (fun _ R s => H s.heap ∧
      R (.ok (.ret (.ref (s.heap.push o).objs.size))) { s with heap := (s.heap.push o).push { cls := .type "enumerate", data := .fields #[.none, .bool false, .ref s.heap.objs.size, rawInt 0, .none, .none] } }) :=
  .of_wp fun prog w A R s h => by
    obtain ⟨hp, g, d, tk, os⟩ := s; obtain ⟨h1, h⟩ := h
    have hsub := sub_enumerate
    have q1 : ∀ {A' : Around} {E : Value → Shared → Prop} {Q : Value → Shared → Prop}, Q (.ref hp.objs.size) ⟨hp.push o, g, d, tk, os⟩ → wpAny (model prog w) A' (pyIter v) Q E ⟨hp, g, d, tk, os⟩ :=
      fun q => B.iter prog w _ _ ⟨hp, g, d, tk, os⟩ _ h1 q
    wp_walk using q1
    refine wpAny_stack_any fun st => wpAny_pure ?_
    split
    · rename_i c _ _ _ _ _
      cases (c == Value.type "enumerate")
      · wp_walk using q1
        exact ⟨_, rfl, h⟩
      · wp_walk using q1
        exact ⟨_, rfl, h⟩
    · wp_walk using q1
      exact ⟨_, rfl, h⟩
theorem enum_begins1 {prog : Program} {w : World} {A : Around} {E : Value → Shared → Prop} {s : Shared} {v : Value} {o : Obj} {H : Heap → Prop} {Q : Value → Shared → Prop} (B : Begins v o H) (h1 : H s.heap)
    (h : ∀ h', IsEnum h' (s.heap.objs.size + 1) s.heap.objs.size 0 .none → h'.get? s.heap.objs.size = some o → h'.objs.size = s.heap.objs.size + 2 →
      (∀ b o, s.heap.get? b = some o → h'.get? b = some o) → Q (.ref (s.heap.objs.size + 1)) { s with heap := h' }) :
    wpAny (model prog w) A (call (.type "enumerate") [v]) Q E s := by
  refine callType_new F.called_enumerate (by decide) (F.typeCall_enumerate_1 _) (F.newCall_enumerate_1 _) (fun obj => F.args_object_init_2 obj _) F.entry_enumerate_new
    (meets_enumN B) ⟨h1, ?_⟩
  have hz : (s.heap.push o).objs.size = s.heap.objs.size + 1 := Heap.size_push ..
  show _ ∧ _
  rw [hz]
  have he : IsEnum ((s.heap.push o).push { cls := .type "enumerate", data := .fields #[.none, .bool false, .ref s.heap.objs.size, rawInt 0, .none, .none] }) (s.heap.objs.size + 1) s.heap.objs.size 0 .none := by
    have := Heap.get?_push_size (s.heap.push o) (o := { cls := .type "enumerate", data := .fields #[.none, .bool false, .ref s.heap.objs.size, rawInt 0, .none, .none] }) rfl
    rw [hz] at this; exact this
  refine ⟨⟨_, he, rfl⟩, h _ he (Heap.get?_push_of_some _ (Heap.get?_push_size _ B.free)) (by rw [Heap.size_push, hz]) fun b o x => Heap.get?_push_of_some _ (Heap.get?_push_of_some _ x)⟩
def iEnumN (K : PySem.W.Frag) (ta : TA) : TI := fun σ H R => ta σ H fun vs H1 => ∃ a xs, vs = [Sc.v a] ∧ a.xs K H1 xs ∧ R (IteS K a) H1
theorem pi_enumN {X : Cx} {e : Expr} {ta : TA} {p pos tpos : Pos} {elts : List Expr} {kk : Nat} (hg : Gl X "enumerate") (hm : X.mg "enumerate" = none) (ha : PA X [e] ta) (hs : starEach [e] X.env = [(false, eval e X.env)] := by rfl) :
    PI X (.Tuple elts kk tpos) (.Call (.Name "enumerate" p) [e] [] pos) (iEnumN X.K ta) := by
  refine ⟨fun pins s σ H R I h => ?_⟩
  refine Call_ (ld_blt I hg hm boot_enumerate (PyProof.Rows.callWith_type1 (thn (ha.run pos pins s σ H _ I h) fun us s1 ⟨vs, H1, I1, r1, q1⟩ => ?_) hs rfl))
  obtain ⟨a, xs, ex, hq, q⟩ := q1
  subst ex
  cases r1 with
  | cons r rr =>
    cases rr
    obtain ⟨t, o, G1, B1, g1, hfp, i1⟩ := sc_begins I1 hq r
    refine enum_begins1 B1 g1 fun h' he hit hsz hk => wpAny_pyIter_enum he ?_
    have I2 : Inv X pins σ H1 { s1 with heap := h' } := I1.kept (t' := s1.toks) hk
    refine ⟨s1.heap.objs.size + 1, [s1.heap.objs.size + 1, s1.heap.objs.size], _, _, H1, rfl, I2, turn_enumS t hfp, ⟨⟨.none, he⟩, i1 _ _ hit⟩, fun b hb => ?_, q⟩
    have e' : b = s1.heap.objs.size + 1 ∨ b = s1.heap.objs.size := by simpa using hb
    have hle : s1.heap.objs.size ≤ b := by
      rcases e' with z | z
      · rw [z]; exact Nat.le_add_right _ _
      · rw [z]; exact Nat.le_refl _
    exact I1.fpOk hle (I1.hok.fresh hle)
section
variable {X : Cx} {W : Wd} {Γ : List DV} {μ : Mu} {α : Type} {a : Expr} {pos p tpos : Pos} {elts : List Expr} {kk : Nat} {d : PyData} {enc : α → PyData} {xs : List α}
theorem it_enumN (h : Ed X W Γ μ a d) (hm : X.mg "enumerate" = none) (e : itemsD d = some (xs.map enc)) (hg : Gl X "enumerate" := by rfl) (hs : starEach [a] X.env = [(false, eval a X.env)] := by rfl) :
    IterD X W Γ μ (.Tuple elts kk tpos) (.Call (.Name "enumerate" p) [a] [] pos) (fun q : Nat × α => pr2 (nn q.1) (enc q.2)) (xs.mapIdx Prod.mk) := ⟨_, pi_enumN hg hm wA.pa hs, fun σ H R R' k => (ea_cons h ea_nil (by rw [hs]; rfl)) σ H R _ fun vs H1 R1 e1 r => by
  cases r with
  | cons r rr =>
    cases rr
    obtain ⟨sc, vs, rfl, h1, h2, h3⟩ := va_sc r e
    refine ⟨sc, vs, rfl, h1 H1 same_off, k _ _ H1 rfl R1 e1 ?_⟩
    have z := walk_enumS h1 h2
    have e : ((xs.map enc).mapIdx fun i d => pr2 (nn i) d) = (xs.mapIdx Prod.mk).map fun q : Nat × α => pr2 (nn q.1) (enc q.2) := by
      apply List.ext_getElem?
      intro i
      simp only [List.getElem?_mapIdx, List.getElem?_map, Option.map_map]
      rfl
    rw [e] at z
    exact z⟩
theorem seqD_items {t : Bool} {ds : List PyData} : itemsD (seqD t ds) = some ds := by cases t <;> rfl
theorem lenSq {t : Bool} {ds : List PyData} {p2 : Pos} (G : Gs X.mg) (h : Ed X W Γ μ a (seqD t ds)) (hg : Gl X "len" := by rfl) (he : starEach [a] X.env = (false, eval a X.env) :: starEach [] X.env := by rfl) : Ed X W Γ μ (.Call (.Name "len" p2) [a] [] pos) (nn ds.length) := by
  cases t
  · exact lenL G h hg he
  · exact lenT G h hg he
/-- isinstance(e, (list, tuple)) of a list or a tuple -/
theorem ed_isLT {t : Bool} {ds : List PyData} {kt : Nat} {pt q1 q2 : Pos} (he : Ed X W Γ μ a (seqD t ds)) (hm : X.mg "isinstance" = none) (hm1 : X.mg "list" = none) (hm2 : X.mg "tuple" = none) (hg : Gl X "isinstance" := by rfl) (hg1 : Gl X "list" := by rfl) (hg2 : Gl X "tuple" := by rfl)
    (hs : starEach [a, .Tuple [.Name "list" q1, .Name "tuple" q2] kt pt] X.env = (false, eval a X.env) :: starEach [.Tuple [.Name "list" q1, .Name "tuple" q2] kt pt] X.env := by rfl) (hs2 : starEach [.Tuple [.Name "list" q1, .Name "tuple" q2] kt pt] X.env = (false, eval (.Tuple [.Name "list" q1, .Name "tuple" q2] kt pt) X.env) :: starEach [] X.env := by rfl) (hpl : (backTo pos (starEach [.Tuple [.Name "list" q1, .Name "tuple" q2] kt pt] X.env)).any (·.1) = false := by rfl)
    (hs3 : starEach [.Name "list" q1, .Name "tuple" q2] X.env = (false, eval (.Name "list" q1) X.env) :: starEach [.Name "tuple" q2] X.env := by rfl) (hs4 : starEach [.Name "tuple" q2] X.env = (false, eval (.Name "tuple" q2) X.env) :: starEach [] X.env := by rfl) :
    Ed X W Γ μ (.Call (.Name "isinstance" p) [a, .Tuple [.Name "list" q1, .Name "tuple" q2] kt pt] [] pos) (.bool true) := by
  cases t
  · exact ed_isi2 he hm hm1 boot_list hm2 boot_tuple (by intro K; rfl) rfl hg hg1 hg2 (by decide) (by decide) (by decide) (by decide) hs hs2 hpl hs3 hs4
  · exact ed_isi2 he hm hm1 boot_list hm2 boot_tuple (by intro K; rfl) rfl hg hg1 hg2 (by decide) (by decide) (by decide) (by decide) hs hs2 hpl hs3 hs4
end
/-! ### looks laid -/
section
variable {X : Cx} {W : Wd} {Γ : List DV} {μ : Mu} {a b : Expr} {pos p p2 : Pos} {n : Str} {r scr : Addr} {ns : List Int} {k : Nat} {l m : List Nat}
end
end HW
set_option maxHeartbeats 4000000
namespace HW
open PySem PySem.Spec PyProof.Rows L2
open SX (S)
/-! ### sets whose table can be walked -/
/-- the table's places rise, and their order is the table's own -/
def WalkT (w : World) (t : SetTable) : Prop := Ris t.place.toList ∧ (w.params.followText "set-order" = true ∨ t.led = true)
theorem WalkT.off {w : World} {t : SetTable} (h : WalkT w t) : WalkT w { t with plain := false } := h
theorem WalkT.lay {w : World} {t : SetTable} (g : WalkT w t) (es : Array (Int × Value)) (h : Int) (x : Value) : WalkT w (layNew t es h x).2.1 := ⟨layNew_ris t es h x g.1, g.2.imp id fun e => (layNew_led t es h x).trans e⟩
section
variable {prog : Program} {w : World} {K : Type} [DecidableEq K] (knd : KeyKind prog w K)
/-- the elements es are the n keys of S -/
structure HasK (S : K → Bool) (n : Nat) (es : Array (Int × Value)) (t : SetTable) : Prop where
  els : ElemsOf knd es.toList
  mem : ∀ k, S k = true ↔ ∃ e ∈ es.toList, knd.is k e.2 = true
  few : es.size < scanBound
  fits : t.fits es.size = true
  num : es.size = n
  walk : WalkT w t
def SetG (h : Heap) (a : Addr) (S : K → Bool) (n : Nat) : Prop := ∃ o es ep t, h.get? a = some o ∧ o.ExactSet ∧ o.data = .set es ep t ∧ HasK knd S n es t
variable {knd}
theorem SetG.keep {h h' : Heap} {a : Addr} {S : K → Bool} {n : Nat} (g : SetG knd h a S n) (k : ∀ o, h.get? a = some o → h'.get? a = some o) : SetG knd h' a S n :=
  let ⟨o, es, ep, t, ho, r⟩ := g; ⟨o, es, ep, t, k o ho, r⟩
theorem SetG.eq {h : Heap} {a : Addr} {S S' : K → Bool} {n n' : Nat} (g : SetG knd h a S n) (e : ∀ k, S k = S' k) (en : n = n') : SetG knd h a S' n' := by
  have : S = S' := funext e
  subst this
  subst en
  exact g
theorem SetG.fresh {h : Heap} : SetG knd (h.push { cls := .type "set", dict := none, data := .set #[] 0 (.fresh 0 0 (!w.params.followText "set-order")) }) h.objs.size (fun _ => false) 0 :=
  ⟨_, #[], 0, _, Heap.get?_push_size _ rfl, ⟨rfl, rfl, rfl⟩, rfl, { els := fun e he => by simp at he, mem := fun k => by simp, few := by decide, fits := by rfl, num := rfl, walk := ⟨List.Pairwise.nil, by
    show _ ∨ (!w.params.followText "set-order") = true
    cases w.params.followText "set-order"
    · exact .inr rfl
    · exact .inl rfl⟩ }⟩
/-- the elements in another order, under another table -/
theorem HasK.perm {S : K → Bool} {n : Nat} {es es' : Array (Int × Value)} {t t' : SetTable} (g : HasK knd S n es t) (p : es'.toList.Perm es.toList) (hf : t'.fits es'.size = true) (hw : WalkT w t') : HasK knd S n es' t' := by
  have hz : es'.size = es.size := by rw [← Array.length_toList, p.length_eq, Array.length_toList]
  exact { els := g.els.perm p, mem := fun k => (g.mem k).trans ⟨fun ⟨e, he, q⟩ => ⟨e, p.mem_iff.mpr he, q⟩, fun ⟨e, he, q⟩ => ⟨e, p.mem_iff.mp he, q⟩⟩, few := by rw [hz]; exact g.few, fits := hf, num := hz.trans g.num, walk := hw }
/-- one more -/
theorem HasK.push {S : K → Bool} {n : Nat} {es es' : Array (Int × Value)} {t t' : SetTable} {k : K} {x : Value} (g : HasK knd S n es t) (hk : knd.is k x = true) (hx : x.scannable = true) (p : es'.toList.Perm (es.toList ++ [(knd.hash k, x)])) (hf : t'.fits es'.size = true) (hw : WalkT w t') (hn : n + 1 < scanBound) :
    HasK knd (fun j => S j || decide (j = k)) (n + 1) es' t' := by
  have hz : es'.size = n + 1 := by rw [← Array.length_toList, p.length_eq, List.length_append, Array.length_toList, g.num]; rfl
  exact { els := (g.els.push hk hx).perm p, mem := mem_push_iff hk g.mem p, few := by rw [hz]; exact hn, fits := hf, num := hz, walk := hw }
section
variable {A : Around} {E : Value → Shared → Prop} {s : Shared} {a : Addr} {S : K → Bool} {n : Nat}
end
end
section
variable {prog : Program} {w : World} {K : Type} [DecidableEq K] {knd : KeyKind prog w K} {A : Around} {R : Result → Shared → Prop} {I : Addr} {fp wr : List Addr} {G : Array GenState → Array GenState → Prop} {n : Nat} {P : Nat → Value → Prop} {St : Nat → Shared → Prop}
end
section
variable {prog : Program} {w : World} {K : Type} [DecidableEq K] {knd : KeyKind prog w K} {A : Around} {E : Value → Shared → Prop} {s : Shared}
end
end HW
set_option maxHeartbeats 4000000
namespace HW
open PySem PySem.Spec PyProof.Rows L2
open SX (S)
open PySem.W (dataLt AlikeAll AllAlike Sortable EachIs dataLe alike)
/-! ### sorted(set(texts)) -/
section
variable {prog : Program} {w : World} {A : Around} {E : Value → Shared → Prop} {s : Shared}
theorem EachIs.find {R : Value → List Nat → Prop} : ∀ {vs : List Value} {bs : List (List Nat)}, EachIs R vs bs → ∀ v ∈ vs, ∃ b ∈ bs, R v b
  | _, _, .nil, v, h => nomatch h
  | _, _, .cons h t, v, hv => by
    rcases List.mem_cons.mp hv with e | hv
    · exact ⟨_, List.mem_cons_self, e ▸ h⟩
    · obtain ⟨b, hb, q⟩ := EachIs.find t v hv
      exact ⟨b, List.mem_cons_of_mem _ hb, q⟩
theorem EachIs.len {R : Value → List Nat → Prop} : ∀ {vs : List Value} {bs : List (List Nat)}, EachIs R vs bs → vs.length = bs.length
  | _, _, .nil => rfl
  | _, _, .cons _ t => congrArg (· + 1) (EachIs.len t)
end
section
variable {X : Cx} {W : Wd} {Γ : List DV} {μ : Mu} {a : Expr} {p p2 q pos : Pos} {ws : List (List Nat)}
end
end HW
set_option maxHeartbeats 4000000
namespace HW
open PySem PySem.Spec PyProof.Rows L2
open SX (S)
/-! ### s.count(sign) -/
section
variable {X : Cx} {W : Wd} {Γ : List DV} {μ : Mu} {o e : Expr} {apos pos : Pos} {l : List Nat} {c : Nat}
end
/-! ### rows some letters of which were not read -/
end HW
set_option maxHeartbeats 4000000
namespace HW
open PySem PySem.Spec PyProof.Rows L2
open SX (S)
section
variable {X : Cx} {W : Wd} {Γ Γ' : List DV} {μ μ' : Mu} {α : Type} {iter : Expr} {body rest : List Stmt} {pos : Pos} {D : Ends}
end
/-! ### patterns drawn -/
section
variable {X : Cx} {W : Wd} {Γ : List DV} {μ : Mu} {a b c : Expr} {pos p p2 : Pos} {n : Str} {r scr : Addr} {ns : List Int} {k : Nat} {l m : List Nat}
end
end HW
set_option maxHeartbeats 4000000
namespace HW
open PySem PySem.Spec PyProof.Rows L2
open SX (S)
/-! ### rings turned and read back -/
/-! ### rings in order, and back -/
/-! ### how many -/
end HW
set_option maxHeartbeats 4000000
namespace HW
open PySem PySem.Spec PyProof.Rows L2
open SX (S)
end HW
set_option maxHeartbeats 4000000
namespace HX
open PySem PySem.Spec PyProof.Rows L2 He
/-! the head's Hook with the model's own table of statics -/
def asS (g : Addr → Option Obj) (n : Nat) : List Addr := asD g n ++ [cStatics]
def obsS (n : Nat) (fa : List Fa) (fn : List DefD) (ex : PySem.W.Frag → Bool) (g : Addr → Option Obj) : AlE := (obsD fa fn (frG g (asS g n)), ex (frG g (asS g n)))
def hookS (n : Nat) (fa : List Fa) (fn : List DefD) (ex : PySem.W.Frag → Bool) : PySem.W.Hook where
  α := AlE
  obs := fun s => obsS n fa fn ex s.heap.get?
  val := fun _ => (valD fn, true)
  says := fun _ h => ∃ K : PySem.W.Frag, K.In h ∧ SaysD fa fn K ∧ ex K = true
  of := fun _ _ e => ⟨_, frG_in, congrArg (fun z : AlE => z.1) e, congrArg (fun z : AlE => z.2) e⟩
  keeps := fun _ _ _ ⟨K, hK, c⟩ k => ⟨K, PySem.W.Frag.In.keeps hK k, c⟩
theorem obsS_eq {n : Nat} {fa : List Fa} {fn : List DefD} {ex : PySem.W.Frag → Bool} {g : Addr → Option Obj} {s : Shared} (h : ∀ a, g a = s.heap.get? a) : obsS n fa fn ex g = (hookS n fa fn ex).obs s := by
  have e : g = s.heap.get? := funext h
  rw [e] <;> rfl
end HX
namespace HW
open PySem PySem.Spec PyProof.Rows L2
open SX (S)
/-! ### exception classes of the program -/
/-- the j-th statement of a class -/
def clsM (st : Stmt) (j : Nat) : Stmt := match st with
  | .ClassDef _ _ _ body _ _ _ _ _ _ _ => body.getD j (.Pass ⟨0, 0, 0, 0⟩)
  | s => s
def oexB (K : PySem.W.Frag) (C : Addr) : Bool := match K.lookup C with
  | some ⟨.type "type", _, .cls cd, sl⟩ => (match cd.mro, sl.toList with
    | .ref C' :: bm, [_, _, _, _, some (.builtin n), _] => C' == C && n == "ValueError.__new__" && !cd.hasDel && cd.hasDict && PySem.HandSPX.refsVE bm
    | _, _ => false)
  | _ => false
theorem oexB_ok {K : PySem.W.Frag} {C : Addr} (q : oexB K C = true) : ∃ nm q N bs bm sn sub ab col dd k0 k1 k2 k3 k5, K.lookup C = some (excClassObj nm q C N bs bm true sn sub ab col dd k0 k1 k2 k3 k5 "ValueError.__new__") ∧ PySem.HandSPX.refsVE bm = true := by
  unfold oexB at q
  split at q
  · rename_i dd cd sl ho
    split at q
    · rename_i C' bm k0 k1 k2 k3 n k5 hm hs
      simp only [Bool.and_eq_true, beq_iff_eq, Bool.not_eq_true'] at q
      obtain ⟨⟨⟨⟨h1, h2⟩, h3⟩, h4⟩, h5⟩ := q
      subst h1
      subst h2
      obtain ⟨nm, bs, mro, ns, qn, hd, sn, sub, ab, col, del⟩ := cd
      dsimp only at hm h3 h4
      subst hm h3 h4
      have hsl : sl = #[k0, k1, k2, k3, some (.builtin "ValueError.__new__"), k5] := by
        obtain ⟨l⟩ := sl
        simp only at hs
        rw [hs]
      subst hsl
      exact ⟨nm, qn, ns, bs, bm, sn, sub, ab, col, dd, k0, k1, k2, k3, k5, ho, h5⟩
    · cases q
  · cases q
/-- the class x: raised, made by its own __init__, its fields read -/
structure ExF (K : PySem.W.Frag) (mg : Str → Option Value) (x : Str) : Prop where
  g : mg x = some (.ref (He.ga K x))
  oex : OexC K (He.ga K x)
  ini : PySem.W.findIn K (.ref (He.ga K x)) "__init__" = some (some (.ref (He.ma K (He.ga K x) "__init__")))
  ty : PySem.W.typeIn K (.ref (He.ma K (He.ga K x) "__init__")) = some (.type "function")
  xf : XfC K (He.ga K x)
def exfB (x : Str) (K : PySem.W.Frag) : Bool := He.eqO (PySem.W.nsIn K mainGlobals x) (some (some (.ref (He.ga K x)))) && (oexB K (He.ga K x) && (He.eqO (PySem.W.findIn K (.ref (He.ga K x)) "__setattr__") (some (some (.builtin "object.__setattr__"))) && (decide (PySem.W.subIn K (.ref (He.ga K x)) (.type "BaseException") = some true) &&
  (decide (PySem.W.typeIn K (.ref (He.ga K x)) = some (.type "type")) && (PySem.W.keepIn K (.ref (He.ga K x)) && (He.eqO (PySem.W.findIn K (.ref (He.ga K x)) "__init__") (some (some (.ref (He.ma K (He.ga K x) "__init__")))) && (decide (PySem.W.typeIn K (.ref (He.ma K (He.ga K x) "__init__")) = some (.type "function")) && xfB K (He.ga K x))))))))
theorem exfB_ok {K : PySem.W.Frag} {h : Heap} {mg : Str → Option Value} {x : Str} (X : K.In h) (G : h.Ns mainGlobals mg) (c : exfB x K = true) : ExF K mg x := by
  unfold exfB at c
  obtain ⟨h1, c⟩ := Bool.and_eq_true_iff.mp c
  obtain ⟨h2, c⟩ := Bool.and_eq_true_iff.mp c
  obtain ⟨h3, c⟩ := Bool.and_eq_true_iff.mp c
  obtain ⟨h4, c⟩ := Bool.and_eq_true_iff.mp c
  obtain ⟨h5, c⟩ := Bool.and_eq_true_iff.mp c
  obtain ⟨h6, c⟩ := Bool.and_eq_true_iff.mp c
  obtain ⟨h7, c⟩ := Bool.and_eq_true_iff.mp c
  obtain ⟨h8, c⟩ := Bool.and_eq_true_iff.mp c
  exact ⟨PySem.W.mg_of X G (He.eqO_ok h1), ⟨oexB_ok h2, He.eqO_ok h3, of_decide_eq_true h4, of_decide_eq_true h5, h6⟩, He.eqO_ok h7, of_decide_eq_true h8, xfB_ok c⟩
/-- the class x is asked for its __init__, which is ValueError's -/
structure BaseF (K : PySem.W.Frag) (mg : Str → Option Value) (x : Str) : Prop where
  g : mg x = some (.ref (He.ga K x))
  rd : PySem.W.readsIn K (He.ga K x) (.type "type") = true
  ga : PySem.W.specialIn K (.ref (He.ga K x)) "__getattribute__" = some (some (.builtin "type.__getattribute__"))
  at_ : PySem.W.findCls K (.ref (He.ga K x)) (.type "type") "__init__" = some (.val (.builtin "ValueError.__init__"))
def baseB (x : Str) (K : PySem.W.Frag) : Bool := He.eqO (PySem.W.nsIn K mainGlobals x) (some (some (.ref (He.ga K x)))) && (PySem.W.readsIn K (He.ga K x) (.type "type") && (He.eqO (PySem.W.specialIn K (.ref (He.ga K x)) "__getattribute__") (some (some (.builtin "type.__getattribute__"))) &&
  (match PySem.W.findCls K (.ref (He.ga K x)) (.type "type") "__init__" with
    | some (.val (.builtin n)) => n == "ValueError.__init__"
    | _ => false)))
theorem baseB_ok {K : PySem.W.Frag} {h : Heap} {mg : Str → Option Value} {x : Str} (X : K.In h) (G : h.Ns mainGlobals mg) (c : baseB x K = true) : BaseF K mg x := by
  unfold baseB at c
  obtain ⟨h1, c⟩ := Bool.and_eq_true_iff.mp c
  obtain ⟨h2, c⟩ := Bool.and_eq_true_iff.mp c
  obtain ⟨h3, c⟩ := Bool.and_eq_true_iff.mp c
  refine ⟨PySem.W.mg_of X G (He.eqO_ok h1), h2, He.eqO_ok h3, ?_⟩
  split at c
  · rename_i n e
    rw [e, beq_iff_eq.mp c]
  · cases c
/-! ### Base.__init__(self, ..) -/
section
variable {X : Cx} {e : Expr} {es : List Expr} {ta : TA} {p1 p2 pos : Pos} {x : Str}
theorem pe_baseInit {pl : Sem Bool} (B : BaseF X.K X.mg x) (hg : Gl X x) (ha : PA X (e :: es) ta) (hdb : (x == ("__debug__" : Str)) = false := by decide)
    (hc : eval (.Call (.Attribute (.Name x p1) "__init__" p2) (e :: es) [] pos) X.env = (do
      let ov ← eval (.Name x p1) X.env
      PySem.standAt p2.atName
      let (f, first) ← holding [ov] (getMethod ov "__init__" pl)
      callWith pos f first (backTo pos (starEach (e :: es) X.env)) (backToKw pos (keywordEach [] X.env))) := by rfl)
    (he : starEach (e :: es) X.env = (false, eval e X.env) :: starEach es X.env := by rfl) (hpl : (backTo pos (starEach es X.env)).any (·.1) = false := by rfl) :
    PE X (.Call (.Attribute (.Name x p1) "__init__" p2) (e :: es) [] pos) (tVeI X.K ta) := by
  refine ⟨fun pins s σ H Q I h => ?_⟩
  refine PySem.W.methodCall_KW (ld_glob I hg B.g ?_ hdb) hc
  refine PySem.W.method_cls I.kIn B.ga (PySem.W.cls_value I.kIn B.rd B.at_ (by decide +kernel) ?_)
  show wpAny _ _ (callWith pos (Value.builtin "ValueError.__init__") [] (backTo pos (starEach (e :: es) X.env)) []) _ _ _
  refine PyProof.Rows.callWith_method1 (thn (ha.run pos pins _ σ H _ (I.tok _) h) fun us s1 ⟨vs, H1, I1, r1, a, C, ws, ev, hl, T, ea, q⟩ => ?_) he hpl
  subst ev
  cases r1 with
  | @cons _ u0 _ ur ra rw' =>
    obtain rfl : u0 = Value.ref a := ra
    have hlen : ur.length ≤ sizeLine := by
      rw [← Paired.length rw', sizeLine_eq]
      omega
    exact oinit_ok T I1 ea hlen fun s' J => ⟨.non, H1, J, rfl, q⟩
end
/-! ### the promises of __init__ -/
/-- an __init__ that stores nothing -/
def spI0 (K : PySem.W.Frag) (C : Addr) : Sp := fun vs H Q _ => ∃ a, vs = [.ref a] ∧ OexC K C ∧ H a = some (exo a C none) ∧ Q .non H
/-- an __init__ that stores its argument in the field f -/
def spI1 (K : PySem.W.Frag) (C : Addr) (f : Str) : Sp := fun vs H Q _ => ∃ a v, vs = [.ref a, v] ∧ OexC K C ∧ PySem.W.findIn K (.ref C) f = some none ∧ H a = some (exo a C none) ∧ ∀ dx, H dx = none → dx ≠ a → Q .non (upd (upd H dx (exd dx [(f, v)])) a (exo a C (some dx)))
section
variable {P : Program} {w : World} {K : PySem.W.Frag} {mg : Str → Option Value} {base : Heap} {x qual : Str} {params : Arguments} {scope : Scope} {f : Addr} {fd : FuncData} {k : Nat} {C : Addr}
theorem fn_init0 {msg : Str} {j : Nat} {p1 p2 p3 p4 p5 p6 : Pos} (F : FunD K x qual params [.Expr (.Call (.Attribute (.Name "WindowError" p1) "__init__" p2) [.Name "self" p3, .Constant (.str msg) j p4] [] p5) p6] scope [] [] f fd) (S : FnScope ["self"] ["self"] scope) (B : BaseF K mg "WindowError")
    (hg : ∀ cdv A outer s H E, Gl (cxOf CX0 P w K mg base ["self"] qual scope f cdv A outer s H E).nox "WindowError")
    (hv : ∀ cdv A outer s H E, Vis (cxOf CX0 P w K mg base ["self"] qual scope f cdv A outer s H E).nox.env.scope "self")
    (hc : ∀ cdv A outer s H E, ∃ pl : Sem Bool, eval (.Call (.Attribute (.Name "WindowError" p1) "__init__" p2) [.Name "self" p3, .Constant (.str msg) j p4] [] p5) (cxOf CX0 P w K mg base ["self"] qual scope f cdv A outer s H E).nox.env = (do
      let ov ← eval (.Name "WindowError" p1) (cxOf CX0 P w K mg base ["self"] qual scope f cdv A outer s H E).nox.env
      PySem.standAt p2.atName
      let (g, first) ← holding [ov] (getMethod ov "__init__" pl)
      callWith p5 g first (backTo p5 (starEach [.Name "self" p3, .Constant (.str msg) j p4] (cxOf CX0 P w K mg base ["self"] qual scope f cdv A outer s H E).nox.env)) (backToKw p5 (keywordEach [] (cxOf CX0 P w K mg base ["self"] qual scope f cdv A outer s H E).nox.env))))
    (hs : ∀ cdv A outer s H E, swapsWith (.Call (.Attribute (.Name "WindowError" p1) "__init__" p2) [.Name "self" p3, .Constant (.str msg) j p4] [] p5) none p6.line (cxOf CX0 P w K mg base ["self"] qual scope f cdv A outer s H E).nox.env = pure false) :
    FnOk P w K mg base CX0 (k + 1) f fd ["self"] (spI0 K C) := by
  refine F.ok S (fun vs H Q E ⟨a, e, _⟩ => by rw [e]; rfl) fun cdv A outer s H vs Q E hr ⟨a, e, T, ha, q⟩ => ?_
  obtain ⟨pl, hcc⟩ := hc cdv A outer s H E
  refine ⟨_, PSs.nox (pss_cons (ps_expr (pe_baseInit (pl := pl) B (hg cdv A outer s H E) (pa_cons (pe_var (i := 0) rfl (hv cdv A outer s H E) (by decide) (by decide)) (pa_cons pe_str pa_nil rfl) rfl) (by decide) hcc) (hs cdv A outer s H E)) pss_nil), ?_⟩
  subst e
  refine ⟨_, rfl, ?_⟩
  exact ⟨a, C, [V.str msg], rfl, (by show 1 ≤ 1000; decide), T, ha, q⟩
theorem fn_init1 {msg fld : Str} {j : Nat} {p1 p2 p3 p4 p5 p6 p7 p8 p9 p10 : Pos} (hf1 : (fld == ("__debug__" : Str)) = false) (hf2 : (fld == ("__classdict__" : Str)) = false) (F : FunD K x qual params [.Expr (.Call (.Attribute (.Name "WindowError" p1) "__init__" p2) [.Name "self" p3, .Constant (.str msg) j p4] [] p5) p6, .Assign [.Attribute (.Name "self" p7) fld p8] (.Name fld p9) p10] scope [] [] f fd) (S : FnScope ["self", fld] ["self", fld] scope) (B : BaseF K mg "WindowError") (hno : PySem.W.findIn K (.ref C) fld = some none)
    (hg : ∀ cdv A outer s H E, Gl (cxOf CX0 P w K mg base ["self", fld] qual scope f cdv A outer s H E).nox "WindowError")
    (hv : ∀ cdv A outer s H E, Vis (cxOf CX0 P w K mg base ["self", fld] qual scope f cdv A outer s H E).nox.env.scope "self")
    (hv2 : ∀ cdv A outer s H E, Vis (cxOf CX0 P w K mg base ["self", fld] qual scope f cdv A outer s H E).nox.env.scope fld)
    (hc : ∀ cdv A outer s H E, ∃ pl : Sem Bool, eval (.Call (.Attribute (.Name "WindowError" p1) "__init__" p2) [.Name "self" p3, .Constant (.str msg) j p4] [] p5) (cxOf CX0 P w K mg base ["self", fld] qual scope f cdv A outer s H E).nox.env = (do
      let ov ← eval (.Name "WindowError" p1) (cxOf CX0 P w K mg base ["self", fld] qual scope f cdv A outer s H E).nox.env
      PySem.standAt p2.atName
      let (g, first) ← holding [ov] (getMethod ov "__init__" pl)
      callWith p5 g first (backTo p5 (starEach [.Name "self" p3, .Constant (.str msg) j p4] (cxOf CX0 P w K mg base ["self", fld] qual scope f cdv A outer s H E).nox.env)) (backToKw p5 (keywordEach [] (cxOf CX0 P w K mg base ["self", fld] qual scope f cdv A outer s H E).nox.env))))
    (hs : ∀ cdv A outer s H E, swapsWith (.Call (.Attribute (.Name "WindowError" p1) "__init__" p2) [.Name "self" p3, .Constant (.str msg) j p4] [] p5) none p6.line (cxOf CX0 P w K mg base ["self", fld] qual scope f cdv A outer s H E).nox.env = pure false)
    (hs2 : ∀ cdv A outer s H E, swapsWith (.Name fld p9) (some (.Attribute (.Name "self" p7) fld p8)) p10.line (cxOf CX0 P w K mg base ["self", fld] qual scope f cdv A outer s H E).nox.env = pure false) :
    FnOk P w K mg base CX0 (k + 1) f fd ["self", fld] (spI1 K C fld) := by
  refine F.ok S (fun vs H Q E ⟨a, v, e, _⟩ => by rw [e]; rfl) fun cdv A outer s H vs Q E hr ⟨a, v, e, T, hno2, ha, q⟩ => ?_
  obtain ⟨pl, hcc⟩ := hc cdv A outer s H E
  refine ⟨_, PSs.nox (pss_cons (ps_expr (pe_baseInit (pl := pl) B (hg cdv A outer s H E) (pa_cons (pe_var (i := 0) rfl (hv cdv A outer s H E) (by decide) (by decide)) (pa_cons pe_str pa_nil rfl) rfl) (by decide) hcc) (hs cdv A outer s H E)) (pss_cons (ps_ost (pe_var (i := 0) rfl (hv cdv A outer s H E) (by decide) (by decide)) (pe_var (i := 1) rfl (hv2 cdv A outer s H E) hf1 hf2) (hs2 cdv A outer s H E)) pss_nil)), ?_⟩
  subst e
  refine ⟨_, rfl, ?_⟩
  refine ⟨a, C, [V.str msg], rfl, (by show 1 ≤ 1000; decide), T, ha, ?_⟩
  exact ⟨_, rfl, _, rfl, a, C, rfl, T, hno, .inl ⟨ha, fun dx n ne => q dx n ne⟩⟩
end
end HW
set_option maxHeartbeats 4000000
namespace HW
open PySem PySem.Spec PyProof.Rows L2
open SX (S)
/-! ### raise -/
/-- a class whose __init__ keeps one field, ready to be raised -/
structure Ex1 (P : Program) (w : World) (K : PySem.W.Frag) (mg : Str → Option Value) (base : Heap) (k : Nat) (x fld : Str) : Prop where
  f : ExF K mg x
  no : PySem.W.findIn K (.ref (He.ga K x)) fld = some none
  ini : ∃ fd, FnOk P w K mg base CX0 k (He.ma K (He.ga K x) "__init__") fd ["self", fld] (spI1 K (He.ga K x) fld) ∧ Binds K fd ["self", fld] []
/-- .. that keeps none -/
structure Ex0 (P : Program) (w : World) (K : PySem.W.Frag) (mg : Str → Option Value) (base : Heap) (k : Nat) (x : Str) : Prop where
  f : ExF K mg x
  ini : ∃ fd, FnOk P w K mg base CX0 k (He.ma K (He.ga K x) "__init__") fd ["self"] (spI0 K (He.ga K x)) ∧ Binds K fd ["self"] []
/-- what an exception is known by: its class, its field -/
def XO (K : PySem.W.Frag) (L : List Addr) (H0 H' : Hp) (x : Str) (fo : Option (Str × PyData)) (cls : Value) (d : Option Addr) : Prop := cls = .ref (He.ga K x) ∧ Same H0 H' ∧ match fo with
  | none => True
  | some (f, y) => ∃ dd v, d = some dd ∧ H0 dd = none ∧ H' dd = some (.xd [(f, v)]) ∧ Va K (off L H') v y
/-- a def that raises -/
def spX (K : PySem.W.Frag) (R : List PyData → Str → Option (Str × PyData) → Prop) : Sp := fun vs H Q E => ∃ (L : List Addr) (ds : List PyData) (x : Str) (fo : Option (Str × PyData)), (∀ a ∈ L, H a ≠ none) ∧ VaAll K (off L H) vs ds ∧ R ds x fo ∧ ∀ cls d H', XO K L H H' x fo cls d → E cls d H'
structure FdX (P : Program) (w : World) (K : PySem.W.Frag) (mg : Str → Option Value) (base : Heap) (k : Nat) (x : Str) (ps : List Str) (R : List PyData → Str → Option (Str × PyData) → Prop) : Prop where
  ex : ∃ (f : Addr) (fd : FuncData), FnOk P w K mg base (L2.CX P w) k f fd ps (spX K R) ∧ mg x = some (.ref f) ∧ PySem.W.keepIn K (.ref f) = true ∧ Binds K fd ps []
theorem Ex1.mono {P : Program} {w : World} {K : PySem.W.Frag} {mg : Str → Option Value} {base : Heap} {j k : Nat} {x fld : Str} (F : Ex1 P w K mg base j x fld) (h : j ≤ k) : Ex1 P w K mg base k x fld := by
  obtain ⟨fd, h1, h2⟩ := F.ini
  exact ⟨F.f, F.no, fd, h1.mono h, h2⟩
theorem Ex0.mono {P : Program} {w : World} {K : PySem.W.Frag} {mg : Str → Option Value} {base : Heap} {j k : Nat} {x : Str} (F : Ex0 P w K mg base j x) (h : j ≤ k) : Ex0 P w K mg base k x := by
  obtain ⟨fd, h1, h2⟩ := F.ini
  exact ⟨F.f, fd, h1.mono h, h2⟩
theorem FdX.mono {P : Program} {w : World} {K : PySem.W.Frag} {mg : Str → Option Value} {base : Heap} {j k : Nat} {x : Str} {ps : List Str} {R : List PyData → Str → Option (Str × PyData) → Prop} (F : FdX P w K mg base j x ps R) (h : j ≤ k) : FdX P w K mg base k x ps R := by
  obtain ⟨f, fd, h1, h2⟩ := F.ex
  exact ⟨f, fd, h1.mono h, h2⟩
theorem same_trans {a b c : Hp} (h1 : Same a b) (h2 : Same b c) : Same a c := fun x o e => h2 x o (h1 x o e)
theorem same_offL {L : List Addr} {H H' : Hp} (s : Same H H') : Same (off L H) (off L H') := fun a o e => by
  obtain ⟨h1, h2⟩ := off_some e
  unfold off at e ⊢
  rw [if_neg h1]
  exact s a o h2
section
variable {X : Cx} {W : Wd} {Γ : List DV} {μ : Mu} {a : Expr} {rest : List Stmt} {D : Ends} {y : PyData} {x fld : Str} {k : Nat} {p pos pos2 : Pos} {W0 : WX}
/-- raise X(a) -/
theorem run_raise1 (F : Ex1 X.prog X.w X.K X.mg X.base k x fld) (hr : Room (k + 1) X.A) (tk : Takes X W0) (ha : Ed X W Γ μ a y) (h : ∀ σ H, Rep X.K W Γ μ σ H → ∀ cls d H', XO X.K W.M H H' x (some (fld, y)) cls d → W0 cls d σ H') (hg : Gl X x := by rfl) (hc : X.calm = true := by rfl)
    (hdb : (x == ("__debug__" : Str)) = false := by decide) (hs1 : starEach [a] X.env = (false, eval a X.env) :: starEach [] X.env := by rfl) (hpl : (backTo pos (starEach [] X.env)).any (·.1) = false := by rfl) : Run X W Γ μ (.Raise (some (.Call (.Name x p) [a] [] pos)) none pos2 :: rest) D := fun σ H R => by
  obtain ⟨fd, F1, hb⟩ := F.ini
  refine wSs_cons ((ps_raise hc tk (pmk_oex F.f.oex F.f.ini F.f.ty F1 hr hb .nil pass0 hg F.f.g (pa_cons wE.pe pa_nil hs1) hdb hs1 hpl)).w ?_)
  refine ha σ H R _ fun v H2 R2 e2 r2 => ⟨by show 1 ≤ 1000; decide, fun a0 hna => ⟨a0, v, rfl, F.f.oex, F.no, upd_same, fun dx hdx hne => ⟨rfl, dx, [(fld, v)], upd_same, ?_, ?_, ?_⟩⟩⟩
  · rw [upd_ne hne, upd_same]
  · rw [upd_ne hne] at hdx
    exact hdx
  · have hd1 : H2 dx = none := by
      rw [upd_ne hne] at hdx
      exact hdx
    have sm : Same H2 (upd (del (upd (upd (upd H2 a0 (exo a0 (He.ga X.K x) none)) dx (exd dx [(fld, v)])) a0 (exo a0 (He.ga X.K x) (some dx))) a0) dx (.xd [(fld, v)])) := fun b o e => by
      have h1 : b ≠ a0 := fun z => by rw [z, hna] at e; cases e
      have h2 : b ≠ dx := fun z => by rw [z, hd1] at e; cases e
      rw [upd_ne h2, del_ne h1, upd_ne h1, upd_ne h2, upd_ne h1]
      exact e
    refine h σ H2 R2 _ _ _ ⟨rfl, sm, dx, v, rfl, hd1, upd_same, ?_⟩
    exact (r2.up (same_offs fun a ha => List.mem_append_left _ ha)).up (same_offL sm)
end
section
variable {P : Program} {w : World} {K : PySem.W.Frag} {mg : Str → Option Value} {base : Heap} {x qual : Str} {params : Arguments} {body : List Stmt} {scope : Scope} {f : Addr} {fd : FuncData} {N ps : List Str} {k : Nat}
/-- a def that raises, where R tells what -/
theorem fd_exc (F : FunD K x qual params body scope [] [] f fd) (Sc : FnScope N ps scope) (R : List PyData → Str → Option (Str × PyData) → Prop) (hlen : ∀ ds x fo, R ds x fo → ds.length = ps.length)
    (h : ∀ (cdv : Value) (A : Around) (outer : List Env) (s : Shared) (H : Hp) (E : XK), Room k (A.deeper (envOfC qual scope s.heap.objs.size f cdv)) → ∀ (W : Wd) (ds : List PyData) (x : Str) (fo : Option (Str × PyData)), W.row = none → R ds x fo →
      (∀ σ H1 (Γ : List DV) (μ : Mu), Rep K W Γ μ σ H1 → ∀ cls d H', XO K W.M H1 H' x fo cls d → E cls d H') →
      Run (cxOf (L2.CX P w) P w K mg base N qual scope f cdv A outer s H E) W (ds.map .d ++ List.replicate (N.length - ps.length) .no) [] body { nx := fun _ _ => False, rt := fun _ _ => False, bk := fun _ _ => False, ct := fun _ _ => False }) :
    FnOk P w K mg base (L2.CX P w) (k + 1) f fd ps (spX K R) := by
  refine F.ok Sc (fun vs H Q E ⟨L, ds, x, fo, _, hv, r, _⟩ => by rw [hv.length]; exact hlen ds x fo r) fun cdv A outer s H vs Q E hr ⟨L, ds, x, fo, hL, hv, r, q⟩ => ?_
  refine ⟨_, wSs.ps, ?_⟩
  let W : Wd := ⟨H, L, none⟩
  have ok : WdOk K W := ⟨hL, fun _ _ _ e => nomatch e⟩
  have nr : ∀ a, ¬ W.isRow a := fun a ⟨_, _, e⟩ => nomatch e
  have sl : Slots K (off (hd W []) H) (start N vs) (ds.map .d ++ List.replicate (N.length - ps.length) .no) := by
    show Slots K (off (L ++ []) H) (vs.map some ++ List.replicate (N.length - vs.length) none) _
    rw [List.append_nil, hv.length, hlen ds x fo r]
    exact slots_start _ hv
  intro pins st I
  have z := h cdv A outer s H E hr W ds x fo rfl r (fun σ H1 Γ μ R1 cls d H' hx => ?_) (start N vs) H ⟨ok, ⟨fun _ _ _ e => e, fun _ _ _ e => nomatch e⟩, sl, fun _ z => (nomatch z), List.nodup_nil⟩ pins st I
  · refine wpAny_mono z (fun fl s' hq => ?_) fun _ _ z => z
    cases fl with
    | next =>
      obtain ⟨_, _, _, q'⟩ := hq
      exact q'.elim
    | brk =>
      obtain ⟨_, _, _, q'⟩ := hq
      exact q'.elim
    | cont =>
      obtain ⟨_, _, _, q'⟩ := hq
      exact q'.elim
    | ret u =>
      obtain ⟨_, _, _, _, _, q'⟩ := hq
      exact q'.elim
  · have sm : Same H H1 := fun a o e => R1.fr.keep a o (nr a) e
    obtain ⟨h1, h2, h3⟩ := hx
    refine q cls d H' ⟨h1, same_trans sm h2, ?_⟩
    cases fo with
    | none => trivial
    | some fy =>
      obtain ⟨f, y⟩ := fy
      obtain ⟨dd, v, e1, e2, e3, e4⟩ := h3
      refine ⟨dd, v, e1, ?_, e3, e4⟩
      cases e : H dd with
      | none => rfl
      | some o =>
        rw [sm dd o e] at e2
        cases e2
end
end HW
set_option maxHeartbeats 4000000
namespace HW
open PySem PySem.Spec PyProof.Rows L2
open SX (S)
/-! ### calls that raise, try -/
theorem XO.down {K : PySem.W.Frag} {L L' : List Addr} {H0 H' : Hp} {x : Str} {fo : Option (Str × PyData)} {cls : Value} {d : Option Addr} (h : XO K L H0 H' x fo cls d) (hl : ∀ a ∈ L', a ∈ L) : XO K L' H0 H' x fo cls d := by
  obtain ⟨h1, h2, h3⟩ := h
  refine ⟨h1, h2, ?_⟩
  cases fo with
  | none => trivial
  | some fy =>
    obtain ⟨f, y⟩ := fy
    obtain ⟨dd, v, e1, e2, e3, e4⟩ := h3
    exact ⟨dd, v, e1, e2, e3, e4.up (same_offs hl)⟩
theorem slots_no {K : PySem.W.Frag} {H : Hp} {σ : L2.St} {Γ : List DV} (h : Slots K H σ Γ) (i : Nat) : Slots K H (σ.set i none) (Γ.set i .no) := ⟨by rw [List.length_set, List.length_set, h.len], fun j dv q => by
  by_cases e : i = j
  · subst e
    have hl : i < Γ.length := by
      have := (List.getElem?_eq_some_iff.mp q).1
      simpa using this
    rw [List.getElem?_set_self hl] at q
    cases q
    exact ⟨none, by rw [List.getElem?_set_self (by rw [h.len]; exact hl)], trivial⟩
  · rw [List.getElem?_set_ne e] at q ⊢
    exact h.at_ j dv q⟩
/-- evaluating e raises -/
def EdX (X : Cx) (W : Wd) (Γ : List DV) (μ : Mu) (e : Expr) : Prop := ∀ σ H, Rep X.K W Γ μ σ H → ∀ Q : VK, wE X e σ H Q
abbrev DF : Ends := { nx := fun _ _ => False, rt := fun _ _ => False, bk := fun _ _ => False, ct := fun _ _ => False }
section
variable {X : Cx} {W : Wd} {Γ : List DV} {μ : Mu} {e : Expr} {es : List Expr} {rest : List Stmt} {D : Ends} {ds : List PyData} {x f : Str} {fo : Option (Str × PyData)} {ps : List Str} {k : Nat} {p pos : Pos} {W0 : WX} {R : List PyData → Str → Option (Str × PyData) → Prop}
/-- a call that raises -/
theorem ed_callX (F : FdX X.prog X.w X.K X.mg X.base k f ps R) (hr : Room k X.A) (tk : Takes X W0) (ha : EdA X W Γ μ (e :: es) ds) (hR : R ds x fo) (h : ∀ σ H, Rep X.K W Γ μ σ H → ∀ cls d H', XO X.K (hd W μ) H H' x fo cls d → W0 cls d σ H') (hg : Gl X f := by rfl)
    (hdb : (f == ("__debug__" : Str)) = false := by decide) (he : starEach (e :: es) X.env = (false, eval e X.env) :: starEach es X.env := by rfl) (hpl : (backTo pos (starEach es X.env)).any (·.1) = false := by rfl) : EdX X W Γ μ (.Call (.Name f p) (e :: es) [] pos) := fun σ H Rp Q => by
  obtain ⟨fa, fd, h1, h2, h3, h4⟩ := F.ex
  refine (pe_callS (E := WE W0) h1 hr hg h2 h3 h4 (fun σ => passAt tk σ) wA.pa hdb he hpl).w (ha σ H Rp _ fun vs H2 R2 e2 r2 => ?_)
  exact ⟨HW.hd W μ, ds, x, fo, R2.ne, r2, hR, fun cls d H' hx => h σ H2 R2 cls d H' hx⟩
theorem run_exprX (he : EdX X W Γ μ e) (hs : swapsWith e none pos.line X.env = pure false := by rfl) : Run X W Γ μ (.Expr e pos :: rest) D := fun σ H R =>
  wSs_cons ((ps_expr wE.pe hs).w (he σ H R _))
end
/-! ### try: .. except x as n: m = e -/
section
variable {X : Cx} {W : Wd} {Γ : List DV} {μ : Mu} {rest body : List Stmt} {D : Ends} {x xr n nm : Str} {fo : Option (Str × PyData)} {np pos pos' q1 q2 : Pos} {e0 : Expr} {y0 : PyData} {W0 : WX}
/-- what is known of the exception in its suite -/
structure Caught (X : Cx) (W W1 : Wd) (Γ : List DV) (μ : Mu) (xr : Str) (fo : Option (Str × PyData)) (a : Addr) (oe : Obj) (cls : Value) (d : Option Addr) : Prop where
  le : Wle W W1
  z : Zc cls d oe
  fields : ∃ vs, oe.data = .fields vs
  cls : cls = .ref (He.ga X.K xr)
  fld : match fo with
    | none => True
    | some (f, y) => ∃ dd v, d = some dd ∧ (∀ σ H (Γ' : List DV) (μ' : Mu), Rep X.K W1 Γ' μ' σ H → H dd = some (.xd [(f, v)]) ∧ Va X.K (off (hd W1 μ') H) v y)
end
end HW
set_option maxHeartbeats 4000000
namespace HW
open PySem PySem.Spec PyProof.Rows L2
open SX (S)
/-! ### what is refused -/
end HW
set_option maxHeartbeats 4000000
namespace HW
open PySem PySem.Spec PyProof.Rows L2
open SX (S)
/-! ### the least masks -/
abbrev gMOST_ASKED (mg : Str → Option Value) : Prop := ∃ t, mg "MOST_ASKED" = some (.int 9 t)
end HW
set_option maxHeartbeats 4000000
namespace HW
open PySem PySem.Spec PyProof.Rows L2
open SX (S)
/-! ### rows counted -/
end HW
set_option maxHeartbeats 4000000
namespace HW
open PySem PySem.Spec PyProof.Rows L2
open SX (S)
/-! ### raise X() -/
section
variable {X : Cx}
theorem mk_endN {pins : List (Addr × Obj)} {σ : L2.St} {H1 H2 : Hp} {Q : XK} {hp hp2 h2 : Heap} {g1 g2 : Array GenState} {d1 d2 : Drawn} {t1 t2 : Nat} {os1 os2 : OsState} {a C : Addr} (T : Raises X (.ref C)) (I1 : Inv X pins σ H1 ⟨hp, g1, d1, t1, os1⟩)
    (ha : hp.objs.size ≤ a) (k : ∀ b o, hp.get? b = some o → hp2.get? b = some o) (un : Un (frs X.stack) [] (upd H1 a (exo a C none)) H2 hp2 h2) (hok : HOk X.prog X.w H2 h2) (ho : os2 = os1) (hb : AllBare g2)
    (ea : H2 a = some (exo a C none)) (q : Q (.ref C) none (del H2 a)) : MkP X pins σ Q (.ref a) ⟨h2, g2, d2, t2, os2⟩ := by
  obtain ⟨t0, hoe⟩ := exo_at hok ea
  have hn : H1 a = none := I1.hok.fresh ha
  obtain ⟨G, g1', g2'⟩ := restrict h2 fun b => decide (b ≠ a)
  have gk : ∀ b, b ≠ a → G.get? b = h2.get? b := fun b hb => g1' b (decide_eq_true hb)
  have ge : G.get? a = none := g2' a (by simp)
  have nha : ∀ {b : Addr} {o : Obj}, hp.get? b = some o → b ≠ a := fun {b o} z => Nat.ne_of_lt (Nat.lt_of_lt_of_le (Heap.lt_size z) ha)
  have up : ∀ {b : Addr}, b ≠ a → H1 b = none → upd H1 a (exo a C none) b = none := fun {b} hb n => by rw [upd_ne hb]; exact n
  have U : Un (frs X.stack) [] H1 (del H2 a) hp G := {
    keep := fun b o z n hf hx => by
      rw [gk b (nha z)]
      exact un.keep b o (k b o z) (up (nha z) n) hf hx
    slot := fun b o z n hf hx => by
      rw [gk b (nha z)]
      exact un.slot b o (k b o z) (up (nha z) n) hf hx
    free := fun b o z n hx => by
      rw [del_ne (nha z)]
      exact un.free b o (k b o z) (up (nha z) n) hx
    there := fun b o z hx => by
      rw [gk b (nha z)]
      exact un.there b o (k b o z) hx
    tups := fun b xs z => by
      rw [del_ne (ne_of_none z hn)]
      exact un.tups b xs (by rw [upd_ne (ne_of_none z hn)]; exact z)
    frzs := fun b o v z => by
      rw [del_ne (ne_of_none z hn)]
      exact un.frzs b o v (by rw [upd_ne (ne_of_none z hn)]; exact z)
    tbls := fun b ps z => by
      rw [del_ne (ne_of_none z hn)]
      exact un.tbls b ps (by rw [upd_ne (ne_of_none z hn)]; exact z) }
  have hok3 : HOk X.prog X.w (del H2 a) G := fun b o z => by
    have hba : b ≠ a := fun e => by
      rw [e, del_same] at z
      cases z
    rw [del_ne hba] at z
    have noa : ∀ {c : Addr}, H2 c = some (.own b) → c ≠ a := fun {c} hc => at_ne ea hc exo_own
    exact (hok b o z).stay (fun c v hc y => by
        have hca : c ≠ a := by
          rcases hc with hc | hc
          · rw [hc]
            exact hba
          · exact noa hc
        rw [gk c hca]
        exact y)
      (fun c hc => by rw [del_ne (noa hc)]; exact hc) (fun c xs hc => by rw [del_ne (at_ne ea hc exo_tup)]; exact hc)
  have J : Inv X pins σ (del H2 a) ⟨G, g2, d2, t2, os2⟩ := I1.call' (ch := []) ho U hok3 hb (fun b z => absurd z (by simp))
  refine ⟨a, _, _, ⟨G, g2, d2, t2, os2⟩, _, .ref C, none, rfl, J, fun b o z => ?_, ge, hoe, ⟨rfl, rfl⟩, rfl, rfl, by rw [del_same], rfl, hb, T, q⟩
  by_cases hba : b = a
  · rw [hba, ge] at z
    cases z
  · exact (gk b hba).symm.trans z
/-- C(), C's own __init__ keeping sp, nothing kept in it -/
theorem pmk_oex0 {CX : CXT} {x : Str} {C fI : Addr} {k : Nat} {fd : FuncData} {ps : List Str} {sp : Sp} {ds : List Value} {dvs : List V} {p pos : Pos} (T : OexC X.K C) (iC : PySem.W.findIn X.K (.ref C) "__init__" = some (some (.ref fI))) (tI : PySem.W.typeIn X.K (.ref fI) = some (.type "function"))
    (F1 : FnOk X.prog X.w X.K X.mg X.base CX k fI fd ps sp) (hr : Room (k + 1) X.A) (hb : Binds X.K fd ps ds) (hd : Vals dvs ds) (hx : Passes CX X (fun _ _ _ => False)) (hg : Gl X x) (hm : X.mg x = some (.ref C))
    (hdb : (x == ("__debug__" : Str)) = false := by decide) :
    PMk X (.Call (.Name x p) [] [] pos) (fun _ H1 Q => ∀ a, H1 a = none → sp (.ref a :: dvs) (upd H1 a (exo a C none)) (fun v H2 => v = .non ∧ H2 a = some (exo a C none) ∧ Q (.ref C) none (del H2 a)) (fun _ _ _ => False)) := by
  intro pins s σ H Q I h
  obtain ⟨nm, q, N, bs, bm, sn, sub, ab, col, dd, k0, k1, k2, k3, k5, hC, hbm⟩ := T.cls
  refine wpAny_Call_Name_kw (ld_glob I hg hm ?_ hdb)
  refine PySem.W.callWith_K0 I.kIn T.kC ?_
  show wpAny _ _ (call (.ref C) []) _ _ _
  obtain ⟨hp, g, dr, tk, os⟩ := s
  have hsz : hp.objs.size ≤ hp.objs.size + 1 := Nat.le_succ _
  have hn : H (hp.objs.size + 1) = none := I.hok.fresh hsz
  have hq := h (hp.objs.size + 1) hn
  have kk : ∀ b o, hp.get? b = some o → ((hp.push (PySem.W.kdv_tup [])).push (PySem.HandSPX.excO C hp.objs.size)).get? b = some o := fun b o e => Heap.get?_push_of_some _ (Heap.get?_push_of_some _ e)
  have hget : ((hp.push (PySem.W.kdv_tup [])).push (PySem.HandSPX.excO C hp.objs.size)).get? (hp.objs.size + 1) = some (PySem.HandSPX.excO C hp.objs.size) := by heap_get
  have I2 : Inv X pins σ (upd H (hp.objs.size + 1) (exo (hp.objs.size + 1) C none)) ⟨(hp.push (PySem.W.kdv_tup [])).push (PySem.HandSPX.excO C hp.objs.size), g, dr, tk, os⟩ :=
    I.laid (t' := tk) (a := hp.objs.size + 1) (o := exo (hp.objs.size + 1) C none) (h' := (hp.push (PySem.W.kdv_tup [])).push (PySem.HandSPX.excO C hp.objs.size)) kk hsz (exo_ok hget)
  have r2 : Vals (V.ref (hp.objs.size + 1) :: dvs) ([Value.ref (hp.objs.size + 1)] ++ ds) := .cons rfl hd
  have hl : ([Value.ref (hp.objs.size + 1)] ++ ds).length = ps.length := by
    have e := r2.length
    rw [F1.len _ _ _ _ hq] at e
    exact e.symm
  refine wpAny_call (PySem.HandSPX.call_own F.excBase_ValueError (fun Y => PySem.HandSPX.refsVE_contains Y bm hbm) (I.kIn _ _ hC) (PySem.W.looks_findIn I.kIn iC) (fun self => PySem.W.bind_fn I.kIn self tI) (Nat.zero_le _)
    (codeAny_mono (F1.run _ X.stack _ _ ⟨[Value.ref (hp.objs.size + 1)], []⟩ ([Value.ref (hp.objs.size + 1)] ++ ds) _ _ (fun _ _ _ => False) (hr.make C [] []) (I2.env0.make C [] []) (hb _ [Value.ref (hp.objs.size + 1)] I2.kIn hl) r2 hq) fun r s' hq' => ?_))
  cases r with
  | error er => exact hx pins σ _ _ er s' I2 hq'
  | ok fl =>
    cases fl with
    | ret u =>
      obtain ⟨v, H2, os2, bare2, un2, hok2, rv, ev, ea, q2⟩ := hq'
      subst ev
      obtain ⟨h2, g2, d2, t2, os'⟩ := s'
      exact ⟨rv, mk_endN (raises_own T.exC T.tyC) I hsz kk un2 hok2 os2 bare2 ea q2⟩
    | next => exact False.elim hq'
    | brk => exact False.elim hq'
    | cont => exact False.elim hq'
end
section
variable {X : Cx} {W : Wd} {Γ : List DV} {μ : Mu} {rest : List Stmt} {D : Ends} {x : Str} {k : Nat} {p pos pos2 : Pos} {W0 : WX}
/-- raise X() -/
theorem run_raise0 (F : Ex0 X.prog X.w X.K X.mg X.base k x) (hr : Room (k + 1) X.A) (tk : Takes X W0) (h : ∀ σ H, Rep X.K W Γ μ σ H → ∀ cls d H', XO X.K W.M H H' x none cls d → W0 cls d σ H') (hg : Gl X x := by rfl) (hc : X.calm = true := by rfl)
    (hdb : (x == ("__debug__" : Str)) = false := by decide) : Run X W Γ μ (.Raise (some (.Call (.Name x p) [] [] pos)) none pos2 :: rest) D := fun σ H R => by
  obtain ⟨fd, F1, hb⟩ := F.ini
  refine wSs_cons ((ps_raise hc tk (pmk_oex0 F.f.oex F.f.ini F.f.ty F1 hr hb .nil pass0 hg F.f.g hdb)).w fun a0 hna => ⟨a0, rfl, F.f.oex, upd_same, rfl, upd_same, ?_⟩)
  have sm : Same H (del (upd H a0 (exo a0 (He.ga X.K x) none)) a0) := fun b o e => by
    have h1 : b ≠ a0 := fun z => by rw [z, hna] at e; cases e
    rw [del_ne h1, upd_ne h1]
    exact e
  exact h σ H R _ _ _ ⟨rfl, sm, trivial⟩
end
end HW
set_option maxHeartbeats 4000000
namespace HW
open PySem PySem.Spec PyProof.Rows L2
open SX (S)
/-! ### try with several clauses without `as` -/
/-- the clauses name classes of the program -/
inductive AllCl (X : Cx) : List ExceptHandler → Prop
  | nil : AllCl X []
  | cons {x : Str} {b0 : Stmt} {st : List Stmt} {np pos' : Pos} {hds : List ExceptHandler} (F : Names X x (.ref (He.ga X.K x))) (r : AllCl X hds) : AllCl X (.ExceptHandler (some (.Name x np)) none (b0 :: st) pos' :: hds)
/-- of the clauses, st is the suite that xr comes to -/
inductive Chosen (X : Cx) (xr : Str) : List ExceptHandler → List Stmt → Prop
  | here {x : Str} {b0 : Stmt} {st : List Stmt} {np pos' : Pos} {hds : List ExceptHandler} (F : Names X x (.ref (He.ga X.K x))) (hm : PySem.W.exmOne X.K (.ref (He.ga X.K xr)) (.ref (He.ga X.K x)) = some true) (r : AllCl X hds) :
      Chosen X xr (.ExceptHandler (some (.Name x np)) none (b0 :: st) pos' :: hds) (b0 :: st)
  | there {x : Str} {b0 : Stmt} {st st2 : List Stmt} {np pos' : Pos} {hds : List ExceptHandler} (F : Names X x (.ref (He.ga X.K x))) (hm : PySem.W.exmOne X.K (.ref (He.ga X.K xr)) (.ref (He.ga X.K x)) = some false) (r : Chosen X xr hds st2) :
      Chosen X xr (.ExceptHandler (some (.Name x np)) none (b0 :: st) pos' :: hds) st2
theorem AllCl.app {X : Cx} {hds : List ExceptHandler} (h : AllCl X hds) : ∃ l, HdsOk X hds l := by
  induction h with
  | nil => exact ⟨_, .nil⟩
  | @cons x b0 st np pos' hds F r ih =>
    obtain ⟨l, hl⟩ := ih
    exact ⟨_, .cons (ts := fun a cls d D σ H => ∀ (oe : Obj) (pn : List (Addr × Obj)), Zc cls d oe → (∃ vs, oe.data = .fields vs) → wSs (X.suite a ((a, oe) :: pn)) (b0 :: st) D σ H) F (fun a oe cls d pn hz hv => ⟨fun pins s σ H D I h => h oe pn hz hv pins s I⟩) hl⟩
theorem Chosen.app {X : Cx} {xr : Str} {hds : List ExceptHandler} {st : List Stmt} (h : Chosen X xr hds st) : ∃ l, HdsOk X hds l ∧ ∀ (Wout : WX) (D : Ends) (σ : L2.St) (H : Hp) (d : Option Addr),
    (∀ a, H a = none → ∀ (oe : Obj) (pn : List (Addr × Obj)), Zc (.ref (He.ga X.K xr)) d oe → (∃ vs, oe.data = .fields vs) → wSs (X.suite a ((a, oe) :: pn)) st D σ H) → wMany X.K Wout D l (.ref (He.ga X.K xr)) d σ H := by
  induction h with
  | @here x b0 st np pos' hds F hm r =>
    obtain ⟨l, hl⟩ := r.app
    exact ⟨_, .cons (ts := fun a cls d D σ H => ∀ (oe : Obj) (pn : List (Addr × Obj)), Zc cls d oe → (∃ vs, oe.data = .fields vs) → wSs (X.suite a ((a, oe) :: pn)) (b0 :: st) D σ H) F (fun a oe cls d pn hz hv => ⟨fun pins s σ H D I h => h oe pn hz hv pins s I⟩) hl,
      fun Wout D σ H d q => ⟨true, hm, fun _ a na oe pn hz hv => q a na oe pn hz hv, fun z => nomatch z⟩⟩
  | @there x b0 st st2 np pos' hds F hm r ih =>
    obtain ⟨l, hl, hq⟩ := ih
    exact ⟨_, .cons (ts := fun a cls d D σ H => ∀ (oe : Obj) (pn : List (Addr × Obj)), Zc cls d oe → (∃ vs, oe.data = .fields vs) → wSs (X.suite a ((a, oe) :: pn)) (b0 :: st) D σ H) F (fun a oe cls d pn hz hv => ⟨fun pins s σ H D I h => h oe pn hz hv pins s I⟩) hl,
      fun Wout D σ H d q => ⟨false, hm, (fun z => nomatch z), fun _ => hq Wout D σ H d q⟩⟩
section
variable {X : Cx} {W : Wd} {Γ : List DV} {μ : Mu} {rest body : List Stmt} {D : Ends} {xr nm : Str} {fo : Option (Str × PyData)} {h0 : ExceptHandler} {hds : List ExceptHandler} {pos q1 q2 : Pos} {e0 : Expr} {y0 : PyData} {W0 : WX}
end
end HW
set_option maxHeartbeats 4000000
namespace HW
open PySem PySem.Spec PyProof.Rows L2
open SX (S)
/-! ### texts that are no masks, no rows, no views -/
def R_is_mask_t (ds : List PyData) (d : PyData) : Prop := ∃ m : List Nat, ds = [sD m] ∧ m.length ≤ 4000 ∧ d = .bool (maskB m)
def R_is_row_t (ds : List PyData) (d : PyData) : Prop := ∃ l : List Nat, ds = [sD l] ∧ l.length ≤ 4000 ∧ d = .bool (rowB l)
def R_is_view_t (ds : List PyData) (d : PyData) : Prop := ∃ m t : List Nat, ds = [sD m, sD t] ∧ m.length ≤ 4000 ∧ t.length ≤ 4000 ∧ d = .bool (lookB m t)
abbrev gMOST_VIEWS (mg : Str → Option Value) : Prop := ∃ t, mg "MOST_VIEWS" = some (.int 7 t)
end HW
set_option maxHeartbeats 4000000
namespace HW
open PySem PySem.Spec PyProof.Rows L2
open SX (S)
/-! ### text.split(text) -/
section
variable {X : Cx} {W : Wd} {Γ : List DV} {μ : Mu} {o e : Expr} {a b : Str} {apos pos : Pos}
end
end HW
set_option maxHeartbeats 4000000
namespace HW
open PySem PySem.Spec PyProof.Rows L2
open SX (S)
/-! ### law 27: ten wrong calls -/
end HW
set_option maxHeartbeats 4000000
namespace HW
open PySem PySem.Spec PyProof.Rows L2
open SX (S)
/-! ### try: of all clauses, with `as` and without, the one that takes the exception -/
/-- of the clauses, the one that an exception of the class cr comes to: the slot of its name, its suite -/
inductive Pick (X : Cx) (cr : Value) : List ExceptHandler → Option Nat → Stmt → List Stmt → Prop
  | bare {x : Str} {c : Value} {b0 : Stmt} {st : List Stmt} {np hp : Pos} {hds : List ExceptHandler} (F : Names X x c) (hm : PySem.W.exmOne X.K cr c = some true) : Pick X cr (.ExceptHandler (some (.Name x np)) none (b0 :: st) hp :: hds) none b0 st
  | named {x n : Str} {c : Value} {i : Nat} {b0 : Stmt} {st : List Stmt} {np hp : Pos} {hds : List ExceptHandler} (F : Names X x c) (hm : PySem.W.exmOne X.K cr c = some true) (hi : X.N[i]? = some n) (hl : X.env.kindOf n = some .local) :
      Pick X cr (.ExceptHandler (some (.Name x np)) (some n) (b0 :: st) hp :: hds) (some i) b0 st
  | skip {x : Str} {c : Value} {nm : Option Str} {b0 : Stmt} {st s2 : List Stmt} {np hp : Pos} {hds : List ExceptHandler} {o : Option Nat} (F : Names X x c) (hm : PySem.W.exmOne X.K cr c = some false) (r : Pick X cr hds o b0 st) :
      Pick X cr (.ExceptHandler (some (.Name x np)) nm s2 hp :: hds) o b0 st
def slotE (o : Option Nat) (v : Option V) (σ : L2.St) : L2.St := match o with
  | none => σ
  | some i => σ.set i v
def endsE (o : Option Nat) (D : Ends) : Ends := ⟨fun σ H => D.nx (slotE o none σ) H, D.rt, fun σ H => D.bk (slotE o none σ) H, fun σ H => D.ct (slotE o none σ) H⟩
def seekX (X : Cx) (pins : List (Addr × Obj)) (D : Ends) (hl : List ExceptHandler) : Value → Shared → Prop := fun e s1 => wpAny (model X.prog X.w) X.A (noteFrame e X.env) (fun _ s2 => wpAny (model X.prog X.w) X.A (setFlight e none)
  (fun _ s3 => wpAny (model X.prog X.w) X.A (handleBy e X.env hl) (SP X pins D) X.xe s3) X.xe s2) X.xe s1
section
variable {X : Cx} {body : List Stmt} {h0 : ExceptHandler} {hds : List ExceptHandler} {pos : Pos} {tb : WX → TS} {cr : Value} {o : Option Nat} {b0 : Stmt} {st : List Stmt} {ts : Addr → Option Addr → TS}
theorem ps_try_pick (hs : X.stack = X.env :: X.outer) (hf : X.env.frame = some X.env.locals) (nd : X.N.Nodup) (pk : Pick X cr (h0 :: hds) o b0 st)
    (hb : ∀ (W : WX) (pn : List (Addr × Obj)) (xe : Value → Shared → Prop), Takes (X.tr pn xe) W → PassesOwn (model X.prog X.w) X.A X.env xe → PSs (X.tr pn xe) body (tb W))
    (hsu : ∀ (a : Addr) (oe : Obj) (d : Option Addr) (pn : List (Addr × Obj)), Zc cr d oe → (∃ vs, oe.data = .fields vs) → PSs (X.suite a ((a, oe) :: pn)) (b0 :: st) (ts a d)) :
    PS X (.Try body (h0 :: hds) [] [] pos) (fun D σ H => tb (fun cls d σ H => cls = cr ∧ ∀ a, H a = none → ts a d (endsE o D) (slotE o (some (.ref a)) σ) H) D σ H) := by
  constructor
  intro pins s σ H D I h
  have k0 := I.ok
  have kf : X.A.frames = some (X.env :: X.outer) := k0.frames.trans (congrArg some hs)
  refine wpAny_Try_except (wpAny_mono ((hb _ (X.pn ++ pins) (seekX X pins D (h0 :: hds)) (fun u s1 z => ?_) PassesOwn.looking).run [] s σ H D (I.toTry _) h) (fun f s1 z => ?_) fun _ _ z => z)
  · obtain ⟨xa, fB, s0, pins0, σ1, H1, cls, d, rfl, J0, nb, up, sky, na, os, ag, ec, w⟩ := z
    subst ec
    have J : Inv X pins σ1 H1 s0 := J0.ofTry k0
    have sk : Sky fB (X.env :: X.outer) xa (Zc cls d) X.env.locals s1.heap := hs ▸ sky
    show wpAny (model X.prog X.w) X.A (noteFrame (.ref xa) X.env) _ _ _
    refine Sky.land Zc.steady kf hf sk fun g fl ug => ?_
    have Jg : Inv X pins σ1 H1 { s1 with heap := g } := J.landed nb fl.1 (up.trans ug) os ag
    obtain ⟨ox, vx, gx, zx, dx⟩ := fl.there
    have offF : xa ∉ frs (X.env :: X.outer) := fun hm => by
      obtain ⟨_, o2, e2, nf⟩ := fl.2.2.1.mem hm
      rw [gx] at e2
      cases e2
      exact nf _ dx
    have offL : xa ≠ X.env.locals := fun z => offF (List.mem_filterMap.mpr ⟨_, List.mem_cons_self, hf.trans (congrArg some z.symm)⟩)
    have offS : xa ∉ X.fs := fun hm => by
      obtain ⟨e2, h2, q2⟩ := List.mem_filterMap.mp hm
      exact offF (List.mem_filterMap.mpr ⟨e2, List.mem_cons_of_mem _ h2, q2⟩)
    have Sg := Jg.suite gx dx na offL offS
    have nameOk : ∀ {x : Str} {c : Value} {np : Pos} {Q E : Value → Shared → Prop}, Names X x c → Q c { s1 with heap := g } → wpAny (model X.prog X.w) (X.A.mark (some (.ref xa))) (eval (.Name x np) X.env) Q E { s1 with heap := g } := fun {x c np Q E} F q => by
      rcases F with ⟨f1, f2, f3 | ⟨f3, f4, f5⟩⟩
      · exact ld_glob (X := X.suite xa ((xa, ox) :: (X.pn ++ pins))) Sg f1 f3 q f2
      · exact ld_blt (X := X.suite xa ((xa, ox) :: (X.pn ++ pins))) Sg f1 f3 f4 q f5 f2
    have LT : PySem.W.Looks (model X.prog X.w) g (typeOf (.ref xa)) cls := fun A Q E s k q => wpAny_typeOf_ref (k _ _ gx) (zx.1 ▸ q)
    clear h
    revert pk
    generalize h0 :: hds = hl
    intro pk
    induction pk with
    | @skip x c nm b0 st s2 np hp hds o F hm r ih =>
      refine wpAny_handleBy_cons (codeAny_handlers_test (nameOk F ((PySem.W.exm_one (M := model X.prog X.w) Jg.kIn LT hm).here ?_))) (nomatch ·)
      exact ih w hsu
    | @bare x c b0 st np hp hds F hm =>
      refine wpAny_handleBy_cons (codeAny_handlers_test (nameOk F ((PySem.W.exm_one (M := model X.prog X.w) Jg.kIn LT hm).here ?_))) (nomatch ·)
      refine codeAny_handlers_suite (HandSPX.lands_againZ fl fun g2 fl2 ug2 => ?_)
      have J2 : Inv X pins σ1 H1 { s1 with heap := g2 } := J.landed nb fl2.1 ((up.trans ug).trans ug2) os ag
      obtain ⟨ox2, vx2, gx2, zx2, dx2⟩ := fl2.there
      refine wpAny_mono ((hsu xa ox2 d (X.pn ++ pins) zx2 ⟨_, dx2⟩).run [] _ _ H1 _ (J2.suite gx2 dx2 na offL offS) (w xa na)) (fun f s6 z => ?_) fun _ _ z => z.elim
      cases f with
      | next => obtain ⟨σ6, H6, S6, q6⟩ := z; exact ⟨σ6, H6, S6.unsuite k0, q6⟩
      | brk => obtain ⟨σ6, H6, S6, q6⟩ := z; exact ⟨σ6, H6, S6.unsuite k0, q6⟩
      | cont => obtain ⟨σ6, H6, S6, q6⟩ := z; exact ⟨σ6, H6, S6.unsuite k0, q6⟩
      | ret u => obtain ⟨v6, σ6, H6, S6, r6, q6⟩ := z; exact ⟨v6, σ6, H6, S6.unsuite k0, r6, q6⟩
    | @named x n c i b0 st np hp hds F hm hi hln =>
      refine wpAny_handleBy_cons (codeAny_handlers_test (nameOk F ((PySem.W.exm_one (M := model X.prog X.w) Jg.kIn LT hm).here ?_))) (nomatch ·)
      refine codeAny_handlers_suite_as (HandSPX.lands_againZ fl fun g2 fl2 ug2 => ?_)
      have J2 : Inv X pins σ1 H1 { s1 with heap := g2 } := J.landed nb fl2.1 ((up.trans ug).trans ug2) os ag
      obtain ⟨ox2, vx2, gx2, zx2, dx2⟩ := fl2.there
      refine store_ok (X := X.suite xa ((xa, ox2) :: (X.pn ++ pins))) (v := .ref xa) (J2.suite gx2 dx2 na offL offS) nd hi (.inl hln) rfl (fun s5 S5 => ?_) (.inr hln)
      refine wpAny_mono ((hsu xa ox2 d (X.pn ++ pins) zx2 ⟨_, dx2⟩).run [] s5 _ H1 _ S5 (w xa na)) (fun f s6 z => ?_) fun _ _ z => z.elim
      cases f with
      | next => obtain ⟨σ6, H6, S6, q6⟩ := z; exact gone_ok (S6.unsuite k0) nd hi hln fun s7 J7 => ⟨_, H6, J7, q6⟩
      | brk => obtain ⟨σ6, H6, S6, q6⟩ := z; exact gone_ok (S6.unsuite k0) nd hi hln fun s7 J7 => ⟨_, H6, J7, q6⟩
      | cont => obtain ⟨σ6, H6, S6, q6⟩ := z; exact gone_ok (S6.unsuite k0) nd hi hln fun s7 J7 => ⟨_, H6, J7, q6⟩
      | ret u => obtain ⟨v6, σ6, H6, S6, r6, q6⟩ := z; exact gone_ok (S6.unsuite k0) nd hi hln fun s7 J7 => ⟨v6, _, H6, J7, r6, q6⟩
  · cases f with
    | next => obtain ⟨σ1, H1, J, q⟩ := z; exact wpAny_execs_nil ⟨σ1, H1, J.ofTry k0, q⟩
    | brk => obtain ⟨σ1, H1, J, q⟩ := z; exact ⟨σ1, H1, J.ofTry k0, q⟩
    | cont => obtain ⟨σ1, H1, J, q⟩ := z; exact ⟨σ1, H1, J.ofTry k0, q⟩
    | ret u => obtain ⟨v, σ1, H1, J, r, q⟩ := z; exact ⟨v, σ1, H1, J.ofTry k0, r, q⟩
end
/-! ### .. over a state of data -/
def setO (o : Option Nat) (a : Addr) (Γ : List DV) : List DV := match o with
  | none => Γ
  | some i => Γ.set i (.r a)
def clrO (o : Option Nat) (Γ : List DV) : List DV := match o with
  | none => Γ
  | some i => Γ.set i .no
section
variable {X : Cx} {W : Wd} {Γ : List DV} {μ : Mu} {rest body : List Stmt} {D : Ends} {xr nm : Str} {fo : Option (Str × PyData)} {h0 : ExceptHandler} {hds : List ExceptHandler} {pos q1 q2 : Pos} {e0 : Expr} {y0 : PyData} {o : Option Nat}
theorem caught_now {a : Addr} {oe : Obj} {cls : Value} {d : Option Addr} {σ2 : L2.St} {H2 H' : Hp} (R2 : Rep X.K W Γ μ σ2 H2) (xo : XO X.K (hd W μ) H2 H' xr fo cls d) (hz : Zc cls d oe) (hv : ∃ vs, oe.data = .fields vs) : Caught X W (W.now μ H') Γ μ xr fo a oe cls d := by
  have R3 : Rep X.K W Γ μ σ2 H' := R2.same xo.2.1
  refine ⟨R3.now_le, hz, hv, xo.1, ?_⟩
  obtain ⟨_, _, h3⟩ := xo
  cases fo with
  | none => trivial
  | some fy =>
    obtain ⟨f, y⟩ := fy
    obtain ⟨dd, v, e1, e2, e3, e4⟩ := h3
    refine ⟨dd, v, e1, fun σ3 H3 Γ3 μ3 R6 => ?_⟩
    have pool : Same (off (hd W μ) H') (off (hd (W.now μ H') μ3) H3) := fun b o e => by
      obtain ⟨h1, h2⟩ := off_some e
      have z : (W.now μ H').H0 b = some o := by
        show off (μ.map (·.1)) H' b = some o
        rw [off_out (fun z => h1 (List.mem_append_right _ z))]
        exact h2
      rw [off_out (fun q => by
        rcases List.mem_append.mp q with q | q
        · exact h1 (List.mem_append_left _ q)
        · obtain ⟨p, hp, rfl⟩ := List.mem_map.mp q
          rw [(R6.mu p hp).1] at z
          cases z)]
      exact R6.fr.keep b o (fun q => h1 (List.mem_append_left _ (Rep.isRow_M R3.wd q))) z
    have hdd : dd ∉ hd W μ := fun q => R2.ne dd q e2
    refine ⟨(off_some (pool dd _ (by rw [off_out hdd]; exact e3))).2, e4.up pool⟩
/-- try: body (which raises xr); the clause that takes it says nm = e0 -/
theorem run_tryP (j : Nat) (pk : Pick X (.ref (He.ga X.K xr)) (h0 :: hds) o (.Assign [.Name nm q1] e0 q2) []) (ho : o ≠ some j)
    (hbody : ∀ (pn : List (Addr × Obj)) (xe : Value → Shared → Prop) (Wx : WX), Takes (X.tr pn xe) Wx → PassesOwn (model X.prog X.w) X.A X.env xe → (∀ σ H, Rep X.K W Γ μ σ H → ∀ cls d H', XO X.K (hd W μ) H H' xr fo cls d → Wx cls d σ H') → Run (X.tr pn xe) W Γ μ body DF)
    (he0 : ∀ (W1 : Wd) (a : Addr) (oe : Obj) (pn : List (Addr × Obj)) (cls : Value) (d : Option Addr), Caught X W W1 Γ μ xr fo a oe cls d → Ed (X.suite a ((a, oe) :: pn)) W1 (setO o a Γ) μ e0 y0)
    (h : Run X W ((clrO o Γ).set j (.d y0)) μ rest D) (nd : X.N.Nodup) (hj : X.N[j]? = some nm := by rfl) (hx : Loc X.env.scope nm := by first | exact Or.inl rfl | exact Or.inr rfl)
    (hsw : swapsWith e0 (some (.Name nm q1)) q2.line X.env = pure false := by rfl) (hfn : X.fn nm = true ∨ X.env.scope.names.lookup nm = some .local := by first | exact .inr rfl | exact .inl rfl)
    (hs : X.stack = X.env :: X.outer := by rfl) (hf : X.env.frame = some X.env.locals := by rfl) :
    Run X W Γ μ (.Try body (h0 :: hds) [] [] pos :: rest) D := fun σ H R => by
  refine wSs_cons ((ps_try_pick (tb := fun Wx D σ H => ∀ (pn : List (Addr × Obj)) (xe : Value → Shared → Prop), Takes (X.tr pn xe) Wx → PassesOwn (model X.prog X.w) X.A X.env xe → wSs (X.tr pn xe) body D σ H)
    (ts := fun a d D σ H => ∀ (oe : Obj) (pn : List (Addr × Obj)), Zc (.ref (He.ga X.K xr)) d oe → (∃ vs, oe.data = .fields vs) → wSs (X.suite a ((a, oe) :: pn)) [.Assign [.Name nm q1] e0 q2] D σ H)
    hs hf nd pk (fun Wx pn xe t hp => ⟨fun pins s σ H D I h => h pn xe t hp pins s I⟩) (fun a oe d pn hz hv => ⟨fun pins s σ H D I h => h oe pn hz hv pins s I⟩)).w ?_)
  intro pn xe t hp
  refine Run.mono (hbody pn xe _ t hp fun σ2 H2 R2 cls d H' xo => ⟨xo.1, fun a na oe pn2 hz hv => ?_⟩) (fun _ _ z => z.elim) (fun _ _ z => z.elim) (fun _ _ z => z.elim) (fun _ _ z => z.elim) σ H R
  obtain rfl : cls = .ref (He.ga X.K xr) := xo.1
  have R3 : Rep X.K W Γ μ σ2 H' := R2.same xo.2.1
  have R4 := R3.now
  have R5 : Rep X.K (W.now μ H') (setO o a Γ) μ (slotE o (some (.ref a)) σ2) H' := by
    cases o with
    | none => exact R4
    | some i => exact ⟨R4.wd, R4.fr, R4.sl.setr i, R4.mu, R4.nd⟩
  have cg := caught_now (a := a) R2 xo hz hv
  refine run_set (X := X.suite a ((a, oe) :: pn2)) j (he0 _ a oe pn2 _ d cg) (run_nil fun σ3 H3 R6 => ?_) nd hj hx hsw hfn _ _ R5
  have R7 : Rep X.K W ((setO o a Γ).set j (.d y0)) μ σ3 H3 := R6.wdown R3.now_le R3.wd
  refine h _ _ ?_
  cases o with
  | none => exact R7
  | some i =>
    have hij : i ≠ j := fun e => ho (congrArg some e)
    have z := slots_no R7.sl i
    have e : ((Γ.set i (.r a)).set j (.d y0)).set i .no = (Γ.set i .no).set j (.d y0) := by
      rw [List.set_comm _ _ (Ne.symm hij), List.set_set]
    have z' : Slots X.K (off (hd W μ) H3) (σ3.set i none) ((Γ.set i .no).set j (.d y0)) := e ▸ z
    exact ⟨R7.wd, R7.fr, z', R7.mu, R7.nd⟩
end
/-! ### f(..), f any expression that gives a def -/
section
variable {X : Cx} {W : Wd} {Γ : List DV} {μ : Mu} {fe e : Expr} {es : List Expr} {ds : List PyData} {d : PyData} {x : Str} {ps : List Str} {k : Nat} {f : Addr} {fd : FuncData} {pos : Pos} {CX : CXT} {sp : Sp} {E : L2.St → XK} {t : TA} {tf : TE}
theorem pe_callF (F : FnOk X.prog X.w X.K X.mg X.base CX k f fd ps sp) (hr : Room k X.A) (hk : PySem.W.keepIn X.K (.ref f) = true) (hb : Binds X.K fd ps []) (hx : ∀ σ, PassesAt CX X σ (E σ)) (hf : PE X fe tf) (ha : PA X (e :: es) t)
    (ht : eval (.Call fe (e :: es) [] pos) X.env = (do callWith pos (← eval fe X.env) [] (backTo pos (starEach (e :: es) X.env)) (backToKw pos (keywordEach [] X.env))))
    (he : starEach (e :: es) X.env = (false, eval e X.env) :: starEach es X.env) (hpl : (backTo pos (starEach es X.env)).any (·.1) = false) :
    PE X (.Call fe (e :: es) [] pos) (fun σ H Q => tf σ H fun y H1 => y = .ref f ∧ t σ H1 fun vs H2 => sp vs H2 Q (E σ)) := by
  refine ⟨fun pins s σ H Q I h => Call_ (thn (hf.run pins s σ H _ I h) fun u s1 ⟨y, H1, I1, ry, ey, q⟩ => ?_) ht⟩
  subst ey
  obtain rfl : u = Value.ref f := ry
  exact PySem.W.callWith_K (h₀ := X.base) I1.ok.mod.kin hk (thn (ha.run pos pins s1 σ H1 _ I1 q) fun us s2 ⟨vs, H2, I2, r, q2⟩ => ⟨I2.kIn, run_fnS F hr hb (hx σ) I2 r q2⟩) he hpl
/-- a def by its name, as a thing -/
theorem ed_fname {p : Pos} (hm : X.mg x = some (.ref f)) (hg : Gl X x := by rfl) (hdb : (x == ("__debug__" : Str)) = false := by decide) : Ed X W Γ μ (.Name x p) (ptD f) :=
  ed_c (pe_glob hg hm (v := .ref f) rfl hdb) fun _ => .ptr f
end
section
variable {X : Cx} {W : Wd} {Γ : List DV} {μ : Mu} {fe e : Expr} {es : List Expr} {ds : List PyData} {d : PyData} {x y : Str} {fo : Option (Str × PyData)} {ps : List Str} {k : Nat} {f : Addr} {pos : Pos} {W0 : WX}
theorem ed_callFX {R : List PyData → Str → Option (Str × PyData) → Prop} (F : FdX X.prog X.w X.K X.mg X.base k x ps R) (hm : X.mg x = some (.ref f)) (hr : Room k X.A) (tk : Takes X W0) (hf : Ed X W Γ μ fe (ptD f)) (ha : EdA X W Γ μ (e :: es) ds) (hR : R ds y fo)
    (h : ∀ σ H, Rep X.K W Γ μ σ H → ∀ cls d H', XO X.K (hd W μ) H H' y fo cls d → W0 cls d σ H') (ht : eval (.Call fe (e :: es) [] pos) X.env = (do callWith pos (← eval fe X.env) [] (backTo pos (starEach (e :: es) X.env)) (backToKw pos (keywordEach [] X.env))) := by rfl)
    (he : starEach (e :: es) X.env = (false, eval e X.env) :: starEach es X.env := by rfl) (hpl : (backTo pos (starEach es X.env)).any (·.1) = false := by rfl) : EdX X W Γ μ (.Call fe (e :: es) [] pos) := fun σ H Rp Q => by
  obtain ⟨fa, fd, h1, h2, h3, h4⟩ := F.ex
  rw [hm] at h2
  cases h2
  refine (pe_callF (E := WE W0) h1 hr h3 h4 (fun σ => passAt tk σ) wE.pe wA.pa ht he hpl).w (hf σ H Rp _ fun v H1 R1 e1 r1 => ?_)
  cases r1
  exact ⟨rfl, ha σ H1 R1 _ fun vs H2 R2 e2 r2 => ⟨HW.hd W μ, ds, y, fo, R2.ne, r2, hR, fun cls d H' hx => h σ H2 R2 cls d H' hx⟩⟩
theorem FdX.at {P : Program} {w : World} {K : PySem.W.Frag} {mg : Str → Option Value} {base : Heap} {R : List PyData → Str → Option (Str × PyData) → Prop} (F : FdX P w K mg base k x ps R) : ∃ f, mg x = some (.ref f) := by
  obtain ⟨f, _, _, h, _⟩ := F.ex
  exact ⟨f, h⟩
theorem Fd.at {P : Program} {w : World} {K : PySem.W.Frag} {mg : Str → Option Value} {base : Heap} {sp : Sp} (F : Fd P w K mg base k x ps sp) : ∃ f, mg x = some (.ref f) := by
  obtain ⟨f, _, _, h, _⟩ := F.ex
  exact ⟨f, h⟩
end
end HW
set_option maxHeartbeats 4000000
namespace HW
open PySem PySem.Spec PyProof.Rows L2
open SX (S)
/-! ### values of any kind that are refused -/
/-- no text -/
def oddS (v : PyData) : Prop := v = .none ∨ (∃ b, v = .bool b) ∨ (∃ i, v = .int i) ∨ (∃ xs, v = .list xs) ∨ (∃ xs, v = .tuple xs) ∨ v = .dict []
/-- no integer -/
def oddA (v : PyData) : Prop := v = .none ∨ (∃ b, v = .bool b) ∨ (∃ l, v = .str l) ∨ (∃ xs, v = .list xs) ∨ (∃ xs, v = .tuple xs) ∨ v = .dict []
def noMask (v : PyData) : Prop := oddS v ∨ ∃ l : List Nat, v = sD l ∧ l.length ≤ 4000 ∧ maskB l = false
def noRow (v : PyData) : Prop := oddS v ∨ ∃ l : List Nat, v = sD l ∧ l.length ≤ 4000 ∧ rowB l = false
def noLook (m : List Nat) (v : PyData) : Prop := oddS v ∨ ∃ t : List Nat, v = sD t ∧ t.length ≤ 4000 ∧ lookB m t = false
def noNum (a b : Int) (v : PyData) : Prop := oddA v ∨ ∃ i, v = .int i ∧ ¬ (a ≤ i ∧ i ≤ b)
section
variable {X : Cx} {W : Wd} {Γ : List DV} {μ : Mu} {e : Expr} {d : PyData} {pos p p2 : Pos}
/-- isinstance(e, str) of what is no text -/
theorem ed_isiS (ho : oddS d) (he : Ed X W Γ μ e d) (hm : X.mg "isinstance" = none) (hmT : X.mg "str" = none) (hg : Gl X "isinstance" := by rfl) (hgT : Gl X "str" := by rfl)
    (hs : starEach [e, .Name "str" p2] X.env = (false, eval e X.env) :: starEach [.Name "str" p2] X.env := by rfl) (hs2 : starEach [.Name "str" p2] X.env = (false, eval (.Name "str" p2) X.env) :: starEach [] X.env := by rfl) (hpl : (backTo pos (starEach [.Name "str" p2] X.env)).any (·.1) = false := by rfl) :
    Ed X W Γ μ (.Call (.Name "isinstance" p) [e, .Name "str" p2] [] pos) (.bool false) := by
  rcases ho with rfl | ⟨_, rfl⟩ | ⟨_, rfl⟩ | ⟨_, rfl⟩ | ⟨_, rfl⟩ | rfl <;> exact ed_isi (T := "str") he hm hmT (by decide +kernel) (fun K => rfl) rfl hg hgT (by decide) (by decide) hs hs2 hpl
end
def R_is_mask_o (ds : List PyData) (d : PyData) : Prop := ∃ v : PyData, ds = [v] ∧ oddS v ∧ d = .bool false
def R_is_view_o (ds : List PyData) (d : PyData) : Prop := ∃ m v : PyData, ds = [m, v] ∧ oddS v ∧ d = .bool false
def R_is_from_a (ds : List PyData) (d : PyData) : Prop := ∃ (v : PyData) (a b : Int), ds = [v, .int a, .int b] ∧ noNum a b v ∧ d = .bool false
/-! what is raised: x behind the argument -/
def X_mask (ds : List PyData) (x : Str) (fo : Option (Str × PyData)) : Prop := ∃ v : PyData, ds = [v] ∧ noMask v ∧ x = "BadMask" ∧ fo = none
def X_row (ds : List PyData) (x : Str) (fo : Option (Str × PyData)) : Prop := ∃ v : PyData, ds = [v] ∧ noRow v ∧ x = "BadRow" ∧ fo = none
def X_letters (ds : List PyData) (x : Str) (fo : Option (Str × PyData)) : Prop := ∃ v : PyData, ds = [v] ∧ noNum 1 4 v ∧ x = "BadLetters" ∧ fo = none
/-- letters, then the row -/
def X_row_in (ds : List PyData) (x : Str) (fo : Option (Str × PyData)) : Prop := ∃ r v : PyData, ds = [r, v] ∧ fo = none ∧ ((noNum 1 4 v ∧ x = "BadLetters") ∨ ∃ n : Nat, v = nn n ∧ 1 ≤ n ∧ n ≤ 4 ∧ x = "BadRow" ∧ (noRow r ∨ ∃ l : List Nat, r = sD l ∧ rowB l = true ∧ ¬ lowL n l))
/-- what is too great -/
def greatB (m : List Nat) (n : Nat) : Bool := decide ([12, 8, 5, 4].getD (n - 1) 0 < m.length) || decide ([12, 4, 2, 1].getD (n - 1) 0 < (seenL m).length)
def X_small (ds : List PyData) (x : Str) (fo : Option (Str × PyData)) : Prop := ∃ v w : PyData, ds = [v, w] ∧ fo = none ∧ ((noMask v ∧ x = "BadMask") ∨ ∃ m : List Nat, v = sD m ∧ maskB m = true ∧ ((noNum 1 4 w ∧ x = "BadLetters") ∨ ∃ n : Nat, w = nn n ∧ 1 ≤ n ∧ n ≤ 4 ∧ greatB m n = true ∧ x = "TooGreat"))
end HW
set_option maxHeartbeats 4000000
namespace HW
open PySem PySem.Spec PyProof.Rows L2
open SX (S)
/-! ### what the defs raise, one error after the other (printed by genchain.py) -/
/-- no list, no tuple -/
def oddQ (v : PyData) : Prop := v = .none ∨ (∃ b, v = .bool b) ∨ (∃ i, v = .int i) ∨ (∃ l, v = .str l) ∨ v = .dict []
def noSeq (most : Nat) (v : PyData) : Prop := oddQ v ∨ ∃ (t : Bool) (xs : List PyData), v = seqD t xs ∧ ¬ (1 ≤ xs.length ∧ xs.length ≤ most)
/-- the first of some things that is no look -/
def firstOdd (m : List Nat) (xs : List PyData) (i : Nat) : Prop := (∃ z, xs[i]? = some z ∧ noLook m z) ∧ ∀ j, j < i → ∃ u : List Nat, xs[j]? = some (sD u) ∧ lookB m u = true
def X_need_views (ds : List PyData) (x : Str) (fo : Option (Str × PyData)) : Prop := ∃ (m : List Nat) (v : PyData) (most : Nat), ds = [sD m, v, nn most] ∧ maskB m = true ∧ most ≤ 4000 ∧ x = "BadViews" ∧
  ((noSeq most v ∧ fo = some (("index" : Str), .none)) ∨ ∃ (t : Bool) (xs : List PyData) (i : Nat), v = seqD t xs ∧ 1 ≤ xs.length ∧ xs.length ≤ most ∧ firstOdd m xs i ∧ fo = some (("index" : Str), nn i))
def X_need_ring (ds : List PyData) (x : Str) (fo : Option (Str × PyData)) : Prop := ∃ v : PyData, ds = [v] ∧ (noRow v ∨ v = sD []) ∧ x = "BadRow" ∧ fo = none
def X_seen (ds : List PyData) (x : Str) (fo : Option (Str × PyData)) : Prop := ∃ a0 : PyData, ds = [a0] ∧ (X_mask [a0] x fo)
def X_views (ds : List PyData) (x : Str) (fo : Option (Str × PyData)) : Prop := ∃ a0 a1 : PyData, ds = [a0, a1] ∧ (X_row [a0] x fo ∨ (R_need_row [a0] .none ∧ (X_mask [a1] x fo)))
def X_alike (ds : List PyData) (x : Str) (fo : Option (Str × PyData)) : Prop := ∃ a0 a1 : PyData, ds = [a0, a1] ∧ (X_row [a0] x fo ∨ (R_need_row [a0] .none ∧ (X_mask [a1] x fo)))
def X_groups (ds : List PyData) (x : Str) (fo : Option (Str × PyData)) : Prop := ∃ a0 a1 : PyData, ds = [a0, a1] ∧ (X_row [a0] x fo ∨ (R_need_row [a0] .none ∧ (X_mask [a1] x fo)))
def X_distance (ds : List PyData) (x : Str) (fo : Option (Str × PyData)) : Prop := ∃ a0 a1 : PyData, ds = [a0, a1] ∧ (X_row [a0] x fo ∨ (R_need_row [a0] .none ∧ (X_mask [a1] x fo)))
def X_tells (ds : List PyData) (x : Str) (fo : Option (Str × PyData)) : Prop := ∃ a0 a1 : PyData, ds = [a0, a1] ∧ (X_row [a0] x fo ∨ (R_need_row [a0] .none ∧ (X_mask [a1] x fo)))
def X_steps_needed (ds : List PyData) (x : Str) (fo : Option (Str × PyData)) : Prop := ∃ a0 a1 : PyData, ds = [a0, a1] ∧ (X_row [a0] x fo ∨ (R_need_row [a0] .none ∧ (X_mask [a1] x fo)))
def X_stands (ds : List PyData) (x : Str) (fo : Option (Str × PyData)) : Prop := ∃ a0 a1 a2 a3 : PyData, ds = [a0, a1, a2, a3] ∧ (X_row [a0] x fo ∨ (R_need_row [a0] .none ∧ (X_mask [a1] x fo ∨ (R_need_mask [a1] .none ∧ ((noNum 0 12 a2 ∧ x = "BadNumber" ∧ fo = some (("n" : Str), a2)) ∨ ((∃ i : Int, a2 = .int i ∧ 0 ≤ i ∧ i ≤ 12) ∧ ((noNum 0 12 a3 ∧ x = "BadNumber" ∧ fo = some (("n" : Str), a3)))))))))
def X_find (ds : List PyData) (x : Str) (fo : Option (Str × PyData)) : Prop := ∃ a0 a1 a2 : PyData, ds = [a0, a1, a2] ∧ (X_row [a0] x fo ∨ (R_need_row [a0] .none ∧ (X_mask [a1] x fo ∨ (R_need_mask [a1] .none ∧ ((∃ m : List Nat, a1 = sD m ∧ maskB m = true ∧ noLook m a2 ∧ x = "BadView" ∧ fo = none))))))
def X_near (ds : List PyData) (x : Str) (fo : Option (Str × PyData)) : Prop := ∃ a0 a1 a2 a3 : PyData, ds = [a0, a1, a2, a3] ∧ (X_row [a0] x fo ∨ (R_need_row [a0] .none ∧ (X_mask [a1] x fo ∨ (R_need_mask [a1] .none ∧ ((∃ m : List Nat, a1 = sD m ∧ maskB m = true ∧ noLook m a2 ∧ x = "BadView" ∧ fo = none) ∨ ((∃ m t : List Nat, a1 = sD m ∧ a2 = sD t ∧ maskB m = true ∧ lookB m t = true) ∧ ((noNum 0 12 a3 ∧ x = "BadNumber" ∧ fo = some (("n" : Str), a3)))))))))
def X_longest (ds : List PyData) (x : Str) (fo : Option (Str × PyData)) : Prop := ∃ a0 a1 : PyData, ds = [a0, a1] ∧ (X_small [a0, a1] x fo)
def X_longest_rows (ds : List PyData) (x : Str) (fo : Option (Str × PyData)) : Prop := ∃ a0 a1 : PyData, ds = [a0, a1] ∧ (X_small [a0, a1] x fo)
def X_full_rings (ds : List PyData) (x : Str) (fo : Option (Str × PyData)) : Prop := ∃ a0 a1 : PyData, ds = [a0, a1] ∧ (X_small [a0, a1] x fo)
def X_longest_ring (ds : List PyData) (x : Str) (fo : Option (Str × PyData)) : Prop := ∃ a0 a1 : PyData, ds = [a0, a1] ∧ (X_small [a0, a1] x fo)
def X_count_rows (ds : List PyData) (x : Str) (fo : Option (Str × PyData)) : Prop := ∃ a0 a1 a2 : PyData, ds = [a0, a1, a2] ∧ (X_small [a0, a1] x fo ∨ (R_need_small [a0, a1] .none ∧ ((noNum 0 60 a2 ∧ x = "BadNumber" ∧ fo = some (("n" : Str), a2)))))
def X_next_letters (ds : List PyData) (x : Str) (fo : Option (Str × PyData)) : Prop := ∃ a0 a1 a2 : PyData, ds = [a0, a1, a2] ∧ (X_mask [a1] x fo ∨ (R_need_mask [a1] .none ∧ (X_row_in [a0, a2] x fo)))
def X_weak_letters (ds : List PyData) (x : Str) (fo : Option (Str × PyData)) : Prop := ∃ a0 a1 a2 : PyData, ds = [a0, a1, a2] ∧ (X_mask [a1] x fo ∨ (R_need_mask [a1] .none ∧ (X_row_in [a0, a2] x fo)))
def X_mend (ds : List PyData) (x : Str) (fo : Option (Str × PyData)) : Prop := ∃ a0 a1 a2 : PyData, ds = [a0, a1, a2] ∧ (X_mask [a1] x fo ∨ (R_need_mask [a1] .none ∧ (X_row_in [a0, a2] x fo)))
def X_farthest (ds : List PyData) (x : Str) (fo : Option (Str × PyData)) : Prop := ∃ a0 a1 a2 : PyData, ds = [a0, a1, a2] ∧ (X_small [a1, a2] x fo ∨ (R_need_small [a1, a2] .none ∧ (X_row_in [a0, a2] x fo)))
def X_ring_views (ds : List PyData) (x : Str) (fo : Option (Str × PyData)) : Prop := ∃ a0 a1 : PyData, ds = [a0, a1] ∧ (X_need_ring [a0] x fo ∨ (R_need_ring [a0] .none ∧ (X_mask [a1] x fo)))
def X_ring_tells (ds : List PyData) (x : Str) (fo : Option (Str × PyData)) : Prop := ∃ a0 a1 : PyData, ds = [a0, a1] ∧ (X_need_ring [a0] x fo ∨ (R_need_ring [a0] .none ∧ (X_mask [a1] x fo)))
def X_write (ds : List PyData) (x : Str) (fo : Option (Str × PyData)) : Prop := ∃ a0 a1 : PyData, ds = [a0, a1] ∧ (X_mask [a0] x fo ∨ (R_need_mask [a0] .none ∧ (X_row [a1] x fo)))
def X_least_masks (ds : List PyData) (x : Str) (fo : Option (Str × PyData)) : Prop := ∃ a0 a1 : PyData, ds = [a0, a1] ∧ (X_row [a0] x fo ∨ (R_need_row [a0] .none ∧ ((noNum 1 9 a1 ∧ x = "BadNumber" ∧ fo = some (("n" : Str), a1)))))
def X_joined (ds : List PyData) (x : Str) (fo : Option (Str × PyData)) : Prop := ∃ a0 a1 : PyData, ds = [a0, a1] ∧ (X_mask [a0] x fo ∨ (R_need_mask [a0] .none ∧ (X_need_views [a0, a1, nn 60] x fo)))
def X_first_clash (ds : List PyData) (x : Str) (fo : Option (Str × PyData)) : Prop := ∃ a0 a1 : PyData, ds = [a0, a1] ∧ (X_mask [a0] x fo ∨ (R_need_mask [a0] .none ∧ (X_need_views [a0, a1, nn 60] x fo)))
def X_rows_from (ds : List PyData) (x : Str) (fo : Option (Str × PyData)) : Prop := ∃ a0 a1 : PyData, ds = [a0, a1] ∧ (X_mask [a0] x fo ∨ (R_need_mask [a0] .none ∧ (X_need_views [a0, a1, nn 60] x fo ∨ (R_need_views [a0, a1, nn 60] .none ∧ ((∃ (t : Bool) (xs : List PyData), a1 = seqD t xs ∧ 7 < xs.length ∧ x = "TooMany" ∧ fo = some (("most" : Str), nn 7)))))))
def X_sure_from (ds : List PyData) (x : Str) (fo : Option (Str × PyData)) : Prop := ∃ a0 a1 : PyData, ds = [a0, a1] ∧ (X_mask [a0] x fo ∨ (R_need_mask [a0] .none ∧ (X_need_views [a0, a1, nn 60] x fo ∨ (R_need_views [a0, a1, nn 60] .none ∧ ((∃ (t : Bool) (xs : List PyData), a1 = seqD t xs ∧ 7 < xs.length ∧ x = "TooMany" ∧ fo = some (("most" : Str), nn 7)))))))
end HW
set_option maxHeartbeats 4000000
namespace HW
open PySem PySem.Spec PyProof.Rows L2
open SX (S)
/-! ### text * number, none too -/
theorem o_mulZ {X : Cx} {l : List Nat} {n : Nat} (h : l.length * n ≤ 16777216) (h2 : n ≤ 1000000000) : OpD X (binaryOp .Mult) (.str (S l)) (nn n) (.str (S (List.replicate n l).flatten)) := by
  rcases Nat.eq_zero_or_pos n with h0 | h1
  · subst h0
    intro pins s σ H x y v u Q I rx ry q
    obtain ⟨L, _, ha, hb, k⟩ := q
    cases ha; cases hb
    obtain ⟨t, rfl⟩ := rx
    obtain ⟨t', rfl⟩ := ry
    exact P.mul_str_none (by decide) (by decide) ⟨.str _, H, I.tok _, ⟨_, rfl⟩, k _ _ (Same.refl _) (.str _)⟩
  · exact o_mulS h h1 h2
theorem rep_one (c q : Nat) : (List.replicate q [c]).flatten = List.replicate q c := by
  induction q with
  | zero => rfl
  | succ q ih => rw [List.replicate_succ, List.flatten_cons, ih]; rfl
/-! ### law 10 -/
end HW
set_option maxHeartbeats 4000000
namespace HW
open PySem PySem.Spec PyProof.Rows L2
open SX (S)
/-! ### how far a row can be made longer -/
/-! ### slices whose bound is drawn -/
def rAnyS (X : Cx) : V → Option Int → Option Int → Hp → VK → Prop := fun v l u H Q => ∃ d z, SlD X d l u z ∧ rDs X.K d l u z v l u H Q
theorem rAnyS.ok {X : Cx} : L2.SlR X (rAnyS X) := fun pins s σ H x v vl vu lo hi sl Q I rx hs pl pu ⟨d, z, h, q⟩ => h pins s σ H x v vl vu lo hi sl Q I rx hs pl pu q
section
variable {X : Cx} {W : Wd} {Γ : List DV} {μ : Mu} {a lo hi : Expr} {p2 pos : Pos} {A C : PyData → Prop} {U L : Int → Prop}
end
end HW
set_option maxHeartbeats 4000000
namespace HW
open PySem PySem.Spec PyProof.Rows L2
open SX (S)
/-! ### tuple * number: none and one, too -/
/-! ### {} as data -/
theorem ed_dict0 {X : Cx} {W : Wd} {Γ : List DV} {μ : Mu} {pos : Pos} : Ed X W Γ μ (.Dict [] [] pos) (.dict []) := fun σ H R Q q =>
  pe_dnewK.w fun l hl => q _ _ (R.same (same_new hl)) (XT.same (same_new hl)) (.dct (off_upd (new_out R.ne hl)))
/-! ### places found -/
/-! ### law 5 -/
/-! ### what is no list, no tuple -/
theorem run_ok {X : Cx} {W : Wd} {Γ : List DV} {μ : Mu} {sts : List Stmt} {D : Ends} (h : WdOk X.K W → Run X W Γ μ sts D) : Run X W Γ μ sts D := fun σ H R => h R.wd σ H R
section
variable {X : Cx} {W : Wd} {Γ : List DV} {μ : Mu} {e : Expr} {d : PyData} {pos p q1 q2 pt : Pos} {kt : Nat}
theorem ed_isQ (ho : oddQ d) (he : Ed X W Γ μ e d) (hm : X.mg "isinstance" = none) (hm1 : X.mg "list" = none) (hm2 : X.mg "tuple" = none) (hg : Gl X "isinstance" := by rfl) (hg1 : Gl X "list" := by rfl) (hg2 : Gl X "tuple" := by rfl)
    (hs : starEach [e, .Tuple [.Name "list" q1, .Name "tuple" q2] kt pt] X.env = (false, eval e X.env) :: starEach [.Tuple [.Name "list" q1, .Name "tuple" q2] kt pt] X.env := by rfl) (hs2 : starEach [.Tuple [.Name "list" q1, .Name "tuple" q2] kt pt] X.env = (false, eval (.Tuple [.Name "list" q1, .Name "tuple" q2] kt pt) X.env) :: starEach [] X.env := by rfl) (hpl : (backTo pos (starEach [.Tuple [.Name "list" q1, .Name "tuple" q2] kt pt] X.env)).any (·.1) = false := by rfl)
    (hs3 : starEach [.Name "list" q1, .Name "tuple" q2] X.env = (false, eval (.Name "list" q1) X.env) :: starEach [.Name "tuple" q2] X.env := by rfl) (hs4 : starEach [.Name "tuple" q2] X.env = (false, eval (.Name "tuple" q2) X.env) :: starEach [] X.env := by rfl) :
    Ed X W Γ μ (.Call (.Name "isinstance" p) [e, .Tuple [.Name "list" q1, .Name "tuple" q2] kt pt] [] pos) (.bool false) := by
  rcases ho with rfl | ⟨_, rfl⟩ | ⟨_, rfl⟩ | ⟨_, rfl⟩ | rfl <;> exact ed_isi2 he hm hm1 boot_list hm2 boot_tuple (by intro K; rfl) rfl hg hg1 hg2 (by decide) (by decide) (by decide) (by decide) hs hs2 hpl hs3 hs4
end
/-! ### law 18 -/
abbrev wMany : PyData := sD [109, 97, 110, 121]
end HW
set_option maxHeartbeats 4000000
namespace HW
open PySem PySem.Spec PyProof.Rows L2
open SX (S)
open PySem.W (dataLt AlikeAll AllAlike Sortable EachIs dataLe alike)
/-! ### sorted(set(..)) over any keys -/
section
variable {prog : Program} {w : World} {A : Around} {E : Value → Shared → Prop} {s : Shared} {K : Type} [DecidableEq K] {knd : KeyKind prog w K}
end
section
variable {X : Cx} {W : Wd} {Γ : List DV} {μ : Mu} {a : Expr} {p p2 q pos : Pos} {ws zs : List Nat}
end
/-! ### masks laid together -/
/-! ### law 2 -/
def post_oddM (ds : List PyData) (d : PyData) : Prop := ds = [] ∧ noMask d
end HW
set_option maxHeartbeats 4000000
namespace HW
open PySem PySem.Spec PyProof.Rows L2
open SX (S)
open PySem.W (dataLt AlikeAll AllAlike Sortable EachIs dataLe alike)
/-! ### a local dict becomes data: locked -/
section
variable {X : Cx} {W : Wd} {Γ : List DV} {μ : Mu} {sts : List Stmt} {D : Ends} {l : Addr}
end
section
variable {X : Cx} {W : Wd} {Γ : List DV} {μ : Mu} {tg e : Expr} {apos cpos : Pos} {kvs : List (Key × PyData)}
end
/-! ### d.get(k, other) of a local dict -/
section
variable {X : Cx} {W : Wd} {Γ : List DV} {μ : Mu} {e f : Expr} {pos p apos : Pos} {n : Str} {l : Addr} {kvs : List (Key × PyData)} {k : Key} {d : PyData}
end
/-! ### list.index with a start -/
section
variable {X : Cx} {W : Wd} {Γ : List DV} {μ : Mu} {o e f : Expr} {apos pos : Pos} {ws : List (List Nat)} {w : List Nat} {j st : Nat}
end
/-! ### like views -/
section
variable (ws : List (List Nat))
/-! the first like ones -/
end
end HW
set_option maxHeartbeats 4000000
namespace HW
open PySem PySem.Spec PyProof.Rows L2
section
variable {ws : List (List Nat)} {z : List Nat} {i : Nat}
end
end HW
set_option maxHeartbeats 4000000
namespace HW
open PySem PySem.Spec PyProof.Rows L2
open SX (S)
/-! ### what raises within an expression -/
section
variable {X : Cx} {W : Wd} {Γ : List DV} {μ : Mu} {e a b : Expr} {es : List Expr} {rest : List Stmt} {D : Ends} {p pos : Pos}
end
/-! ### n1, n2, n3 = a, b, c -/
section
variable {X : Cx} {W : Wd} {Γ : List DV} {μ : Mu} {a b c : Expr} {rest : List Stmt} {D : Ends} {n1 n2 n3 : Str} {p1 p2 p3 pos : Pos}
end
/-! ### patterns, looks, steps -/
/-! ### the calls of law 33 -/
def post_oddR (ds : List PyData) (d : PyData) : Prop := ds = [] ∧ noRow d
end HW
set_option maxHeartbeats 4000000
namespace HW
open PySem PySem.Spec PyProof.Rows L2
open SX (S)
/-! ### sets of tuples, whatever kind of key the items are (fewer than 64 of them) -/
section
variable {pr : Program} {wo : World} {κ : Type} [DecidableEq κ] {kd : PySem.KeyKind pr wo κ} {A : Around} {Er : Value → Shared → Prop} {st : Shared}
abbrev hT (kd : PySem.KeyKind pr wo κ) (ks : List κ) : Int := tupleKeyHash kd ks
/-! ### the set -/
def entL (kd : PySem.KeyKind pr wo κ) (L : List (Addr × List κ)) : List (Int × Value) := L.map fun p => (hT kd p.2, Value.ref p.1)
abbrev hsL (kd : PySem.KeyKind pr wo κ) (L : List (Addr × List κ)) : List Int := L.map fun p => hT kd p.2
structure TSet (kd : PySem.KeyKind pr wo κ) (h : Heap) (a : Addr) (L : List (Addr × List κ)) (es : Array (Int × Value)) (ep : Nat) (t : SetTable) : Prop where
  obj : ∃ o, h.get? a = some o ∧ o.ExactSet ∧ o.data = .set es ep t
  ents : es.toList = entL kd L
  tab : TabOk t (hsL kd L)
  uniq : (L.map (·.2)).Nodup
  keys : ∀ p ∈ L, IsTupleKey kd h p.2 p.1
  room : L.length * 5 < t.mask * 3
  few : L.length < 64
variable {a : Addr} {L : List (Addr × List κ)} {es : Array (Int × Value)} {ep : Nat} {t : SetTable}
theorem ent_len {es : Array (Int × Value)} {L : List (Addr × List κ)} (h : es.toList = entL kd L) : es.size = L.length := by
  have z := congrArg List.length h
  rw [Array.length_toList, entL, List.length_map] at z
  exact z
theorem fits_of {es : Array (Int × Value)} {t : SetTable} (h1 : t.place.size = es.size) (h2 : t.dummies = #[]) (h3 : es.size ≤ t.mask) : t.fits es.size = true := by
  rw [SetTable.fits, SetTable.fill, h2, Bool.and_eq_true, beq_iff_eq, decide_eq_true_eq]
  exact ⟨h1, by show t.place.size + 0 ≤ t.mask; omega⟩
theorem TSet.size (R : TSet kd st.heap a L es ep t) : es.size = L.length := ent_len R.ents
theorem TSet.plen (R : TSet kd st.heap a L es ep t) : t.place.size = L.length := by rw [R.tab.sz, List.length_map]
theorem TSet.fits (R : TSet kd st.heap a L es ep t) : t.fits es.size = true := by
  have h1 := R.plen
  have h2 := R.size
  have h3 := R.room
  exact fits_of (by omega) R.tab.dm (by omega)
end
section
variable {pr : Program} {wo : World} {κ : Type} [DecidableEq κ] {kd : PySem.KeyKind pr wo κ} {A : Around} {Er : Value → Shared → Prop} {st : Shared} {a : Addr} {L : List (Addr × List κ)} {es : Array (Int × Value)} {ep : Nat} {t : SetTable}
end
section
variable {pr : Program} {wo : World} {κ : Type} [DecidableEq κ] {kd : PySem.KeyKind pr wo κ} {A : Around} {Er : Value → Shared → Prop} {st : Shared}
theorem TSet.kept {h h' : Heap} {a : Addr} {L : List (Addr × List κ)} {es : Array (Int × Value)} {ep : Nat} {t : SetTable} (R : TSet kd h a L es ep t) (ha : ∀ o, h.get? a = some o → h'.get? a = some o) (hk : ∀ p ∈ L, IsTupleKey kd h' p.2 p.1) : TSet kd h' a L es ep t := by
  obtain ⟨o, ho, r⟩ := R.obj
  exact ⟨⟨o, ha o ho, r⟩, R.ents, R.tab, R.uniq, hk, R.room, R.few⟩
/-- the set holds the first i keys -/
def Holds (kd : PySem.KeyKind pr wo κ) (h : Heap) (S : Addr) (ks : List (Addr × List κ)) (i : Nat) : Prop := ∃ L es ep t, TSet kd h S L es ep t ∧ (∀ p ∈ L, p ∈ ks) ∧ L.length ≤ i ∧ ∀ k, k ∈ L.map (·.2) ↔ k ∈ (ks.take i).map (·.2)
end
/-! ### len(set(xs)), xs a list of fewer than 64 tuples of texts -/
section
variable {X : Cx} {W : Wd} {Γ : List DV} {μ : Mu} {a : Expr} {p p2 q pos : Pos} {ts : List (List (List Nat))}
end
end HW
set_option maxHeartbeats 4000000
namespace HW
open PySem PySem.Spec PyProof.Rows L2
open SX (S)
/-! ### words, split by spaces -/
section
variable {X : Cx} {W : Wd} {Γ : List DV} {μ : Mu} {o e : Expr} {apos pos : Pos} {ws : List (List Nat)}
end
section
variable {X : Cx} {i : Nat} {xs : List Nat}
end
/-! ### law 23's words -/
end HW
set_option maxHeartbeats 4000000
namespace HW
open PySem PySem.Spec PyProof.Rows L2
open SX (S)
/-! ### so many views, one behind the other -/
end HW
set_option maxHeartbeats 4000000
namespace HW
open PySem PySem.Spec PyProof.Rows L2
open SX (S)
/-! ### local lists that begin with an item; the last item of a local list -/
section
variable {X : Cx} {W W0 : Wd} {Γ : List DV} {μ : Mu} {e value i' : Expr} {rest : List Stmt} {D : Ends} {pos p p1 p2 pos' : Pos} {n : Str} {l : Addr} {d y : PyData} {ds ys : List PyData} {z : Int}
end
section
variable {X : Cx} {W : Wd} {Γ : List DV} {μ : Mu} {iter tg : Expr} {α : Type} {enc : α → PyData} {xs : List α}
end
/-! ### moves -/
end HW
set_option maxHeartbeats 4000000
namespace HW
open PySem PySem.Spec PyProof.Rows L2
open SX (S)
/-! ### three names at once; a dict displayed and asked at once -/
section
variable {X : Cx} {W W0 : Wd} {Γ : List DV} {μ : Mu} {a b c e f v1 v2 : Expr} {rest : List Stmt} {D : Ends} {pos p p1 p2 p3 apos : Pos} {n1 n2 n3 : Str} {x y z d x1 x2 : PyData}
end
end HW
set_option maxHeartbeats 4000000
namespace HW
open PySem PySem.Spec PyProof.Rows L2
open SX (S)
end HW
set_option maxHeartbeats 4000000
namespace HW
open PySem PySem.Spec PyProof.Rows L2
open SX (S)
/-! ### how many rows there are: counted by numbers -/
end HW
set_option maxHeartbeats 4000000
namespace HW
open PySem PySem.Spec PyProof.Rows L2
open SX (S)
end HW
set_option maxHeartbeats 4000000
namespace HW
open PySem PySem.Spec PyProof.Rows L2
open SX (S)
/-! ### expressions that change or make local objects -/
def EvM (X : Cx) (W : Wd) (Γ : List DV) (μ : Mu) (e : Expr) (P : PyData → Mu → Prop) : Prop := ∀ σ H, Rep X.K W Γ μ σ H → ∀ Q : VK, (∀ v d μ' H2, Rep X.K W Γ μ' σ H2 → Same (off (hd W μ) H) (off (hd W μ') H2) → Va X.K (off (hd W μ') H2) v d → P d μ' → Q v H2) → wE X e σ H Q
def EvAM (X : Cx) (W : Wd) (Γ : List DV) (μ : Mu) (es : List Expr) (P : List PyData → Mu → Prop) : Prop := ∀ σ H, Rep X.K W Γ μ σ H → ∀ Q : List V → Hp → Prop, (∀ vs ds μ' H2, Rep X.K W Γ μ' σ H2 → Same (off (hd W μ) H) (off (hd W μ') H2) → VaAll X.K (off (hd W μ') H2) vs ds → P ds μ' → Q vs H2) → wA X es σ H Q
def EvTM (X : Cx) (W : Wd) (Γ : List DV) (μ : Mu) (e : Expr) (P : Bool → Mu → Prop) : Prop := ∀ σ H, Rep X.K W Γ μ σ H → ∀ Q : Bool → Hp → Prop, (∀ b μ' H2, Rep X.K W Γ μ' σ H2 → Same (off (hd W μ) H) (off (hd W μ') H2) → P b μ' → Q b H2) → wT X e σ H Q
def EvWM (X : Cx) (W : Wd) (Γ : List DV) (μ : Mu) (e : Expr) (P : Bool → Mu → Prop) : Prop := ∀ σ H, Rep X.K W Γ μ σ H → ∀ Q : Bool → Hp → Prop, (∀ b μ' H2, Rep X.K W Γ μ' σ H2 → Same (off (hd W μ) H) (off (hd W μ') H2) → P b μ' → Q b H2) → wW X e σ H Q
section
variable {X : Cx} {W W0 : Wd} {Γ : List DV} {μ : Mu} {e a b : Expr} {es : List Expr} {rest : List Stmt} {D : Ends} {pos p p1 p2 p3 : Pos} {n n1 n2 n3 : Str} {P A : PyData → Mu → Prop} {l : Addr}
theorem Ev.m {Q : PyData → Prop} (h : Ev X W Γ μ e Q) : EvM X W Γ μ e (fun d μ' => Q d ∧ μ' = μ) := fun σ H R q k => h σ H R q fun v d H2 R2 e2 r p => k v d μ H2 R2 e2 r ⟨p, rfl⟩
theorem Ed.m {d : PyData} (h : Ed X W Γ μ e d) : EvM X W Γ μ e (fun z μ' => z = d ∧ μ' = μ) := Ev.m h.ev
theorem EvM.imp (h : EvM X W Γ μ e A) (i : ∀ d μ', A d μ' → P d μ') : EvM X W Γ μ e P := fun σ H R q k => h σ H R q fun v d μ' H2 R2 e2 r p => k v d μ' H2 R2 e2 r (i d μ' p)
/-- where the local objects stay as they are -/
theorem EvM.ev {Q : PyData → Prop} (h : EvM X W Γ μ e (fun d μ' => Q d ∧ μ' = μ)) : Ev X W Γ μ e Q := fun σ H R q k => h σ H R q fun v d μ' H2 R2 e2 r ⟨p, eq⟩ => by
  subst eq
  exact k v d H2 R2 e2 r p
theorem EvM.ed {d : PyData} (h : EvM X W Γ μ e (fun z μ' => z = d ∧ μ' = μ)) : Ed X W Γ μ e d := (EvM.ev h).ed
theorem EvT.m {Q : Bool → Prop} (h : EvT X W Γ μ e Q) : EvTM X W Γ μ e (fun d μ' => Q d ∧ μ' = μ) := fun σ H R q k => h σ H R q fun b H2 R2 e2 p => k b μ H2 R2 e2 ⟨p, rfl⟩
theorem EdT.m {k : Bool} (h : EdT X W Γ μ e k) : EvTM X W Γ μ e (fun z μ' => z = k ∧ μ' = μ) := EvT.m (h.ev (P := fun z => z = k) rfl)
theorem EvTM.imp {P A : Bool → Mu → Prop} (h : EvTM X W Γ μ e A) (i : ∀ d μ', A d μ' → P d μ') : EvTM X W Γ μ e P := fun σ H R q k => h σ H R q fun b μ' H2 R2 e2 p => k b μ' H2 R2 e2 (i b μ' p)
theorem EvAM.imp {P A : List PyData → Mu → Prop} (h : EvAM X W Γ μ es A) (i : ∀ d μ', A d μ' → P d μ') : EvAM X W Γ μ es P := fun σ H R q k => h σ H R q fun v d μ' H2 R2 e2 r p => k v d μ' H2 R2 e2 r (i d μ' p)
theorem EvWM.t {P : Bool → Mu → Prop} (h : EvWM X W Γ μ e P) : EvTM X W Γ μ e P := fun σ H R q k => wW.pw.pt.w (h σ H R q k)
end
end HW
set_option maxHeartbeats 4000000
namespace HW
open PySem PySem.Spec PyProof.Rows L2
open SX (S)
/-! ### instances of a class of the program -/
abbrev FvR (K : PySem.W.Frag) (H : Hp) (gs : List (Str × V)) (fs : List (Str × PyData)) : Prop := Paired (fun (p : Str × V) (q : Str × PyData) => p.1 = q.1 ∧ Va K H p.2 q.2) gs fs
section
variable {K : PySem.W.Frag} {H H' : Hp} {gs : List (Str × V)} {fs : List (Str × PyData)}
theorem FvR.up (e : Same H H') (h : FvR K H gs fs) : FvR K H' gs fs := pmp h fun _ _ z => ⟨z.1, z.2.up e⟩
end
section
variable {P : Program} {w : World} {K : PySem.W.Frag} {mg : Str → Option Value} {base : Heap} {x qual : Str} {params : Arguments} {body : List Stmt} {scope : Scope} {f : Addr} {fd : FuncData} {N ps : List Str} {k : Nat}
end
/-- a method of a class, ready to be called -/
structure FdM (P : Program) (w : World) (K : PySem.W.Frag) (mg : Str → Option Value) (base : Heap) (k : Nat) (C : Addr) (m : Str) (ps : List Str) (sp : Sp) : Prop where
  ex : ∃ (f : Addr) (fd : FuncData), FnOk P w K mg base CX0 k f fd ps sp ∧ Meth K C m f ∧ Binds K fd ps []
theorem FdM.mono {P : Program} {w : World} {K : PySem.W.Frag} {mg : Str → Option Value} {base : Heap} {j k : Nat} {C : Addr} {m : Str} {ps : List Str} {sp : Sp} (F : FdM P w K mg base j C m ps sp) (h : j ≤ k) : FdM P w K mg base k C m ps sp := by
  obtain ⟨f, fd, h1, h2, h3⟩ := F.ex
  exact ⟨f, fd, h1.mono h, h2, h3⟩
section
variable {X : Cx} {W W0 : Wd} {Γ : List DV} {μ : Mu} {e value : Expr} {es : List Expr} {rest : List Stmt} {D : Ends} {pos p p1 p2 pos' apos : Pos} {n m fn : Str} {a C : Addr} {fs : List (Str × PyData)} {ds : List PyData} {d : PyData} {k : Nat} {ps : List Str}
end
end HW
set_option maxHeartbeats 4000000
namespace HW
open PySem PySem.Spec PyProof.Rows L2
open SX (S)
/-! ### a class that is made, a method that is called, and raises -/
section
variable {X : Cx} {CX : CXT} {k : Nat} {f C : Addr} {fd : FuncData} {ps : List Str} {sp : Sp} {E : L2.St → XK} {x m : Str} {p pos apos : Pos} {e o : Expr} {es : List Expr} {ta : TE} {t : TA}
theorem run_makeS {pins : List (Addr × Obj)} {σ : L2.St} {H : Hp} {s : Shared} {Q : VK} {us : List Value} {vs : List V} (M : Mk X.K C f) (F : FnOk X.prog X.w X.K X.mg X.base CX k f fd ps sp) (hr : Room (k + 1) X.A) (hb : Binds X.K fd ps [])
    (hx : PassesAt CX X σ (E σ)) (I : Inv X pins σ H s) (r : Vals vs us)
    (h : ∀ x dx, H x = none → H dx = none → dx ≠ x → sp (.ref x :: vs) (upd (upd H dx (.own x)) x (.ins C dx [])) (fun v H2 => v = .non ∧ Q (.ref x) H2) (E σ)) :
    wpAny (model X.prog X.w) X.A (call (.ref C) us) (EP X pins σ Q) X.xe s := by
  have hq := h (s.heap.objs.size + 1) s.heap.objs.size (I.hok.fresh (Nat.le_succ _)) (I.hok.fresh (Nat.le_refl _)) (Nat.ne_of_lt (Nat.lt_succ_self _))
  have I2 := Inv.made (C := C) I
  have r2 : Vals (V.ref (s.heap.objs.size + 1) :: vs) (Value.ref (s.heap.objs.size + 1) :: us) := .cons rfl r
  have hl : (Value.ref (s.heap.objs.size + 1) :: us).length = ps.length := by
    have e := r2.length
    rw [F.len _ _ _ _ hq] at e
    exact e.symm
  have b := hb _ (Value.ref (s.heap.objs.size + 1) :: us) I2.kIn (by rw [List.append_nil]; exact hl)
  rw [List.append_nil] at b
  refine wpAny_call (make_map (f := f) I.kIn M.makes M.init (beq_iff_eq.mp M.fn) (codeAny_mono (F.run _ X.stack _ _ ⟨Value.ref (s.heap.objs.size + 1) :: us, []⟩ (Value.ref (s.heap.objs.size + 1) :: us) _ _ (E σ) (hr.make C us [])
    (I2.env0.make C us []) b r2 hq) fun r s' hq' => ?_))
  cases r with
  | error e => exact hx pins _ _ e s' I2 hq'
  | ok fl =>
    cases fl with
    | ret u =>
      obtain ⟨v, H', I3, rv, ev, q3⟩ := I2.after hq'
      subst ev
      exact ⟨rv, ⟨V.ref (s.heap.objs.size + 1), H', I3, rfl, q3⟩⟩
    | next => exact False.elim hq'
    | brk => exact False.elim hq'
    | cont => exact False.elim hq'
def tMakeS (C : Addr) (sp : Sp) (E : L2.St → XK) (t : TA) : TE := fun σ H Q => t σ H fun vs H1 => ∀ x dx, H1 x = none → H1 dx = none → dx ≠ x → sp (.ref x :: vs) (upd (upd H1 dx (.own x)) x (.ins C dx [])) (fun v H2 => v = .non ∧ Q (.ref x) H2) (E σ)
theorem pe_makeS (M : Mk X.K C f) (F : FnOk X.prog X.w X.K X.mg X.base CX k f fd ps sp) (hr : Room (k + 1) X.A) (hg : Gl X x) (hm : X.mg x = some (.ref C)) (hb : Binds X.K fd ps []) (hx : ∀ σ, PassesAt CX X σ (E σ))
    (ha : PA X (e :: es) t) (hdb : (x == ("__debug__" : Str)) = false := by decide) (he : starEach (e :: es) X.env = (false, eval e X.env) :: starEach es X.env := by rfl) (hpl : (backTo pos (starEach es X.env)).any (·.1) = false := by rfl) :
    PE X (.Call (.Name x p) (e :: es) [] pos) (tMakeS C sp E t) := by
  refine ⟨fun pins s σ H Q I h => ?_⟩
  refine wpAny_Call_Name_kw (ld_glob I hg hm ?_ hdb)
  refine PySem.W.callWith_K (h₀ := X.base) I.ok.mod.kin M.kp (thn (ha.run pos pins s σ H _ I h) fun us s1 ⟨vs, H1, I1, r, q⟩ => ⟨I1.kIn, ?_⟩) he hpl
  exact run_makeS M F hr hb (hx σ) I1 r q
end
/-- a class whose making raises -/
structure MkX (P : Program) (w : World) (K : PySem.W.Frag) (mg : Str → Option Value) (base : Heap) (k : Nat) (x : Str) (ps : List Str) (R : List PyData → Str → Option (Str × PyData) → Prop) : Prop where
  ex : ∃ (C f : Addr) (fd : FuncData) (j : Nat), j < k ∧ mg x = some (.ref C) ∧ Mk K C f ∧ FnOk P w K mg base (L2.CX P w) j f fd ps (spX K R) ∧ Binds K fd ps []
theorem MkX.mono {P : Program} {w : World} {K : PySem.W.Frag} {mg : Str → Option Value} {base : Heap} {j k : Nat} {x : Str} {ps : List Str} {R : List PyData → Str → Option (Str × PyData) → Prop} (F : MkX P w K mg base j x ps R) (h : j ≤ k) : MkX P w K mg base k x ps R := by
  obtain ⟨C, f, fd, i, h0, h1, h2, h3, h4⟩ := F.ex
  exact ⟨C, f, fd, i, Nat.lt_of_lt_of_le h0 h, h1, h2, h3, h4⟩
section
variable {X : Cx} {W : Wd} {Γ : List DV} {μ : Mu} {e : Expr} {es : List Expr} {ds : List PyData} {x f : Str} {fo : Option (Str × PyData)} {ps : List Str} {k : Nat} {p pos : Pos} {W0 : WX} {R : List PyData → Str → Option (Str × PyData) → Prop}
theorem ed_makeX (F : MkX X.prog X.w X.K X.mg X.base k f ps R) (hr : Room k X.A) (tk : Takes X W0) (ha : EdA X W Γ μ (e :: es) ds) (hR : ∀ l, R (ptD l :: ds) x fo) (h : ∀ σ H, Rep X.K W Γ μ σ H → ∀ cls d H', XO X.K (hd W μ) H H' x fo cls d → W0 cls d σ H') (hg : Gl X f := by rfl)
    (hdb : (f == ("__debug__" : Str)) = false := by decide) (he : starEach (e :: es) X.env = (false, eval e X.env) :: starEach es X.env := by rfl) (hpl : (backTo pos (starEach es X.env)).any (·.1) = false := by rfl) : EdX X W Γ μ (.Call (.Name f p) (e :: es) [] pos) := fun σ H Rp Q => by
  obtain ⟨C, fa, fd, i, h0, h1, h2, h3, h4⟩ := F.ex
  refine (pe_makeS (E := WE W0) h2 h3 (hr.mono h0) hg h1 h4 (fun σ => passAt tk σ) wA.pa hdb he hpl).w (ha σ H Rp _ fun vs H2 R2 e2 r2 l dx hl hdx hne => ?_)
  have s1 := same_new (o := HO.own l) hdx
  have hl3 : upd H2 dx (.own l) l = none := by rw [upd_ne (Ne.symm hne)]; exact hl
  have s2 := same_new (o := HO.ins C dx []) hl3
  have s3 : Same H2 (upd (upd H2 dx (.own l)) l (.ins C dx [])) := same_trans s1 s2
  refine ⟨HW.hd W μ, ptD l :: ds, x, fo, fun a ha => ?_, .cons (.ptr l) (r2.up (same_offL s3)), hR l, fun cls d H' hx => h σ H2 R2 cls d H' ?_⟩
  · cases e0 : H2 a with
    | none => exact absurd e0 (R2.ne a ha)
    | some o => rw [s3 a o e0]; simp
  · obtain ⟨x1, x2, x3⟩ := hx
    refine ⟨x1, same_trans s3 x2, ?_⟩
    cases fo with
    | none => trivial
    | some fy =>
      obtain ⟨g, y⟩ := fy
      obtain ⟨dd, v, y1, y2, y3, y4⟩ := x3
      refine ⟨dd, v, y1, ?_, y3, y4⟩
      cases e0 : H2 dd with
      | none => rfl
      | some o =>
        rw [s3 dd o e0] at y2
        cases y2
end
/-! ### masks and rows refused -/
def X_tracker (ds : List PyData) (x : Str) (fo : Option (Str × PyData)) : Prop := ∃ a0 a1 a2 : PyData, ds = [a0, a1, a2] ∧ (X_row [a1] x fo ∨ (R_need_row [a1] .none ∧ X_mask [a2] x fo))
def X_together1 (ds : List PyData) (x : Str) (fo : Option (Str × PyData)) : Prop := ∃ a0 a1 a2 : PyData, ds = [a0, a1, a2] ∧ X_mask [a0] x fo
def R_masked (ds : List PyData) (x : Str) (fo : Option (Str × PyData)) : Prop := ∃ (q : Nat) (v : PyData), ds = [nn q, v] ∧ q < 28 ∧ noMask v ∧ x = "BadMask" ∧ fo = none
def R_rowed (ds : List PyData) (x : Str) (fo : Option (Str × PyData)) : Prop := ∃ (q : Nat) (v : PyData), ds = [nn q, v] ∧ q < 19 ∧ (noRow v ∨ (v = sD [] ∧ (q = 1 ∨ q = 2))) ∧ x = "BadRow" ∧ fo = none
def R_told1 (ds : List PyData) (d : PyData) : Prop := ∃ (q : Nat) (v : PyData), ds = [nn q, v] ∧ ((q < 28 ∧ noMask v ∧ d = sD [109, 97, 115, 107]) ∨ (28 ≤ q ∧ q < 47 ∧ (noRow v ∨ (v = sD [] ∧ (q = 29 ∨ q = 30))) ∧ d = sD [114, 111, 119]))
end HW
namespace HW
open PySem PySem.Spec PyProof.Rows L2
open SX (S)
section
variable {X : Cx} {W : Wd} {Γ : List DV} {μ : Mu} {a b : Expr} {pos : Pos}
/-- a and b, where a is surely True -/
theorem ev_and1 (h : Ev X W Γ μ a (fun z => z = .bool true)) (h2 : Ed X W Γ μ (.BoolOp .And [b] pos) (.bool true)) : Ev X W Γ μ (.BoolOp .And [a, b] pos) (fun z => z = .bool true) := (Ed.to (ed_and (k := true) (l := true) h.ed (fun _ => h2)) rfl).ev
end
end HW
set_option maxHeartbeats 0
namespace Tx
open PySem PySem.Spec PyProof.Rows L2
def top (i : Nat) : Stmt := PySem.Challenge.pw_holedwindows_k01_masks_refused.main.body.getD i (.Pass ⟨0, 0, 0, 0⟩)
abbrev s__wall : Stmt := top 0
abbrev s_is_from : Stmt := top 18
abbrev s_is_mask : Stmt := top 19
abbrev s_need_mask : Stmt := top 20
abbrev s_is_row : Stmt := top 21
abbrev s_need_row : Stmt := top 22
abbrev s_need_letters : Stmt := top 23
abbrev s_seen_by : Stmt := top 24
abbrev s_seen : Stmt := top 25
abbrev s_all_masks : Stmt := top 26
abbrev s_together : Stmt := top 27
abbrev s_view_by : Stmt := top 30
abbrev s_views_of : Stmt := top 31
abbrev s_views : Stmt := top 32
abbrev s_tells_by : Stmt := top 33
abbrev s_tells : Stmt := top 34
abbrev s_alike : Stmt := top 35
abbrev s_groups : Stmt := top 36
abbrev s_unlike : Stmt := top 37
abbrev s_distance_of : Stmt := top 38
abbrev s_distance : Stmt := top 39
abbrev s_stands : Stmt := top 40
abbrev s_need_small : Stmt := top 44
abbrev s_longer : Stmt := top 45
abbrev s_levels_of : Stmt := top 46
abbrev s_longest : Stmt := top 47
abbrev s_longest_rows : Stmt := top 48
abbrev s_count_rows : Stmt := top 49
abbrev s_need_row_in : Stmt := top 50
abbrev s_next_letters : Stmt := top 51
abbrev s_farthest : Stmt := top 52
abbrev s_best_masks : Stmt := top 55
abbrev s_least_masks : Stmt := top 56
abbrev s_is_view : Stmt := top 59
abbrev s_misses : Stmt := top 60
abbrev s_find : Stmt := top 61
abbrev s_near : Stmt := top 62
abbrev s_steps_needed : Stmt := top 63
abbrev s_need_views : Stmt := top 66
abbrev s_laid : Stmt := top 67
abbrev s_clash_of : Stmt := top 68
abbrev s_joined : Stmt := top 69
abbrev s_first_clash : Stmt := top 70
abbrev s_orders_of : Stmt := top 71
abbrev s_rows_from : Stmt := top 72
abbrev s_sure_from : Stmt := top 73
abbrev s_mend : Stmt := top 76
abbrev s_weak_letters : Stmt := top 77
abbrev s_need_ring : Stmt := top 79
abbrev s_ring_views_of : Stmt := top 80
abbrev s_ring_views : Stmt := top 81
abbrev s_ring_tells : Stmt := top 82
abbrev s_all_rings : Stmt := top 83
abbrev s_power : Stmt := top 84
abbrev s_longest_ring : Stmt := top 85
abbrev s_full_rings : Stmt := top 86
abbrev s_write : Stmt := top 88
abbrev s__law_taken : Stmt := top 92
abbrev s__law_odd_mask : Stmt := top 93
abbrev s__law_odd_row : Stmt := top 94
abbrev s__law_masked : Stmt := top 95
abbrev s__law_rowed : Stmt := top 96
abbrev s__law_told : Stmt := top 97
abbrev s_law : Stmt := top 98
def d__wall : He.DefD := ⟨("_wall", none), "_wall", "_wall", defArgs s__wall, defBody s__wall, defScope s__wall, [], []⟩
def d_is_from : He.DefD := ⟨("is_from", none), "is_from", "is_from", defArgs s_is_from, defBody s_is_from, defScope s_is_from, [], []⟩
def d_is_mask : He.DefD := ⟨("is_mask", none), "is_mask", "is_mask", defArgs s_is_mask, defBody s_is_mask, defScope s_is_mask, [], []⟩
def d_need_mask : He.DefD := ⟨("need_mask", none), "need_mask", "need_mask", defArgs s_need_mask, defBody s_need_mask, defScope s_need_mask, [], []⟩
def d_is_row : He.DefD := ⟨("is_row", none), "is_row", "is_row", defArgs s_is_row, defBody s_is_row, defScope s_is_row, [], []⟩
def d_need_row : He.DefD := ⟨("need_row", none), "need_row", "need_row", defArgs s_need_row, defBody s_need_row, defScope s_need_row, [], []⟩
def d_need_letters : He.DefD := ⟨("need_letters", none), "need_letters", "need_letters", defArgs s_need_letters, defBody s_need_letters, defScope s_need_letters, [], []⟩
def d_seen_by : He.DefD := ⟨("seen_by", none), "seen_by", "seen_by", defArgs s_seen_by, defBody s_seen_by, defScope s_seen_by, [], []⟩
def d_seen : He.DefD := ⟨("seen", none), "seen", "seen", defArgs s_seen, defBody s_seen, defScope s_seen, [], []⟩
def d_all_masks : He.DefD := ⟨("all_masks", none), "all_masks", "all_masks", defArgs s_all_masks, defBody s_all_masks, defScope s_all_masks, [], []⟩
def d_together : He.DefD := ⟨("together", none), "together", "together", defArgs s_together, defBody s_together, defScope s_together, [], []⟩
def d_view_by : He.DefD := ⟨("view_by", none), "view_by", "view_by", defArgs s_view_by, defBody s_view_by, defScope s_view_by, [], []⟩
def d_views_of : He.DefD := ⟨("views_of", none), "views_of", "views_of", defArgs s_views_of, defBody s_views_of, defScope s_views_of, [], []⟩
def d_views : He.DefD := ⟨("views", none), "views", "views", defArgs s_views, defBody s_views, defScope s_views, [], []⟩
def d_tells_by : He.DefD := ⟨("tells_by", none), "tells_by", "tells_by", defArgs s_tells_by, defBody s_tells_by, defScope s_tells_by, [], []⟩
def d_tells : He.DefD := ⟨("tells", none), "tells", "tells", defArgs s_tells, defBody s_tells, defScope s_tells, [], []⟩
def d_alike : He.DefD := ⟨("alike", none), "alike", "alike", defArgs s_alike, defBody s_alike, defScope s_alike, [], []⟩
def d_groups : He.DefD := ⟨("groups", none), "groups", "groups", defArgs s_groups, defBody s_groups, defScope s_groups, [], []⟩
def d_unlike : He.DefD := ⟨("unlike", none), "unlike", "unlike", defArgs s_unlike, defBody s_unlike, defScope s_unlike, [], []⟩
def d_distance_of : He.DefD := ⟨("distance_of", none), "distance_of", "distance_of", defArgs s_distance_of, defBody s_distance_of, defScope s_distance_of, [], []⟩
def d_distance : He.DefD := ⟨("distance", none), "distance", "distance", defArgs s_distance, defBody s_distance, defScope s_distance, [], []⟩
def d_stands : He.DefD := ⟨("stands", none), "stands", "stands", defArgs s_stands, defBody s_stands, defScope s_stands, [], []⟩
def d_need_small : He.DefD := ⟨("need_small", none), "need_small", "need_small", defArgs s_need_small, defBody s_need_small, defScope s_need_small, [], []⟩
def d_longer : He.DefD := ⟨("longer", none), "longer", "longer", defArgs s_longer, defBody s_longer, defScope s_longer, [], []⟩
def d_levels_of : He.DefD := ⟨("levels_of", none), "levels_of", "levels_of", defArgs s_levels_of, defBody s_levels_of, defScope s_levels_of, [], []⟩
def d_longest : He.DefD := ⟨("longest", none), "longest", "longest", defArgs s_longest, defBody s_longest, defScope s_longest, [], []⟩
def d_longest_rows : He.DefD := ⟨("longest_rows", none), "longest_rows", "longest_rows", defArgs s_longest_rows, defBody s_longest_rows, defScope s_longest_rows, [], []⟩
def d_count_rows : He.DefD := ⟨("count_rows", none), "count_rows", "count_rows", defArgs s_count_rows, defBody s_count_rows, defScope s_count_rows, [], []⟩
def d_need_row_in : He.DefD := ⟨("need_row_in", none), "need_row_in", "need_row_in", defArgs s_need_row_in, defBody s_need_row_in, defScope s_need_row_in, [], []⟩
def d_next_letters : He.DefD := ⟨("next_letters", none), "next_letters", "next_letters", defArgs s_next_letters, defBody s_next_letters, defScope s_next_letters, [], []⟩
def d_farthest : He.DefD := ⟨("farthest", none), "farthest", "farthest", defArgs s_farthest, defBody s_farthest, defScope s_farthest, [], []⟩
def d_best_masks : He.DefD := ⟨("best_masks", none), "best_masks", "best_masks", defArgs s_best_masks, defBody s_best_masks, defScope s_best_masks, [], []⟩
def d_least_masks : He.DefD := ⟨("least_masks", none), "least_masks", "least_masks", defArgs s_least_masks, defBody s_least_masks, defScope s_least_masks, [], []⟩
def d_is_view : He.DefD := ⟨("is_view", none), "is_view", "is_view", defArgs s_is_view, defBody s_is_view, defScope s_is_view, [], []⟩
def d_misses : He.DefD := ⟨("misses", none), "misses", "misses", defArgs s_misses, defBody s_misses, defScope s_misses, [], []⟩
def d_find : He.DefD := ⟨("find", none), "find", "find", defArgs s_find, defBody s_find, defScope s_find, [], []⟩
def d_near : He.DefD := ⟨("near", none), "near", "near", defArgs s_near, defBody s_near, defScope s_near, [], []⟩
def d_steps_needed : He.DefD := ⟨("steps_needed", none), "steps_needed", "steps_needed", defArgs s_steps_needed, defBody s_steps_needed, defScope s_steps_needed, [], []⟩
def d_need_views : He.DefD := ⟨("need_views", none), "need_views", "need_views", defArgs s_need_views, defBody s_need_views, defScope s_need_views, [], []⟩
def d_laid : He.DefD := ⟨("laid", none), "laid", "laid", defArgs s_laid, defBody s_laid, defScope s_laid, [], []⟩
def d_clash_of : He.DefD := ⟨("clash_of", none), "clash_of", "clash_of", defArgs s_clash_of, defBody s_clash_of, defScope s_clash_of, [], []⟩
def d_joined : He.DefD := ⟨("joined", none), "joined", "joined", defArgs s_joined, defBody s_joined, defScope s_joined, [], []⟩
def d_first_clash : He.DefD := ⟨("first_clash", none), "first_clash", "first_clash", defArgs s_first_clash, defBody s_first_clash, defScope s_first_clash, [], []⟩
def d_orders_of : He.DefD := ⟨("orders_of", none), "orders_of", "orders_of", defArgs s_orders_of, defBody s_orders_of, defScope s_orders_of, [], []⟩
def d_rows_from : He.DefD := ⟨("rows_from", none), "rows_from", "rows_from", defArgs s_rows_from, defBody s_rows_from, defScope s_rows_from, [], []⟩
def d_sure_from : He.DefD := ⟨("sure_from", none), "sure_from", "sure_from", defArgs s_sure_from, defBody s_sure_from, defScope s_sure_from, [], []⟩
def d_mend : He.DefD := ⟨("mend", none), "mend", "mend", defArgs s_mend, defBody s_mend, defScope s_mend, [], []⟩
def d_weak_letters : He.DefD := ⟨("weak_letters", none), "weak_letters", "weak_letters", defArgs s_weak_letters, defBody s_weak_letters, defScope s_weak_letters, [], []⟩
def d_need_ring : He.DefD := ⟨("need_ring", none), "need_ring", "need_ring", defArgs s_need_ring, defBody s_need_ring, defScope s_need_ring, [], []⟩
def d_ring_views_of : He.DefD := ⟨("ring_views_of", none), "ring_views_of", "ring_views_of", defArgs s_ring_views_of, defBody s_ring_views_of, defScope s_ring_views_of, [], []⟩
def d_ring_views : He.DefD := ⟨("ring_views", none), "ring_views", "ring_views", defArgs s_ring_views, defBody s_ring_views, defScope s_ring_views, [], []⟩
def d_ring_tells : He.DefD := ⟨("ring_tells", none), "ring_tells", "ring_tells", defArgs s_ring_tells, defBody s_ring_tells, defScope s_ring_tells, [], []⟩
def d_all_rings : He.DefD := ⟨("all_rings", none), "all_rings", "all_rings", defArgs s_all_rings, defBody s_all_rings, defScope s_all_rings, [], []⟩
def d_power : He.DefD := ⟨("power", none), "power", "power", defArgs s_power, defBody s_power, defScope s_power, [], []⟩
def d_longest_ring : He.DefD := ⟨("longest_ring", none), "longest_ring", "longest_ring", defArgs s_longest_ring, defBody s_longest_ring, defScope s_longest_ring, [], []⟩
def d_full_rings : He.DefD := ⟨("full_rings", none), "full_rings", "full_rings", defArgs s_full_rings, defBody s_full_rings, defScope s_full_rings, [], []⟩
def d_write : He.DefD := ⟨("write", none), "write", "write", defArgs s_write, defBody s_write, defScope s_write, [], []⟩
def d__law_taken : He.DefD := ⟨("_law_taken", none), "_law_taken", "_law_taken", defArgs s__law_taken, defBody s__law_taken, defScope s__law_taken, [], []⟩
def d__law_odd_mask : He.DefD := ⟨("_law_odd_mask", none), "_law_odd_mask", "_law_odd_mask", defArgs s__law_odd_mask, defBody s__law_odd_mask, defScope s__law_odd_mask, [], []⟩
def d__law_odd_row : He.DefD := ⟨("_law_odd_row", none), "_law_odd_row", "_law_odd_row", defArgs s__law_odd_row, defBody s__law_odd_row, defScope s__law_odd_row, [], []⟩
def d__law_masked : He.DefD := ⟨("_law_masked", none), "_law_masked", "_law_masked", defArgs s__law_masked, defBody s__law_masked, defScope s__law_masked, [], []⟩
def d__law_rowed : He.DefD := ⟨("_law_rowed", none), "_law_rowed", "_law_rowed", defArgs s__law_rowed, defBody s__law_rowed, defScope s__law_rowed, [], []⟩
def d__law_told : He.DefD := ⟨("_law_told", none), "_law_told", "_law_told", defArgs s__law_told, defBody s__law_told, defScope s__law_told, [], []⟩
def d_law : He.DefD := ⟨("law", none), "law", "law", defArgs s_law, defBody s_law, defScope s_law, [], []⟩
abbrev m_BadMask : Stmt := HW.clsM (top 3) 0
def i_BadMask : He.DefD := ⟨("BadMask", some "__init__"), "__init__", "BadMask.__init__", defArgs m_BadMask, defBody m_BadMask, defScope m_BadMask, [], []⟩
abbrev m_BadRow : Stmt := HW.clsM (top 4) 0
def i_BadRow : He.DefD := ⟨("BadRow", some "__init__"), "__init__", "BadRow.__init__", defArgs m_BadRow, defBody m_BadRow, defScope m_BadRow, [], []⟩
abbrev m_BadView : Stmt := HW.clsM (top 5) 0
def i_BadView : He.DefD := ⟨("BadView", some "__init__"), "__init__", "BadView.__init__", defArgs m_BadView, defBody m_BadView, defScope m_BadView, [], []⟩
abbrev m_BadLetters : Stmt := HW.clsM (top 7) 0
def i_BadLetters : He.DefD := ⟨("BadLetters", some "__init__"), "__init__", "BadLetters.__init__", defArgs m_BadLetters, defBody m_BadLetters, defScope m_BadLetters, [], []⟩
abbrev m_TooGreat : Stmt := HW.clsM (top 9) 0
def i_TooGreat : He.DefD := ⟨("TooGreat", some "__init__"), "__init__", "TooGreat.__init__", defArgs m_TooGreat, defBody m_TooGreat, defScope m_TooGreat, [], []⟩
abbrev m_TooMany : Stmt := HW.clsM (top 11) 0
def i_TooMany : He.DefD := ⟨("TooMany", some "__init__"), "__init__", "TooMany.__init__", defArgs m_TooMany, defBody m_TooMany, defScope m_TooMany, [], []⟩
abbrev m_BadNumber : Stmt := HW.clsM (top 8) 0
def i_BadNumber : He.DefD := ⟨("BadNumber", some "__init__"), "__init__", "BadNumber.__init__", defArgs m_BadNumber, defBody m_BadNumber, defScope m_BadNumber, [], []⟩
abbrev m_BadViews : Stmt := HW.clsM (top 6) 0
def i_BadViews : He.DefD := ⟨("BadViews", some "__init__"), "__init__", "BadViews.__init__", defArgs m_BadViews, defBody m_BadViews, defScope m_BadViews, [], []⟩
abbrev mm_Tracker___init__ : Stmt := HW.clsM (top 90) 0
def im_Tracker___init__ : He.DefD := ⟨("Tracker", some "__init__"), "__init__", "Tracker.__init__", defArgs mm_Tracker___init__, defBody mm_Tracker___init__, defScope mm_Tracker___init__, [], []⟩
def fn0 : List He.DefD := [d__wall, d_is_from, d_is_mask, d_need_mask, d_is_row, d_need_row, d_need_letters, d_seen_by, d_seen, d_all_masks, d_together, d_view_by, d_views_of, d_views, d_tells_by, d_tells, d_alike, d_groups, d_unlike, d_distance_of, d_distance, d_stands, d_need_small, d_longer, d_levels_of]
def fn1 : List He.DefD := [d_longest, d_longest_rows, d_count_rows, d_need_row_in, d_next_letters, d_farthest, d_best_masks, d_least_masks, d_is_view, d_misses, d_find, d_near, d_steps_needed, d_need_views, d_laid, d_clash_of, d_joined, d_first_clash, d_orders_of, d_rows_from, d_sure_from, d_mend, d_weak_letters, d_need_ring, d_ring_views_of]
def fn2 : List He.DefD := [d_ring_views, d_ring_tells, d_all_rings, d_power, d_longest_ring, d_full_rings, d_write, d__law_taken, d__law_odd_mask, d__law_odd_row, d__law_masked, d__law_rowed, d__law_told, d_law, i_BadMask, i_BadRow, i_BadView, i_BadLetters, i_TooGreat, i_TooMany, i_BadNumber, i_BadViews, im_Tracker___init__]
def fn : List He.DefD := fn0 ++ fn1 ++ fn2
def fa0 : List He.Fa := [.glo "_wall", .glo "is_from", .glo "is_mask", .glo "need_mask", .glo "is_row", .glo "need_row", .glo "need_letters", .glo "seen_by", .glo "seen", .glo "all_masks", .glo "together", .glo "view_by", .glo "views_of", .glo "views", .glo "tells_by", .glo "tells", .glo "alike", .glo "groups", .glo "unlike", .glo "distance_of", .glo "distance", .glo "stands", .glo "need_small", .glo "longer", .glo "levels_of"]
def fa1 : List He.Fa := [.glo "longest", .glo "longest_rows", .glo "count_rows", .glo "need_row_in", .glo "next_letters", .glo "farthest", .glo "best_masks", .glo "least_masks", .glo "is_view", .glo "misses", .glo "find", .glo "near", .glo "steps_needed", .glo "need_views", .glo "laid", .glo "clash_of", .glo "joined", .glo "first_clash", .glo "orders_of", .glo "rows_from", .glo "sure_from", .glo "mend", .glo "weak_letters", .glo "need_ring", .glo "ring_views_of"]
def fa2 : List He.Fa := [.glo "ring_views", .glo "ring_tells", .glo "all_rings", .glo "power", .glo "longest_ring", .glo "full_rings", .glo "write", .glo "_law_taken", .glo "_law_odd_mask", .glo "_law_odd_row", .glo "_law_masked", .glo "_law_rowed", .glo "_law_told", .glo "law", .free "all", .free "bool", .free "enumerate", .free "int", .free "isinstance", .free "len", .free "list", .free "max", .free "min", .free "property", .free "range"]
def fa3 : List He.Fa := [.free "set", .free "sorted", .free "str", .free "tuple", .free "zip", .free "any", .free "dict", .free "abs", .free "sum", .noat "TooMany" "most", .noat "BadNumber" "n", .noat "BadViews" "index", .glo "Tracker", .cls "Tracker", .mkr "Tracker", .exm "BadMask" "BadMask" true, .exm "BadRow" "BadMask" false, .exm "BadRow" "BadRow" true, .str "SEEN" "x", .str "HOLE" ".", .str "LETTERS" "abcd", .int "MOST_MASK" 12, .int "MOST_ROW" 60, .int "MOST_WRONG" 12, .int "MOST_ASKED" 9]
def fa4 : List He.Fa := [.str "OPEN" "?", .int "MOST_VIEWS" 7, .int "MOST_MENDED" 8]
def fa : List He.Fa := fa0 ++ fa1 ++ fa2 ++ fa3 ++ fa4
def names0 : List PySem.Str := ["__name__", "SEEN", "HOLE", "LETTERS", "MOST_MASK", "MOST_ROW", "MOST_WRONG", "MOST_WIDTHS", "MOST_SEEN", "MOST_ASKED", "OPEN", "MOST_VIEWS", "MOST_MENDED", "WindowError", "BadMask", "BadRow", "BadView", "BadViews", "BadLetters", "BadNumber", "TooGreat", "TooLong", "TooMany", "Tracker", "_wall"]
def names1 : List PySem.Str := ["is_from", "is_mask", "need_mask", "is_row", "need_row", "need_letters", "seen_by", "seen", "all_masks", "together", "view_by", "views_of", "views", "tells_by", "tells", "alike", "groups", "unlike", "distance_of", "distance", "stands", "need_small", "longer", "levels_of", "longest"]
def names2 : List PySem.Str := ["longest_rows", "count_rows", "need_row_in", "next_letters", "farthest", "best_masks", "least_masks", "is_view", "misses", "find", "near", "steps_needed", "need_views", "laid", "clash_of", "joined", "first_clash", "orders_of", "rows_from", "sure_from", "mend", "weak_letters", "need_ring", "ring_views_of", "ring_views"]
def names3 : List PySem.Str := ["ring_tells", "all_rings", "power", "longest_ring", "full_rings", "write", "_law_taken", "_law_odd_mask", "_law_odd_row", "_law_masked", "_law_rowed", "_law_told"]
def names : List PySem.Str := names0 ++ names1 ++ names2 ++ names3
abbrev R : PySem.W.OpenRow := PySem.W.OpenLaw.row PySem.Challenge.rw_holedwindows_k01_masks_refused
def ex (K : PySem.W.Frag) : Bool := HW.exfB "BadMask" K && HW.exfB "BadRow" K && HW.exfB "BadView" K && HW.exfB "BadLetters" K && HW.exfB "TooGreat" K && HW.exfB "TooMany" K && HW.exfB "BadNumber" K && HW.exfB "BadViews" K && HW.baseB "WindowError" K && HX.tupI "MOST_WIDTHS" [12, 8, 5, 4] K && HX.tupI "MOST_SEEN" [12, 4, 2, 1] K && true
abbrev hk : PySem.W.Hook := HX.hookS 4 fa fn ex
def ob (s : PySem.W.SharedT) : HX.AlE := HX.obsS 4 fa fn ex (HandSHeadRun.getT s)
theorem ob_eq (s : PySem.W.SharedT) : ob s = hk.obs s.abs := HX.obsS_eq (HandSHeadRun.getT_eq s)
theorem run (w : World) : HandSHeadRun.RunEq R (PySem.W.view R.prog [98]) hk ob 12000 names w := by
  intro os
  kernel_rfl
end Tx
set_option maxHeartbeats 4000000
namespace HW
open PySem PySem.Spec PyProof.Rows L2 Tx
open SX (S)
section
variable {P : Program} {w : World} {K : PySem.W.Frag} {mg : Str → Option Value} {base : Heap} {f : Addr} {fd : FuncData} {k : Nat}
theorem fi_BadMask {C : Addr} (F : FunD K "__init__" "BadMask.__init__" (defArgs m_BadMask) (defBody m_BadMask) (defScope m_BadMask) [] [] f fd) (B : BaseF K mg "WindowError") : FnOk P w K mg base CX0 (k + 1) f fd ["self"] (spI0 K C) :=
  fn_init0 F ⟨rfl, rfl, rfl, by decide +kernel, rfl, by decide +kernel, by decide +kernel⟩ B (fun _ _ _ _ _ _ => rfl) (fun _ _ _ _ _ _ => Or.inl rfl) (fun _ _ _ _ _ _ => ⟨_, rfl⟩) (fun _ _ _ _ _ _ => rfl)
theorem fi_BadRow {C : Addr} (F : FunD K "__init__" "BadRow.__init__" (defArgs m_BadRow) (defBody m_BadRow) (defScope m_BadRow) [] [] f fd) (B : BaseF K mg "WindowError") : FnOk P w K mg base CX0 (k + 1) f fd ["self"] (spI0 K C) :=
  fn_init0 F ⟨rfl, rfl, rfl, by decide +kernel, rfl, by decide +kernel, by decide +kernel⟩ B (fun _ _ _ _ _ _ => rfl) (fun _ _ _ _ _ _ => Or.inl rfl) (fun _ _ _ _ _ _ => ⟨_, rfl⟩) (fun _ _ _ _ _ _ => rfl)
theorem fi_BadView {C : Addr} (F : FunD K "__init__" "BadView.__init__" (defArgs m_BadView) (defBody m_BadView) (defScope m_BadView) [] [] f fd) (B : BaseF K mg "WindowError") : FnOk P w K mg base CX0 (k + 1) f fd ["self"] (spI0 K C) :=
  fn_init0 F ⟨rfl, rfl, rfl, by decide +kernel, rfl, by decide +kernel, by decide +kernel⟩ B (fun _ _ _ _ _ _ => rfl) (fun _ _ _ _ _ _ => Or.inl rfl) (fun _ _ _ _ _ _ => ⟨_, rfl⟩) (fun _ _ _ _ _ _ => rfl)
theorem fi_BadLetters {C : Addr} (F : FunD K "__init__" "BadLetters.__init__" (defArgs m_BadLetters) (defBody m_BadLetters) (defScope m_BadLetters) [] [] f fd) (B : BaseF K mg "WindowError") : FnOk P w K mg base CX0 (k + 1) f fd ["self"] (spI0 K C) :=
  fn_init0 F ⟨rfl, rfl, rfl, by decide +kernel, rfl, by decide +kernel, by decide +kernel⟩ B (fun _ _ _ _ _ _ => rfl) (fun _ _ _ _ _ _ => Or.inl rfl) (fun _ _ _ _ _ _ => ⟨_, rfl⟩) (fun _ _ _ _ _ _ => rfl)
theorem fi_TooGreat {C : Addr} (F : FunD K "__init__" "TooGreat.__init__" (defArgs m_TooGreat) (defBody m_TooGreat) (defScope m_TooGreat) [] [] f fd) (B : BaseF K mg "WindowError") : FnOk P w K mg base CX0 (k + 1) f fd ["self"] (spI0 K C) :=
  fn_init0 F ⟨rfl, rfl, rfl, by decide +kernel, rfl, by decide +kernel, by decide +kernel⟩ B (fun _ _ _ _ _ _ => rfl) (fun _ _ _ _ _ _ => Or.inl rfl) (fun _ _ _ _ _ _ => ⟨_, rfl⟩) (fun _ _ _ _ _ _ => rfl)
theorem fi_TooMany {C : Addr} (F : FunD K "__init__" "TooMany.__init__" (defArgs m_TooMany) (defBody m_TooMany) (defScope m_TooMany) [] [] f fd) (B : BaseF K mg "WindowError") (hno : PySem.W.findIn K (.ref C) "most" = some none) : FnOk P w K mg base CX0 (k + 1) f fd ["self", "most"] (spI1 K C "most") :=
  fn_init1 (by decide) (by decide) F ⟨rfl, rfl, rfl, by decide +kernel, rfl, by decide +kernel, by decide +kernel⟩ B hno (fun _ _ _ _ _ _ => rfl) (fun _ _ _ _ _ _ => Or.inl rfl) (fun _ _ _ _ _ _ => Or.inl rfl) (fun _ _ _ _ _ _ => ⟨_, rfl⟩) (fun _ _ _ _ _ _ => rfl) (fun _ _ _ _ _ _ => rfl)
theorem fi_BadNumber {C : Addr} (F : FunD K "__init__" "BadNumber.__init__" (defArgs m_BadNumber) (defBody m_BadNumber) (defScope m_BadNumber) [] [] f fd) (B : BaseF K mg "WindowError") (hno : PySem.W.findIn K (.ref C) "n" = some none) : FnOk P w K mg base CX0 (k + 1) f fd ["self", "n"] (spI1 K C "n") :=
  fn_init1 (by decide) (by decide) F ⟨rfl, rfl, rfl, by decide +kernel, rfl, by decide +kernel, by decide +kernel⟩ B hno (fun _ _ _ _ _ _ => rfl) (fun _ _ _ _ _ _ => Or.inl rfl) (fun _ _ _ _ _ _ => Or.inl rfl) (fun _ _ _ _ _ _ => ⟨_, rfl⟩) (fun _ _ _ _ _ _ => rfl) (fun _ _ _ _ _ _ => rfl)
theorem fi_BadViews {C : Addr} (F : FunD K "__init__" "BadViews.__init__" (defArgs m_BadViews) (defBody m_BadViews) (defScope m_BadViews) [] [] f fd) (B : BaseF K mg "WindowError") (hno : PySem.W.findIn K (.ref C) "index" = some none) : FnOk P w K mg base CX0 (k + 1) f fd ["self", "index"] (spI1 K C "index") :=
  fn_init1 (by decide) (by decide) F ⟨rfl, rfl, rfl, by decide +kernel, rfl, by decide +kernel, by decide +kernel⟩ B hno (fun _ _ _ _ _ _ => rfl) (fun _ _ _ _ _ _ => Or.inl rfl) (fun _ _ _ _ _ _ => Or.inl rfl) (fun _ _ _ _ _ _ => ⟨_, rfl⟩) (fun _ _ _ _ _ _ => rfl) (fun _ _ _ _ _ _ => rfl)
theorem fd_taken (F : FnP K "_law_taken" s__law_taken f fd) (hint : mg "int" = none) (hlen : mg "len" = none) : FnOk P w K mg base CX0 (k + 1) f fd ["_law_row", "_law_many"] (spW K R_taken_pre R_taken_post) := by
  have sc : FnScope ["_law_row", "_law_many", "_law_found", "_law_cell"] ["_law_row", "_law_many"] (defScope s__law_taken) := ⟨rfl, rfl, rfl, by decide +kernel, rfl, by decide +kernel, by decide +kernel⟩
  refine F.ok sc (fun vs H Q E ⟨M, r, scr, ns, ws, ds, e, _, _, _, _, _, _, hv, ⟨m, e2, _⟩, _⟩ => by rw [e, List.length_cons, hv.length, e2]; rfl) fun cdv A outer s H vs Q E hr ⟨M, r, scr, ns, ws, ds, e, hM, hrM, hR, hS, hne, hns, hv, ⟨m, e2, h0, h1⟩, q⟩ => ?_
  subst e
  subst e2
  cases hv with
  | cons hv1 hv2 =>
  cases hv2
  cases hv1
  obtain ⟨i, sd, rest, hrow, hi0⟩ := hR
  -- the end: r holds whatever it holds
  have fin : ∀ (k : Nat) (i' sd' q' : Int) (H' : Hp), (k : Int) < m → 0 ≤ i' → (∀ a o, a ≠ r → H a = some o → H' a = some o) → H' r = some (.lst [.ref scr, .int i', .int sd', .int q']) → Q (.int (k : Int)) H' := fun k i' sd' q' H' hk hi' keep hr' =>
    q _ H' (.int (k : Int)) ⟨m, k, rfl, rfl, hk⟩ keep ⟨i', sd', q', hr', hi'⟩ (.int _)
  have modk : ∀ z : Int, ∃ k : Nat, z % m = (k : Int) ∧ (k : Int) < m := fun z => ⟨(z % m).toNat, by rw [Int.toNat_of_nonneg (Int.emod_nonneg _ (by omega))], by rw [Int.toNat_of_nonneg (Int.emod_nonneg _ (by omega))]; exact Int.emod_lt_of_pos _ h0⟩
  have sq : ∀ {H' : Hp}, (∀ a o, a ≠ r → H a = some o → H' a = some o) → SqL K H' scr (ns.map V.int) := fun {H'} keep => SqL.up (fun o e => keep scr o hne e) hS
  refine ⟨_, PSs.nox wSs.ps, ?_⟩
  show wSs (cxOf CX0 P w K mg base ["_law_row", "_law_many", "_law_found", "_law_cell"] "_law_taken" (defScope s__law_taken) f cdv A outer s H E).nox _ _ (start _ _) H
  have nd := sc.nd
  have k1 : ∀ {o : HO} (a : Addr) (u : HO), a ≠ r → H a = some u → upd H r o a = some u := fun {o} a u n e => by rw [upd_ne n]; exact e
  refine wSs_cons ((ps_if wT.pt wSs.ps wSs.ps).w (at_cmp (k := decide (0 < rest)) op_gt (at_ix (at_var 0 rfl) at_int (SqL.of hrow) rfl) at_int (fun Q q => ⟨rest, 0, rfl, rfl, q⟩) ?_))
  by_cases hp : 0 < rest
  · rw [decide_eq_true hp]
    obtain ⟨k, ek, hk⟩ := modk rest
    refine iteT (wSs_cons ((ps_set (i := 2) nd rfl (.inl rfl) wE.pe).w (at_op (z := .int (rest % m)) op_mod (at_int1 (at_ix (at_var 0 rfl) at_int (SqL.of hrow) rfl) hint) (at_var 1 rfl) (fun Q q => ⟨rest, m, rfl, rfl, h0, q⟩) _ ?_)))
    refine wSs_cons ((ps_asg wE.pe (pg_sub wE.pe wE.pe set_list)).w (at_op (z := .int (rest / m)) op_fdiv (at_ix (at_var 0 rfl) at_int (SqL.of hrow) rfl) (at_var 1 rfl) (fun Q q => ⟨rest, m, rfl, rfl, ⟨h0, h1⟩, q⟩) _ ?_))
    refine at_k (at_var 0 rfl) (at_k at_int ⟨r, _, 3, 3, rfl, rfl, hrow, rfl, ?_⟩)
    refine wSs_cons ((ps_ret wE.pe).w (at_k (at_var 2 rfl) ?_))
    rw [ek]
    exact fin k i sd (rest / m) _ hk hi0 k1 upd_same
  · rw [decide_eq_false hp]
    refine iteF (pss_nil.w ?_)
    refine wSs_cons ((ps_asg wE.pe (pg_sub wE.pe wE.pe set_list)).w (at_op (z := .int (i + 1)) op_add (at_ix (at_var 0 rfl) at_int (SqL.of hrow) rfl) at_int (fun Q q => ⟨i, 1, rfl, rfl, q⟩) _ ?_))
    refine at_k (at_var 0 rfl) (at_k at_int ⟨r, _, 1, 1, rfl, rfl, hrow, rfl, ?_⟩)
    have hr1 : upd H r (.lst [.ref scr, .int (i + 1), .int sd, .int rest]) r = some (.lst [.ref scr, .int (i + 1), .int sd, .int rest]) := upd_same
    have keep1 : ∀ (a : Addr) (u : HO), a ≠ r → H a = some u → upd H r (.lst [.ref scr, .int (i + 1), .int sd, .int rest]) a = some u := k1
    revert hr1 keep1
    show _ → _ → wSs _ _ _ _ (upd H r (.lst [.ref scr, .int (i + 1), .int sd, .int rest]))
    generalize upd H r (.lst [.ref scr, .int (i + 1), .int sd, .int rest]) = H1
    intro hr1 keep1
    have k2 : ∀ {o : HO} (a : Addr) (u : HO), a ≠ r → H a = some u → upd H1 r o a = some u := fun {o} a u n e => by rw [upd_ne n]; exact keep1 a u n e
    refine wSs_cons ((ps_if wT.pt wSs.ps wSs.ps).w (at_cmp (k := decide (((ns.map V.int).length : Int) < i + 1)) op_gt (at_ix (at_var 0 rfl) at_int (SqL.of hr1) rfl) (at_len (at_ix (at_var 0 rfl) at_int (SqL.of hr1) rfl) (sq keep1) hlen) (fun Q q => ⟨i + 1, _, rfl, rfl, q⟩) ?_))
    by_cases hb : ((ns.map V.int).length : Int) < i + 1
    · rw [decide_eq_true hb]
      refine iteT (wSs_cons ((ps_asg wE.pe (pg_sub wE.pe wE.pe set_list)).w (at_op (z := .int ((sd * 48271 + 11) % 2147483647)) op_mod (at_int1 (at_op (z := .int (sd * 48271 + 11)) op_add (at_op (z := .int (sd * 48271)) op_mul (at_ix (at_var 0 rfl) at_int (SqL.of hr1) rfl) at_int (fun Q q => ⟨sd, 48271, rfl, rfl, .inr (by decide), q⟩)) at_int (fun Q q => ⟨_, 11, rfl, rfl, q⟩)) hint) at_int (fun Q q => ⟨_, 2147483647, rfl, rfl, (by decide : (0 : Int) < 2147483647), q⟩) _ ?_)))
      refine at_k (at_var 0 rfl) (at_k at_int ⟨r, _, 2, 2, rfl, rfl, hr1, rfl, ?_⟩)
      obtain ⟨k, ek, hk⟩ := modk ((sd * 48271 + 11) % 2147483647 / 7)
      refine wSs_cons ((ps_ret wE.pe).w (at_op (z := .int ((sd * 48271 + 11) % 2147483647 / 7 % m)) op_mod (at_int1 (at_op (z := .int ((sd * 48271 + 11) % 2147483647 / 7)) op_fdiv (at_ix (at_var 0 rfl) at_int (SqL.of upd_same) rfl) at_int (fun Q q => ⟨_, 7, rfl, rfl, ⟨by decide, by decide⟩, q⟩)) hint) (at_var 1 rfl) (fun Q q => ⟨_, m, rfl, rfl, h0, q⟩) _ ?_))
      rw [ek]
      exact fin k (i + 1) _ rest _ hk (by omega) k2 upd_same
    · rw [decide_eq_false hb]
      refine iteF (pss_nil.w ?_)
      obtain ⟨c, hc⟩ : ∃ c : Int, atI (ns.map V.int) (i + 1 - 1) = some (.int c) := by
        have hl : i.toNat < ns.length := by
          rw [List.length_map] at hb
          omega
        refine ⟨ns[i.toNat], at_nat (n := i.toNat) (by omega) ?_⟩
        rw [List.getElem?_map, List.getElem?_eq_getElem hl]
        rfl
      refine wSs_cons ((ps_set (i := 3) nd rfl (.inl rfl) wE.pe).w (at_ix (at_ix (at_var 0 rfl) at_int (SqL.of hr1) rfl) (at_op (z := .int (i + 1 - 1)) op_sub (at_ix (at_var 0 rfl) at_int (SqL.of hr1) rfl) at_int (fun Q q => ⟨i + 1, 1, rfl, rfl, q⟩)) (sq keep1) hc (by exact fun _ _ => rfl) _ ?_))
      refine wSs_cons ((ps_asg wE.pe (pg_sub wE.pe wE.pe set_list)).w (at_op (z := .int ((sd * 48271 + c + 11) % 2147483647)) op_mod (at_int1 (at_op (z := .int (sd * 48271 + c + 11)) op_add (at_op (z := .int (sd * 48271 + c)) op_add (at_op (z := .int (sd * 48271)) op_mul (at_ix (at_var 0 rfl) at_int (SqL.of hr1) rfl) at_int (fun Q q => ⟨sd, 48271, rfl, rfl, .inr (by decide), q⟩)) (at_var 3 rfl) (fun Q q => ⟨_, c, rfl, rfl, q⟩)) at_int (fun Q q => ⟨_, 11, rfl, rfl, q⟩)) hint) at_int (fun Q q => ⟨_, 2147483647, rfl, rfl, (by decide : (0 : Int) < 2147483647), q⟩) _ ?_))
      refine at_k (at_var 0 rfl) (at_k at_int ⟨r, _, 2, 2, rfl, rfl, hr1, rfl, ?_⟩)
      have hr2 : upd H1 r (.lst [.ref scr, .int (i + 1), .int ((sd * 48271 + c + 11) % 2147483647), .int rest]) r = some (.lst [.ref scr, .int (i + 1), .int ((sd * 48271 + c + 11) % 2147483647), .int rest]) := upd_same
      have keep2 : ∀ (a : Addr) (u : HO), a ≠ r → H a = some u → upd H1 r (.lst [.ref scr, .int (i + 1), .int ((sd * 48271 + c + 11) % 2147483647), .int rest]) a = some u := k2
      revert hr2 keep2
      show _ → _ → wSs _ _ _ _ (upd H1 r (.lst [.ref scr, .int (i + 1), .int ((sd * 48271 + c + 11) % 2147483647), .int rest]))
      generalize upd H1 r (.lst [.ref scr, .int (i + 1), .int ((sd * 48271 + c + 11) % 2147483647), .int rest]) = H2
      intro hr2 keep2
      have k3 : ∀ {o : HO} (a : Addr) (u : HO), a ≠ r → H a = some u → upd H2 r o a = some u := fun {o} a u n e => by rw [upd_ne n]; exact keep2 a u n e
      obtain ⟨k, ek, hk⟩ := modk c
      refine wSs_cons ((ps_if wT.pt wSs.ps wSs.ps).w (at_cmp (k := decide ((10 : Int) ^ (18 : Int).toNat ≤ c)) op_ge (at_var 3 rfl) (at_op (z := .int ((10 : Int) ^ (18 : Int).toNat)) op_pow at_int at_int (fun Q q => ⟨10, 18, rfl, rfl, ⟨by decide, by decide, by decide⟩, q⟩)) (fun Q q => ⟨c, _, rfl, rfl, q⟩) ?_))
      have out : ∀ (q' : Int) (H' : Hp), (∀ a o, a ≠ r → H a = some o → H' a = some o) → H' r = some (.lst [.ref scr, .int (i + 1), .int ((sd * 48271 + c + 11) % 2147483647), .int q']) →
          wSs (cxOf CX0 P w K mg base ["_law_row", "_law_many", "_law_found", "_law_cell"] "_law_taken" (defScope s__law_taken) f cdv A outer s H E).nox ((defBody s__law_taken).drop 6) { nx := fun x H' => Q .non H', rt := Q } [some (.ref r), some (.int m), none, some (.int c)] H' := fun q' H' keep hr' => by
        refine wSs_cons ((ps_ret wE.pe).w (at_op (z := .int (c % m)) op_mod (at_int1 (at_var 3 rfl) hint) (at_var 1 rfl) (fun Q q => ⟨c, m, rfl, rfl, h0, q⟩) _ ?_))
        rw [ek]
        exact fin k (i + 1) _ q' _ hk (by omega) keep hr'
      by_cases hg : (10 : Int) ^ (18 : Int).toNat ≤ c
      · rw [decide_eq_true hg]
        refine iteT (wSs_cons ((ps_asg wE.pe (pg_sub wE.pe wE.pe set_list)).w (at_op (z := .int (c / m)) op_fdiv (at_var 3 rfl) (at_var 1 rfl) (fun Q q => ⟨c, m, rfl, rfl, ⟨h0, h1⟩, q⟩) _ ?_)))
        refine at_k (at_var 0 rfl) (at_k at_int ⟨r, _, 3, 3, rfl, rfl, hr2, rfl, ?_⟩)
        exact pss_nil.w (out (c / m) _ k3 upd_same)
      · rw [decide_eq_false hg]
        exact iteF (pss_nil.w (out rest _ keep2 hr2))
theorem fd_law_odd_mask (F : FnP K "_law_odd_mask" s__law_odd_mask f fd) (G : Gs mg) (F0 : DRAW P w K mg base k) : FnOk P w K mg base CX0 (k + 1) f fd ["_law_row"] (spW K (fun ds => ds = []) post_oddM) := by
  have sc : FnScope ["_law_row", "_law_odd"] ["_law_row"] (defScope s__law_odd_mask) := ⟨rfl, rfl, rfl, by decide +kernel, rfl, by decide +kernel, by decide +kernel⟩
  refine fd_row F sc _ _ (fun ds e => by rw [e]; rfl) fun cdv A outer s H E hr W r scr ns ds hrow hR => ?_
  subst hR
  obtain ⟨O, hO⟩ : ∃ O : List PyData, O = [.none, sD [], sD [46], sD [120, 46], sD [46, 120], sD [120, 111], sD (List.replicate 13 120), sD [88], .tuple [sD [120]], .list [sD [120]], .int 0, .bool true, sD [120, 32, 120], .dict []] := ⟨_, rfl⟩
  have hOl : O.length = 14 := by rw [hO]; rfl
  refine run_set (d := .list O) 1 ?he ?hr ?hN
  case hN =>
    exact sc.nd
  case he =>
    rw [hO]
    refine ed_lst ?_ ?_
    · refine ea_cons ?_ ?_
      · exact ed_non
      refine ea_cons ?_ ?_
      · exact ed_S []
      refine ea_cons ?_ ?_
      · exact ed_S [46]
      refine ea_cons ?_ ?_
      · exact ed_S [120, 46]
      refine ea_cons ?_ ?_
      · exact ed_S [46, 120]
      refine ea_cons ?_ ?_
      · exact ed_S [120, 111]
      refine ea_cons ?_ ?_
      · refine Ed.to (ed_op (ed_S [120]) ed_int (o_mulZ (l := [120]) (n := 13) ?_ ?_)) ?_
        · show 1 * 13 ≤ _; decide
        · decide
        · rw [rep_one]
      refine ea_cons ?_ ?_
      · exact ed_S [88]
      refine ea_cons ?_ ?_
      · refine ed_tup ?_ ?_
        · refine ea_cons ?_ ?_
          · exact ed_S [120]
          · exact ea_nil
        · show 1 ≤ 1000; decide
      refine ea_cons ?_ ?_
      · refine ed_lst ?_ ?_
        · refine ea_cons ?_ ?_
          · exact ed_S [120]
          · exact ea_nil
        · show 1 ≤ 1000; decide
      refine ea_cons ?_ ?_
      · exact ed_int
      refine ea_cons ?_ ?_
      · exact ed_bl
      refine ea_cons ?_ ?_
      · exact ed_S [120, 32, 120]
      refine ea_cons ?_ ?_
      · exact ed_dict0
      exact ea_nil
    · show 14 ≤ 1000; decide
  refine run_retV (A := fun z => z ∈ O) ?ha ?hb
  case ha =>
    refine ev_pick O ?p1 ?p2
    case p1 => exact vr 1
    case p2 =>
      refine Ev.imp (A := fun d => ∃ z k : Nat, (nn z = nn 14) ∧ d = nn k ∧ k < z ∧ z ≤ 14) ?q1 ?q2
      case q1 =>
        refine ev_taken (A := fun z => z = nn 14) 14 F0 hr hrow 0 ?t1 ?t2
        case t2 => exact fun d e => ⟨14, e, by decide, by decide⟩
        case t1 =>
          refine Ed.evP (d := nn 14) ?u1 rfl
          refine Ed.to (lenL G (vr 1)) ?_
          rw [hOl]
      case q2 => exact fun d ⟨z, q, ez, ed, hq, hz⟩ => ⟨q, ed, by rw [hOl]; omega⟩
  intro d hd
  refine ⟨rfl, ?_⟩
  rw [hO] at hd
  simp only [List.mem_cons, List.not_mem_nil, or_false] at hd
  rcases hd with e | e | e | e | e | e | e | e | e | e | e | e | e | e <;> subst e
  · exact .inl (.inl rfl)
  · exact .inr ⟨_, rfl, by decide, by decide⟩
  · exact .inr ⟨_, rfl, by decide, by decide⟩
  · exact .inr ⟨_, rfl, by decide, by decide⟩
  · exact .inr ⟨_, rfl, by decide, by decide⟩
  · exact .inr ⟨_, rfl, by decide, by decide⟩
  · exact .inr ⟨_, rfl, by decide, by decide⟩
  · exact .inr ⟨_, rfl, by decide, by decide⟩
  · exact .inl (.inr (.inr (.inr (.inr (.inl ⟨_, rfl⟩)))))
  · exact .inl (.inr (.inr (.inr (.inl ⟨_, rfl⟩))))
  · exact .inl (.inr (.inr (.inl ⟨_, rfl⟩)))
  · exact .inl (.inr (.inl ⟨_, rfl⟩))
  · exact .inr ⟨_, rfl, by decide, by decide⟩
  · exact .inl (.inr (.inr (.inr (.inr (.inr rfl)))))
theorem fd_law_odd_row (F : FnP K "_law_odd_row" s__law_odd_row f fd) (G : Gs mg) (F0 : DRAW P w K mg base k) : FnOk P w K mg base CX0 (k + 1) f fd ["_law_row"] (spW K (fun ds => ds = []) post_oddR) := by
  have sc : FnScope ["_law_row", "_law_odd"] ["_law_row"] (defScope s__law_odd_row) := ⟨rfl, rfl, rfl, by decide +kernel, rfl, by decide +kernel, by decide +kernel⟩
  refine fd_row F sc _ _ (fun ds e => by rw [e]; rfl) fun cdv A outer s H E hr W r scr ns ds hrow hR => ?_
  subst hR
  obtain ⟨O, hO⟩ : ∃ O : List PyData, O = [.none, sD [101], sD [65], sD [97, 32, 98], sD [97, 63], sD (List.replicate 61 97), .tuple [sD [97]], .list [sD [97]], .int 0, .bool true, .dict [], sD [120]] := ⟨_, rfl⟩
  have hOl : O.length = 12 := by rw [hO]; rfl
  refine run_set (d := .list O) 1 ?he ?hr ?hN
  case hN =>
    exact sc.nd
  case he =>
    rw [hO]
    refine ed_lst ?_ ?_
    · refine ea_cons ?_ ?_
      · exact ed_non
      refine ea_cons ?_ ?_
      · exact ed_S [101]
      refine ea_cons ?_ ?_
      · exact ed_S [65]
      refine ea_cons ?_ ?_
      · exact ed_S [97, 32, 98]
      refine ea_cons ?_ ?_
      · exact ed_S [97, 63]
      refine ea_cons ?_ ?_
      · refine Ed.to (ed_op (ed_S [97]) ed_int (o_mulZ (l := [97]) (n := 61) ?_ ?_)) ?_
        · show 1 * 61 ≤ _; decide
        · decide
        · rw [rep_one]
      refine ea_cons ?_ ?_
      · refine ed_tup ?_ ?_
        · refine ea_cons ?_ ?_
          · exact ed_S [97]
          · exact ea_nil
        · show 1 ≤ 1000; decide
      refine ea_cons ?_ ?_
      · refine ed_lst ?_ ?_
        · refine ea_cons ?_ ?_
          · exact ed_S [97]
          · exact ea_nil
        · show 1 ≤ 1000; decide
      refine ea_cons ?_ ?_
      · exact ed_int
      refine ea_cons ?_ ?_
      · exact ed_bl
      refine ea_cons ?_ ?_
      · exact ed_dict0
      refine ea_cons ?_ ?_
      · exact ed_S [120]
      exact ea_nil
    · show 12 ≤ 1000; decide
  refine run_retV (A := fun z => z ∈ O) ?ha ?hb
  case ha =>
    refine ev_pick O ?p1 ?p2
    case p1 => exact vr 1
    case p2 =>
      refine Ev.imp (A := fun d => ∃ z k : Nat, (nn z = nn 12) ∧ d = nn k ∧ k < z ∧ z ≤ 12) ?q1 ?q2
      case q1 =>
        refine ev_taken (A := fun z => z = nn 12) 12 F0 hr hrow 0 ?t1 ?t2
        case t2 => exact fun d e => ⟨12, e, by decide, by decide⟩
        case t1 =>
          refine Ed.evP (d := nn 12) ?u1 rfl
          refine Ed.to (lenL G (vr 1)) ?_
          rw [hOl]
      case q2 => exact fun d ⟨z, q, ez, ed, hq, hz⟩ => ⟨q, ed, by rw [hOl]; omega⟩
  intro d hd
  refine ⟨rfl, ?_⟩
  rw [hO] at hd
  simp only [List.mem_cons, List.not_mem_nil, or_false] at hd
  rcases hd with e | e | e | e | e | e | e | e | e | e | e | e <;> subst e
  · exact .inl (.inl rfl)
  · exact .inr ⟨_, rfl, by decide, by decide⟩
  · exact .inr ⟨_, rfl, by decide, by decide⟩
  · exact .inr ⟨_, rfl, by decide, by decide⟩
  · exact .inr ⟨_, rfl, by decide, by decide⟩
  · exact .inr ⟨_, rfl, by decide, by decide⟩
  · exact .inl (.inr (.inr (.inr (.inr (.inl ⟨_, rfl⟩)))))
  · exact .inl (.inr (.inr (.inr (.inl ⟨_, rfl⟩))))
  · exact .inl (.inr (.inr (.inl ⟨_, rfl⟩)))
  · exact .inl (.inr (.inl ⟨_, rfl⟩))
  · exact .inl (.inr (.inr (.inr (.inr (.inr rfl)))))
  · exact .inr ⟨_, rfl, by decide, by decide⟩
theorem fd_is_mask_t (F : FnP K "is_mask" s_is_mask f fd) (G : Gs mg) (gS : gSEEN mg) (gH : gHOLE mg) (gM : gMOST_MASK mg) : FnOk P w K mg base CX0 (k + 1) f fd ["value"] (spR K R_is_mask_t) := by
  have sc : FnScope ["value", "sign"] ["value"] (defScope s_is_mask) := ⟨rfl, rfl, rfl, by decide +kernel, rfl, by decide +kernel, by decide +kernel⟩
  refine fd_pure F sc _ (fun ds d ⟨m, e, _⟩ => by rw [e]; rfl) fun cdv A outer s H E hr W ds d hrow hR => ?_
  obtain ⟨m, rfl, hm, rfl⟩ := hR
  have em : maskB m = (decide (1 ≤ m.length) && decide (m.length ≤ 12) && m.all (fun c => decide (c ∈ [120, 46])) && decide (m[0]? = some 120) && decide (m.getLast? = some 120)) := rfl
  refine run_if (k := !(decide (1 ≤ m.length) && decide (m.length ≤ 12))) ((t_or (t_not (et_val (ed_isi (T := "str") (vr 0) G.isinstance G.str (by decide +kernel)))) fun _ => t_not (tc_chain ed_int (ed_callB G.len boot_len (ea_cons (vr 0) ea_nil) (c_lenS (by omega))) (fun _ => ed_gint gM) c_le c_le)).to ?_) (fun q => ?_) (fun q => run_skip ?_)
  · have e1 : decide ((1 : Int) ≤ ((m.length : Nat) : Int)) = decide (1 ≤ m.length) := decide_eq_decide.mpr (by omega)
    have e2 : decide (((m.length : Nat) : Int) ≤ (12 : Int)) = decide (m.length ≤ 12) := decide_eq_decide.mpr (by omega)
    rw [e1, e2]
    rfl
  · refine run_ret (d := .bool false) ed_bl ?_
    rw [em]
    rw [Bool.not_eq_true'] at q
    rw [q]
    rfl
  · rw [Bool.not_eq_false'] at q
    rw [q, Bool.true_and] at em
    rw [Bool.and_eq_true, decide_eq_true_eq, decide_eq_true_eq] at q
    obtain ⟨h1, h2⟩ := q
    obtain ⟨c0, hc0⟩ : ∃ c, m[0]? = some c := ⟨_, List.getElem?_eq_getElem (by omega)⟩
    obtain ⟨c1, hc1⟩ : ∃ c, m.getLast? = some c := by
      rw [List.getLast?_eq_getElem?]
      exact ⟨_, List.getElem?_eq_getElem (by omega)⟩
    rw [hc0, hc1] at em
    refine run_ret ((ed_and (k := m.all fun c => decide (c ∈ [120, 46])) (l := decide (c0 = 120) && decide (c1 = 120)) ((ed_callB G.all boot_all (ea_cons (lcN0 1 (it_str (vr 0)) (by omega) (fun c => .bool (decide (c ∈ [120, 46]))) (fun c hc W1 l s H C cl fp => ed_cmp (vr 1) (ed_op (ed_gS [120] gS) (ed_gS [46] gH) (o_adds (by decide))) c_inS) sc.nd |>.ed sc.nd) ea_nil) (c_all (bs := m.map fun c => decide (c ∈ [120, 46])) rfl |> fun z => by rw [List.map_map] at z; exact z)).to ?_)
      (fun _ => ed_and (k := decide (c0 = 120)) (l := decide (c1 = 120)) ((ed_cmp (ed_ix (vr 0) ed_int (i_str (n := 0) (by omega) hc0)) (ed_gS [120] gS) (c_eqS (l := [c0]))).to ?_) fun _ => ed_one ((ed_cmp (ed_ix (vr 0) (ed_neg ed_int) (i_strL (by omega) hc1)) (ed_gS [120] gS) (c_eqS (l := [c1]))).to ?_)))) ?_
    · rw [List.all_map]
      rfl
    · exact congrArg PyData.bool (decide_eq_decide.mpr (by simp))
    · exact congrArg PyData.bool (decide_eq_decide.mpr (by simp))
    · refine congrArg PyData.bool ?_
      rw [em, Bool.and_assoc]
      congr 2
      · exact decide_eq_decide.mpr (by simp)
      · exact decide_eq_decide.mpr (by simp)
theorem fd_is_mask_o (F : FnP K "is_mask" s_is_mask f fd) (G : Gs mg) : FnOk P w K mg base CX0 (k + 1) f fd ["value"] (spR K R_is_mask_o) := by
  have sc : FnScope ["value", "sign"] ["value"] (defScope s_is_mask) := ⟨rfl, rfl, rfl, by decide +kernel, rfl, by decide +kernel, by decide +kernel⟩
  refine fd_pure F sc _ (fun ds d ⟨m, e, _⟩ => by rw [e]; rfl) fun cdv A outer s H E hr W ds d hrow hR => ?_
  obtain ⟨v, rfl, ho, rfl⟩ := hR
  exact run_if (k := true) (t_or (k := true) (l := false) (t_not (k := false) (et_val (ed_isiS ho (vr 0) G.isinstance G.str))) (fun q => nomatch q)) (fun _ => run_ret (d := .bool false) ed_bl rfl) (fun q => nomatch q)
theorem fx_need_mask (F : FnP K "need_mask" s_need_mask f fd) (F1 : Fd P w K mg base (k + 1) "is_mask" ["value"] (spR K R_is_mask_t)) (F2 : Fd P w K mg base (k + 1) "is_mask" ["value"] (spR K R_is_mask_o)) (E1 : Ex0 P w K mg base k "BadMask") : FnOk P w K mg base (L2.CX P w) (k + 2) f fd ["mask"] (spX K X_mask) := by
  have sc : FnScope ["mask"] ["mask"] (defScope s_need_mask) := ⟨rfl, rfl, rfl, by decide +kernel, rfl, by decide +kernel, by decide +kernel⟩
  refine fd_exc F sc _ (fun ds x fo ⟨m, e, _⟩ => by rw [e]; rfl) fun cdv A outer s H E hr W ds x fo hrow hR hw => ?_
  obtain ⟨v, rfl, hv, rfl, rfl⟩ := hR
  rcases hv with ho | ⟨m, rfl, h1, h2⟩
  · exact run_if (k := true) (t_not (k := false) (et_val (ed_call F2 hr (ea_cons (vr 0) ea_nil) ⟨_, rfl, ho, rfl⟩))) (fun _ => run_raise0 E1 hr (takes_of rfl rfl rfl rfl) fun σ H1 R1 cls d H' xo => hw σ H1 _ _ R1 cls d H' xo) (fun q => nomatch q)
  · exact run_if (k := true) (t_not (k := false) (et_val (ed_call F1 hr (ea_cons (vr 0) ea_nil) ⟨m, rfl, h1, by rw [h2]⟩))) (fun _ => run_raise0 E1 hr (takes_of rfl rfl rfl rfl) fun σ H1 R1 cls d H' xo => hw σ H1 _ _ R1 cls d H' xo) (fun q => nomatch q)
theorem fx_seen (F : FnP K "seen" s_seen f fd) (A0 : FdX P w K mg base k "need_mask" ["mask"] X_mask) : FnOk P w K mg base (L2.CX P w) (k + 1) f fd ["mask"] (spX K X_seen) := by
  have sc : FnScope ["mask"] ["mask"] (defScope s_seen) := ⟨rfl, rfl, rfl, by decide +kernel, rfl, by decide +kernel, by decide +kernel⟩
  refine fd_exc F sc _ (fun ds x fo ⟨_, e, _⟩ => by rw [e]; rfl) fun cdv A outer s H E hr W ds x fo hrow hR hw => ?_
  obtain ⟨a0, rfl, h⟩ := hR
  exact run_exprX (ed_callX A0 hr (takes_of rfl rfl rfl rfl) (ea_cons (vr 0) ea_nil) h fun σ H1 R1 cls d H2 xo => hw σ H1 _ _ R1 cls d H2 (xo.down fun a h => List.mem_append_left _ h))
theorem fd_is_mask (F : FnP K "is_mask" s_is_mask f fd) (G : Gs mg) (gS : gSEEN mg) (gH : gHOLE mg) (gM : gMOST_MASK mg) : FnOk P w K mg base CX0 (k + 1) f fd ["value"] (spR K R_is_mask) := by
  have sc : FnScope ["value", "sign"] ["value"] (defScope s_is_mask) := ⟨rfl, rfl, rfl, by decide +kernel, rfl, by decide +kernel, by decide +kernel⟩
  refine fd_pure F sc _ (fun ds d ⟨m, e, _⟩ => by rw [e]; rfl) fun cdv A outer s H E hr W ds d hrow hR => ?_
  obtain ⟨m, rfl, hm, rfl⟩ := hR
  unfold maskB at hm
  simp only [Bool.and_eq_true, decide_eq_true_eq] at hm
  obtain ⟨⟨⟨⟨h1, h2⟩, h3⟩, h4⟩, h5⟩ := hm
  refine run_if (k := false) ((t_or (t_not (et_val (ed_isi (T := "str") (vr 0) G.isinstance G.str (by decide +kernel)))) fun _ => t_not (tc_chain ed_int (ed_callB G.len boot_len (ea_cons (vr 0) ea_nil) (c_lenS (by omega))) (fun _ => ed_gint gM) c_le c_le)).to ?_) (fun q => nomatch q) (fun _ => run_skip ?_)
  · have e1 : decide ((1 : Int) ≤ ((m.length : Nat) : Int)) = true := decide_eq_true (by omega)
    have e2 : decide (((m.length : Nat) : Int) ≤ (12 : Int)) = true := decide_eq_true (by omega)
    rw [e1, e2]
    rfl
  · refine run_ret ((ed_and (k := true) (l := true) ((ed_callB G.all boot_all (ea_cons (lcN0 1 (it_str (vr 0)) (by omega) (fun c => .bool (decide (c ∈ [120, 46]))) (fun c hc W1 l s H C cl fp => ed_cmp (vr 1) (ed_op (ed_gS [120] gS) (ed_gS [46] gH) (o_adds (by decide))) c_inS) sc.nd |>.ed sc.nd) ea_nil) (c_all (bs := m.map fun c => decide (c ∈ [120, 46])) rfl |> fun z => by rw [List.map_map] at z; exact z)).to ?_)
      (fun _ => ed_and (k := true) (l := true) ((ed_cmp (ed_ix (vr 0) ed_int (i_str (n := 0) (by omega) h4)) (ed_gS [120] gS) (c_eqS (l := [120]))).to ?_) fun _ => ed_one ((ed_cmp (ed_ix (vr 0) (ed_neg ed_int) (i_strL (by omega) h5)) (ed_gS [120] gS) (c_eqS (l := [120]))).to ?_)))) rfl
    · rw [List.all_map]
      exact congrArg PyData.bool h3
    · rfl
    · rfl
theorem fd_need_mask (F : FnP K "need_mask" s_need_mask f fd) (F1 : Fd P w K mg base k "is_mask" ["value"] (spR K R_is_mask)) : FnOk P w K mg base CX0 (k + 1) f fd ["mask"] (spR K R_need_mask) := by
  have sc : FnScope ["mask"] ["mask"] (defScope s_need_mask) := ⟨rfl, rfl, rfl, by decide +kernel, rfl, by decide +kernel, by decide +kernel⟩
  refine fd_pure F sc _ (fun ds d ⟨m, e, _⟩ => by rw [e]; rfl) fun cdv A outer s H E hr W ds d hrow hR => ?_
  obtain ⟨m, rfl, hm, rfl⟩ := hR
  exact run_if (k := false) (t_not (k := true) (et_val (ed_call F1 hr (ea_cons (vr 0) ea_nil) ⟨m, rfl, hm, rfl⟩))) (fun q => nomatch q) (fun _ => run_skip (run_end rfl))
theorem fd_is_from_a (F : FnP K "is_from" s_is_from f fd) (G : Gs mg) : FnOk P w K mg base CX0 (k + 1) f fd ["value", "low", "high"] (spR K R_is_from_a) := by
  have sc : FnScope ["value", "low", "high"] ["value", "low", "high"] (defScope s_is_from) := ⟨rfl, rfl, rfl, by decide +kernel, rfl, by decide +kernel, by decide +kernel⟩
  refine fd_pure F sc _ (fun ds d ⟨v, a, b, e, _⟩ => by rw [e]; rfl) fun cdv A outer s H E hr W ds d hrow hR => ?_
  obtain ⟨v, a, b, rfl, ho | ⟨i, rfl, hi⟩, rfl⟩ := hR
  · rcases ho with rfl | ⟨_, rfl⟩ | ⟨_, rfl⟩ | ⟨_, rfl⟩ | ⟨_, rfl⟩ | rfl
    · exact run_ret (ed_and (k := false) (l := false) (ed_isi (T := "int") (vr 0) G.isinstance G.int (by decide +kernel)) fun e => nomatch e) rfl
    · exact run_ret (ed_and (k := true) (l := false) (ed_isi (T := "int") (vr 0) G.isinstance G.int (by decide +kernel)) fun _ => ed_and (k := false) (l := false) (ed_not (k := true) (ed_isi (T := "bool") (vr 0) G.isinstance G.bool (by decide +kernel))) fun e => nomatch e) rfl
    · exact run_ret (ed_and (k := false) (l := false) (ed_isi (T := "int") (vr 0) G.isinstance G.int (by decide +kernel)) fun e => nomatch e) rfl
    · exact run_ret (ed_and (k := false) (l := false) (ed_isi (T := "int") (vr 0) G.isinstance G.int (by decide +kernel)) fun e => nomatch e) rfl
    · exact run_ret (ed_and (k := false) (l := false) (ed_isi (T := "int") (vr 0) G.isinstance G.int (by decide +kernel)) fun e => nomatch e) rfl
    · exact run_ret (ed_and (k := false) (l := false) (ed_isi (T := "int") (vr 0) G.isinstance G.int (by decide +kernel)) fun e => nomatch e) rfl
  · refine run_ret (ed_and (k := true) (l := decide (a ≤ i) && decide (i ≤ b)) (ed_isi (T := "int") (vr 0) G.isinstance G.int (by decide +kernel)) fun _ => ed_and (k := true) (l := decide (a ≤ i) && decide (i ≤ b)) (ed_not (k := false) (ed_isi (T := "bool") (vr 0) G.isinstance G.bool (by decide +kernel))) fun _ => ed_one (ed_chain (vr 1) (vr 0) (fun _ => vr 2) c_le c_le)) ?_
    refine congrArg PyData.bool ?_
    by_cases h1 : a ≤ i
    · have h2 : ¬ i ≤ b := fun q => hi ⟨h1, q⟩
      simp [h2]
    · simp [h1]
theorem fx_need_letters (F : FnP K "need_letters" s_need_letters f fd) (G : Gs mg) (gL : gLETTERS mg) (F1 : Fd P w K mg base (k + 1) "is_from" ["value", "low", "high"] (spR K R_is_from_a)) (E1 : Ex0 P w K mg base k "BadLetters") : FnOk P w K mg base (L2.CX P w) (k + 2) f fd ["letters"] (spX K X_letters) := by
  have sc : FnScope ["letters"] ["letters"] (defScope s_need_letters) := ⟨rfl, rfl, rfl, by decide +kernel, rfl, by decide +kernel, by decide +kernel⟩
  refine fd_exc F sc _ (fun ds x fo ⟨m, e, _⟩ => by rw [e]; rfl) fun cdv A outer s H E hr W ds x fo hrow hR hw => ?_
  obtain ⟨v, rfl, h1, rfl, rfl⟩ := hR
  refine run_if (k := true) (t_not (k := false) (et_val (ed_call F1 hr (ea_cons (vr 0) (ea_cons ed_int (ea_cons (ed_callB G.len boot_len (ea_cons (ed_gS [97, 98, 99, 100] gL) ea_nil) (c_lenS (by decide))) ea_nil))) ⟨v, 1, 4, rfl, h1, rfl⟩))) (fun _ => ?_) (fun q => nomatch q)
  exact run_raise0 E1 hr (takes_of rfl rfl rfl rfl) fun σ H1 R1 cls d H' xo => hw σ H1 _ _ R1 cls d H' xo
theorem fd_is_from (F : FnP K "is_from" s_is_from f fd) (G : Gs mg) : FnOk P w K mg base CX0 (k + 1) f fd ["value", "low", "high"] (spR K R_is_from) := by
  have sc : FnScope ["value", "low", "high"] ["value", "low", "high"] (defScope s_is_from) := ⟨rfl, rfl, rfl, by decide +kernel, rfl, by decide +kernel, by decide +kernel⟩
  refine fd_pure F sc _ (fun ds d ⟨v, a, b, e, _⟩ => by rw [e]; rfl) fun cdv A outer s H E hr W ds d hrow hR => ?_
  obtain ⟨v, a, b, rfl, rfl⟩ := hR
  exact run_ret (ed_and (k := true) (l := decide (a ≤ v) && decide (v ≤ b)) (ed_isi (T := "int") (vr 0) G.isinstance G.int (by decide +kernel)) fun _ => ed_and (k := true) (l := decide (a ≤ v) && decide (v ≤ b)) (ed_not (k := false) (ed_isi (T := "bool") (vr 0) G.isinstance G.bool (by decide +kernel))) fun _ => ed_one (ed_chain (vr 1) (vr 0) (fun _ => vr 2) c_le c_le)) rfl
theorem fd_need_letters (F : FnP K "need_letters" s_need_letters f fd) (G : Gs mg) (gL : gLETTERS mg) (F1 : Fd P w K mg base k "is_from" ["value", "low", "high"] (spR K R_is_from)) : FnOk P w K mg base CX0 (k + 1) f fd ["letters"] (spR K R_need_letters) := by
  have sc : FnScope ["letters"] ["letters"] (defScope s_need_letters) := ⟨rfl, rfl, rfl, by decide +kernel, rfl, by decide +kernel, by decide +kernel⟩
  refine fd_pure F sc _ (fun ds d ⟨n, e, _⟩ => by rw [e]; rfl) fun cdv A outer s H E hr W ds d hrow hR => ?_
  obtain ⟨n, rfl, h1, h2, rfl⟩ := hR
  refine run_if (k := false) (t_not (k := true) (et_val ((ed_call F1 hr (ea_cons (vr 0) (ea_cons ed_int (ea_cons (ed_callB G.len boot_len (ea_cons (ed_gS [97, 98, 99, 100] gL) ea_nil) (c_lenS (by decide))) ea_nil))) ⟨(n : Int), 1, 4, rfl, rfl⟩).to ?_))) (fun q => nomatch q) (fun _ => run_skip (run_end rfl))
  have e1 : decide ((1 : Int) ≤ (n : Int)) = true := decide_eq_true (by omega)
  have e2 : decide ((n : Int) ≤ (4 : Int)) = true := decide_eq_true (by omega)
  rw [e1, e2]
  rfl
theorem fd_seen_by (F : FnP K "seen_by" s_seen_by f fd) (G : Gs mg) (gS : gSEEN mg) : FnOk P w K mg base CX0 (k + 1) f fd ["mask"] (spR K R_seen_by) := by
  have sc : FnScope ["mask", "at", "sign"] ["mask"] (defScope s_seen_by) := ⟨rfl, rfl, rfl, by decide +kernel, rfl, by decide +kernel, by decide +kernel⟩
  refine fd_pure F sc _ (fun ds d ⟨m, e, _⟩ => by rw [e]; rfl) fun cdv A outer s H E hr W ds d hrow hR => ?_
  obtain ⟨m, rfl, hl, rfl⟩ := hR
  refine run_ret (lcP1 1 2 (it_enum (vr 0) G.enumerate rfl) (by simpa using hl) (fun q => decide (q.2 = 120)) (fun q => nn q.1) (fun q hq W1 l s H C cl fp => tc (vr 2) (ed_gS [120] gS) (c_eqS (m := [120])) |>.to ?_) (fun q hq hc W1 l s H C cl fp => vr 1) sc.nd |>.ed sc.nd) ?_
  · simp
  · show PyData.list _ = PyData.list _
    unfold seenL
    rw [List.map_map]
    rfl
theorem fx_need_small (F : FnP K "need_small" s_need_small f fd) (G : Gs mg) (gW : gWID K mg) (gS : gSEE K mg) (FX1 : FdX P w K mg base (k + 1) "need_mask" ["mask"] X_mask) (F1 : Fd P w K mg base (k + 1) "need_mask" ["mask"] (spR K R_need_mask)) (FX2 : FdX P w K mg base (k + 1) "need_letters" ["letters"] X_letters) (F2 : Fd P w K mg base (k + 1) "need_letters" ["letters"] (spR K R_need_letters)) (F3 : Fd P w K mg base (k + 1) "seen_by" ["mask"] (spR K R_seen_by)) (E1 : Ex0 P w K mg base k "TooGreat") : FnOk P w K mg base (L2.CX P w) (k + 2) f fd ["mask", "letters"] (spX K X_small) := by
  have sc : FnScope ["mask", "letters"] ["mask", "letters"] (defScope s_need_small) := ⟨rfl, rfl, rfl, by decide +kernel, rfl, by decide +kernel, by decide +kernel⟩
  refine fd_exc F sc _ (fun ds x fo ⟨_, _, e, _⟩ => by rw [e]; rfl) fun cdv A outer s H E hr W ds x fo hrow hR hw => ?_
  obtain ⟨v, u, rfl, rfl, ⟨h, rfl⟩ | ⟨m, rfl, hm, h⟩⟩ := hR
  · exact run_exprX (ed_callX FX1 hr (takes_of rfl rfl rfl rfl) (ea_cons (vr 0) ea_nil) ⟨v, rfl, h, rfl, rfl⟩ fun σ H1 R1 cls d H2 xo => hw σ H1 _ _ R1 cls d H2 (xo.down fun a h => List.mem_append_left _ h))
  refine run_expr (ed_call F1 hr (ea_cons (vr 0) ea_nil) ⟨m, rfl, hm, rfl⟩) ?_
  rcases h with ⟨h, rfl⟩ | ⟨n, rfl, h1, h2, hg, rfl⟩
  · exact run_exprX (ed_callX FX2 hr (takes_of rfl rfl rfl rfl) (ea_cons (vr 1) ea_nil) ⟨u, rfl, h, rfl, rfl⟩ fun σ H1 R1 cls d H2 xo => hw σ H1 _ _ R1 cls d H2 (xo.down fun a h => List.mem_append_left _ h))
  refine run_expr (ed_call F2 hr (ea_cons (vr 1) ea_nil) ⟨n, rfl, h1, h2, rfl⟩) ?_
  have hml := maskB_len hm
  have hc4 : n = 1 ∨ n = 2 ∨ n = 3 ∨ n = 4 := by omega
  have ew : ([12, 8, 5, 4] : List Int)[n - 1]? = some ((([12, 8, 5, 4] : List Nat).getD (n - 1) 0 : Nat) : Int) := by rcases hc4 with e | e | e | e <;> subst e <;> rfl
  have es : ([12, 4, 2, 1] : List Int)[n - 1]? = some ((([12, 4, 2, 1] : List Nat).getD (n - 1) 0 : Nat) : Int) := by rcases hc4 with e | e | e | e <;> subst e <;> rfl
  refine run_if (k := true) ((t_or (k := decide (([12, 8, 5, 4] : List Nat).getD (n - 1) 0 < m.length)) (l := decide (([12, 4, 2, 1] : List Nat).getD (n - 1) 0 < (seenL m).length)) ((tc (lenS G (vr 0)) (ed_ix (ed_gtup gW) (ed_op (vr 1) ed_int o_sub) (i_tup (n := n - 1) (by rw [List.getElem?_map, ew]; rfl) (by omega))) c_gt).to (decide_eq_decide.mpr (by omega))) fun _ => (tc (lenL G (ed_call F3 hr (ea_cons (vr 0) ea_nil) ⟨m, rfl, by omega, rfl⟩)) (ed_ix (ed_gtup gS) (ed_op (vr 1) ed_int o_sub) (i_tup (n := n - 1) (by rw [List.getElem?_map, es]; rfl) (by omega))) c_gt).to (decide_eq_decide.mpr (by rw [List.length_map]; omega))).to hg) (fun _ => ?_) (fun q => nomatch q)
  exact run_raise0 E1 hr (takes_of rfl rfl rfl rfl) fun σ H1 R1 cls d H' xo => hw σ H1 _ _ R1 cls d H' xo
theorem fx_longest (F : FnP K "longest" s_longest f fd) (A0 : FdX P w K mg base k "need_small" ["mask", "letters"] X_small) : FnOk P w K mg base (L2.CX P w) (k + 1) f fd ["mask", "letters"] (spX K X_longest) := by
  have sc : FnScope ["mask", "letters"] ["mask", "letters"] (defScope s_longest) := ⟨rfl, rfl, rfl, by decide +kernel, rfl, by decide +kernel, by decide +kernel⟩
  refine fd_exc F sc _ (fun ds x fo ⟨_, _, e, _⟩ => by rw [e]; rfl) fun cdv A outer s H E hr W ds x fo hrow hR hw => ?_
  obtain ⟨a0, a1, rfl, h⟩ := hR
  exact run_exprX (ed_callX A0 hr (takes_of rfl rfl rfl rfl) (ea_cons (vr 0) (ea_cons (vr 1) ea_nil)) h fun σ H1 R1 cls d H2 xo => hw σ H1 _ _ R1 cls d H2 (xo.down fun a h => List.mem_append_left _ h))
theorem fx_longest_rows (F : FnP K "longest_rows" s_longest_rows f fd) (A0 : FdX P w K mg base k "need_small" ["mask", "letters"] X_small) : FnOk P w K mg base (L2.CX P w) (k + 1) f fd ["mask", "letters"] (spX K X_longest_rows) := by
  have sc : FnScope ["mask", "letters"] ["mask", "letters"] (defScope s_longest_rows) := ⟨rfl, rfl, rfl, by decide +kernel, rfl, by decide +kernel, by decide +kernel⟩
  refine fd_exc F sc _ (fun ds x fo ⟨_, _, e, _⟩ => by rw [e]; rfl) fun cdv A outer s H E hr W ds x fo hrow hR hw => ?_
  obtain ⟨a0, a1, rfl, h⟩ := hR
  exact run_exprX (ed_callX A0 hr (takes_of rfl rfl rfl rfl) (ea_cons (vr 0) (ea_cons (vr 1) ea_nil)) h fun σ H1 R1 cls d H2 xo => hw σ H1 _ _ R1 cls d H2 (xo.down fun a h => List.mem_append_left _ h))
theorem fx_full_rings (F : FnP K "full_rings" s_full_rings f fd) (A0 : FdX P w K mg base k "need_small" ["mask", "letters"] X_small) : FnOk P w K mg base (L2.CX P w) (k + 1) f fd ["mask", "letters"] (spX K X_full_rings) := by
  have sc : FnScope ["mask", "letters"] ["mask", "letters"] (defScope s_full_rings) := ⟨rfl, rfl, rfl, by decide +kernel, rfl, by decide +kernel, by decide +kernel⟩
  refine fd_exc F sc _ (fun ds x fo ⟨_, _, e, _⟩ => by rw [e]; rfl) fun cdv A outer s H E hr W ds x fo hrow hR hw => ?_
  obtain ⟨a0, a1, rfl, h⟩ := hR
  exact run_exprX (ed_callX A0 hr (takes_of rfl rfl rfl rfl) (ea_cons (vr 0) (ea_cons (vr 1) ea_nil)) h fun σ H1 R1 cls d H2 xo => hw σ H1 _ _ R1 cls d H2 (xo.down fun a h => List.mem_append_left _ h))
theorem fx_longest_ring (F : FnP K "longest_ring" s_longest_ring f fd) (A0 : FdX P w K mg base k "need_small" ["mask", "letters"] X_small) : FnOk P w K mg base (L2.CX P w) (k + 1) f fd ["mask", "letters"] (spX K X_longest_ring) := by
  have sc : FnScope ["mask", "letters", "length", "found"] ["mask", "letters"] (defScope s_longest_ring) := ⟨rfl, rfl, rfl, by decide +kernel, rfl, by decide +kernel, by decide +kernel⟩
  refine fd_exc F sc _ (fun ds x fo ⟨_, _, e, _⟩ => by rw [e]; rfl) fun cdv A outer s H E hr W ds x fo hrow hR hw => ?_
  obtain ⟨a0, a1, rfl, h⟩ := hR
  exact run_exprX (ed_callX A0 hr (takes_of rfl rfl rfl rfl) (ea_cons (vr 0) (ea_cons (vr 1) ea_nil)) h fun σ H1 R1 cls d H2 xo => hw σ H1 _ _ R1 cls d H2 (xo.down fun a h => List.mem_append_left _ h))
theorem fd_is_view_t (F : FnP K "is_view" s_is_view f fd) (G : Gs mg) (gL : gLETTERS mg) (gO : gOPEN mg) (F1 : Fd P w K mg base k "seen_by" ["mask"] (spR K R_seen_by)) : FnOk P w K mg base CX0 (k + 1) f fd ["mask", "value"] (spR K R_is_view_t) := by
  have sc : FnScope ["mask", "value", "sign"] ["mask", "value"] (defScope s_is_view) := ⟨rfl, rfl, rfl, by decide +kernel, rfl, by decide +kernel, by decide +kernel⟩
  refine fd_pure F sc _ (fun ds d ⟨m, t, e, _⟩ => by rw [e]; rfl) fun cdv A outer s H E hr W ds d hrow hR => ?_
  obtain ⟨m, t, rfl, hm, ht, rfl⟩ := hR
  have h3 := seenL_len m
  have el : lookB m t = (decide (t.length = (seenL m).length) && t.all fun c => decide (c ∈ [97, 98, 99, 100, 63])) := rfl
  refine run_if (k := !decide (t.length = (seenL m).length)) ((t_or (t_not (et_val (ed_isi (T := "str") (vr 1) G.isinstance G.str (by decide +kernel)))) fun _ => tc (lenS G (vr 1)) (lenL G (ed_call F1 hr (ea_cons (vr 0) ea_nil) ⟨m, rfl, by omega, rfl⟩)) c_neI).to ?_) (fun q => ?_) (fun q => run_skip ?_)
  · rw [List.length_map]
    by_cases h : t.length = (seenL m).length
    · simp [h]
    · have h' : ¬ ((t.length : Int) = ((seenL m).length : Int)) := fun z => h (by omega)
      simp [h, h']
  · refine run_ret (d := .bool false) ed_bl ?_
    rw [el]
    rw [Bool.not_eq_true'] at q
    rw [q]
    rfl
  · rw [Bool.not_eq_false'] at q
    refine run_ret (ed_callB G.all boot_all (ea_cons (lcN0 2 (it_str (vr 1)) (by omega) (fun c => .bool (decide (c ∈ [97, 98, 99, 100, 63]))) (fun c hc W1 l s H C cl fp => ed_cmp (vr 2) (ed_op (ed_gS [97, 98, 99, 100] gL) (ed_gS [63] gO) (o_adds (by decide))) c_inS) sc.nd |>.ed sc.nd) ea_nil) (c_all (bs := t.map fun c => decide (c ∈ [97, 98, 99, 100, 63])) rfl |> fun z => by rw [List.map_map] at z; exact z)) ?_
    rw [List.all_map, el, q]
    rfl
theorem fd_is_view_o (F : FnP K "is_view" s_is_view f fd) (G : Gs mg) : FnOk P w K mg base CX0 (k + 1) f fd ["mask", "value"] (spR K R_is_view_o) := by
  have sc : FnScope ["mask", "value", "sign"] ["mask", "value"] (defScope s_is_view) := ⟨rfl, rfl, rfl, by decide +kernel, rfl, by decide +kernel, by decide +kernel⟩
  refine fd_pure F sc _ (fun ds d ⟨m, v, e, _⟩ => by rw [e]; rfl) fun cdv A outer s H E hr W ds d hrow hR => ?_
  obtain ⟨m, v, rfl, ho, rfl⟩ := hR
  exact run_if (k := true) (t_or (k := true) (l := false) (t_not (k := false) (et_val (ed_isiS ho (vr 1) G.isinstance G.str))) (fun q => nomatch q)) (fun _ => run_ret (d := .bool false) ed_bl rfl) (fun q => nomatch q)
theorem fx_need_views (F : FnP K "need_views" s_need_views f fd) (G : Gs mg) (FT : Fd P w K mg base (k + 1) "is_view" ["mask", "value"] (spR K R_is_view_t)) (FO : Fd P w K mg base (k + 1) "is_view" ["mask", "value"] (spR K R_is_view_o)) (E1 : Ex1 P w K mg base k "BadViews" "index") : FnOk P w K mg base (L2.CX P w) (k + 2) f fd ["mask", "views", "most"] (spX K X_need_views) := by
  have sc : FnScope ["mask", "views", "most", "index", "view"] ["mask", "views", "most"] (defScope s_need_views) := ⟨rfl, rfl, rfl, by decide +kernel, rfl, by decide +kernel, by decide +kernel⟩
  refine fd_exc F sc _ (fun ds x fo ⟨_, _, _, e, _⟩ => by rw [e]; rfl) fun cdv A outer s H E hr W ds x fo hrow hR hw => ?_
  obtain ⟨m, v, most, rfl, hm, hmo, rfl, h⟩ := hR
  have hml := maskB_len hm
  rcases h with ⟨hv, rfl⟩ | ⟨t, xs, i, rfl, h1, h2, ⟨⟨z, hz, hzl⟩, hb⟩, rfl⟩
  · rcases hv with ho | ⟨t, xs, rfl, hn⟩
    · refine run_if (k := true) (t_or (k := true) (l := false) (t_not (k := false) (et_val (ed_isQ ho (vr 1) G.isinstance G.list G.tuple))) fun q => nomatch q) (fun _ => ?_) (fun q => nomatch q)
      exact run_raise1 E1 hr (takes_of rfl rfl rfl rfl) ed_non fun σ H1 R1 cls d H' xo => hw σ H1 _ _ R1 cls d H' xo
    · refine run_if (k := true) ((t_or (t_not (k := true) (et_val (ed_isLT (vr 1) G.isinstance G.list G.tuple))) fun _ => t_not (tc_chain ed_int (lenSq G (vr 1)) (fun _ => vr 2) c_le c_le)).to ?hc) (fun _ => ?_) (fun q => nomatch q)
      case hc =>
        have e1 : (decide ((1 : Int) ≤ (xs.length : Int)) && decide ((xs.length : Int) ≤ (most : Int))) = false := by
          by_cases g1 : 1 ≤ xs.length
          · have g2 : ¬ (xs.length : Int) ≤ (most : Int) := fun q => hn ⟨g1, by omega⟩
            rw [decide_eq_false g2, Bool.and_false]
          · have g2 : ¬ (1 : Int) ≤ (xs.length : Int) := by omega
            rw [decide_eq_false g2, Bool.false_and]
        rw [e1]
        rfl
      exact run_raise1 E1 hr (takes_of rfl rfl rfl rfl) ed_non fun σ H1 R1 cls d H' xo => hw σ H1 _ _ R1 cls d H' xo
  refine run_if (k := false) ((t_or (t_not (k := true) (et_val (ed_isLT (vr 1) G.isinstance G.list G.tuple))) fun _ => t_not (tc_chain ed_int (lenSq G (vr 1)) (fun _ => vr 2) c_le c_le)).to ?hc) (fun e => nomatch e) (fun _ => run_skip ?_)
  case hc =>
    have e1 : (decide ((1 : Int) ≤ (xs.length : Int)) && decide ((xs.length : Int) ≤ (most : Int))) = true := by
      rw [Bool.and_eq_true]
      exact ⟨decide_eq_true (by omega), decide_eq_true (by omega)⟩
    rw [e1]
    rfl
  refine run_ok fun ok => ?_
  refine run_for2P (hp := passes_of rfl) (e1 := fun q : Nat × PyData => nn q.1) (e2 := fun q : Nat × PyData => q.2) 3 4 (it_enumN (xs := xs) (enc := fun y => y) (vr 1) G.enumerate (by rw [List.map_id']; exact seqD_items)) (fun _ => [.d (sD m), .no, .no, .no, .no]) (fun _ => []) (fun j => j ≤ i) (Nat.zero_le _) (fun W1 lw j q hq hj => ?_) (fun hj => ?_) sc.nd
  · rw [List.getElem?_mapIdx] at hq
    obtain ⟨y, hy, rfl⟩ := Option.map_eq_some_iff.mp hq
    by_cases e : j = i
    · subst e
      rw [hz] at hy
      cases hy
      rcases hzl with ho | ⟨u, rfl, hu, hbu⟩
      · refine run_if (k := true) (t_not (k := false) (et_val (ed_call FO hr (ea_cons (vr 0) (ea_cons (vr 4) ea_nil)) ⟨_, _, rfl, ho, rfl⟩))) (fun _ => ?_) (fun q => nomatch q)
        exact run_raise1 E1 hr (takes_of rfl rfl rfl rfl) (vr 3) fun σ H1 R1 cls d H' xo => hw σ H1 _ _ (R1.wdown lw ok) cls d H' (xo.down lw.m)
      · refine run_if (k := true) (t_not (k := false) (et_val (ed_call FT hr (ea_cons (vr 0) (ea_cons (vr 4) ea_nil)) ⟨m, u, rfl, by omega, hu, by rw [hbu]⟩))) (fun _ => ?_) (fun q => nomatch q)
        exact run_raise1 E1 hr (takes_of rfl rfl rfl rfl) (vr 3) fun σ H1 R1 cls d H' xo => hw σ H1 _ _ (R1.wdown lw ok) cls d H' (xo.down lw.m)
    · obtain ⟨u, hu, hlu⟩ := hb j (by omega)
      rw [hy] at hu
      cases hu
      have htl := (lookB_iff.mp hlu).1
      have hsl := seenL_len m
      refine run_if (k := false) (t_not (k := true) (et_val (ed_call FT hr (ea_cons (vr 0) (ea_cons (vr 4) ea_nil)) ⟨m, u, rfl, by omega, by omega, by rw [hlu]⟩))) (fun e => nomatch e) (fun _ => run_skip (run_eP (by omega)))
  · have := (List.getElem?_eq_some_iff.mp hz).1
    rw [List.length_mapIdx] at hj
    omega
theorem fx_joined (F : FnP K "joined" s_joined f fd) (A0 : FdX P w K mg base k "need_mask" ["mask"] X_mask) (A1 : Fd P w K mg base k "need_mask" ["mask"] (spR K R_need_mask)) (gk_MOST_ROW : gMOST_ROW mg) (A3 : FdX P w K mg base k "need_views" ["mask", "views", "most"] X_need_views) : FnOk P w K mg base (L2.CX P w) (k + 1) f fd ["mask", "views"] (spX K X_joined) := by
  have sc : FnScope ["mask", "views", "found", "clash"] ["mask", "views"] (defScope s_joined) := ⟨rfl, rfl, rfl, by decide +kernel, rfl, by decide +kernel, by decide +kernel⟩
  refine fd_exc F sc _ (fun ds x fo ⟨_, _, e, _⟩ => by rw [e]; rfl) fun cdv A outer s H E hr W ds x fo hrow hR hw => ?_
  obtain ⟨a0, a1, rfl, h⟩ := hR
  rcases h with h | ⟨g, h⟩
  · exact run_exprX (ed_callX A0 hr (takes_of rfl rfl rfl rfl) (ea_cons (vr 0) ea_nil) h fun σ H1 R1 cls d H2 xo => hw σ H1 _ _ R1 cls d H2 (xo.down fun a h => List.mem_append_left _ h))
  refine run_expr (ed_call A1 hr (ea_cons (vr 0) ea_nil) g) ?_
  exact run_exprX (ed_callX A3 hr (takes_of rfl rfl rfl rfl) (ea_cons (vr 0) (ea_cons (vr 1) (ea_cons (ed_gint gk_MOST_ROW) ea_nil))) h fun σ H1 R1 cls d H2 xo => hw σ H1 _ _ R1 cls d H2 (xo.down fun a h => List.mem_append_left _ h))
theorem fx_first_clash (F : FnP K "first_clash" s_first_clash f fd) (A0 : FdX P w K mg base k "need_mask" ["mask"] X_mask) (A1 : Fd P w K mg base k "need_mask" ["mask"] (spR K R_need_mask)) (gk_MOST_ROW : gMOST_ROW mg) (A3 : FdX P w K mg base k "need_views" ["mask", "views", "most"] X_need_views) : FnOk P w K mg base (L2.CX P w) (k + 1) f fd ["mask", "views"] (spX K X_first_clash) := by
  have sc : FnScope ["mask", "views"] ["mask", "views"] (defScope s_first_clash) := ⟨rfl, rfl, rfl, by decide +kernel, rfl, by decide +kernel, by decide +kernel⟩
  refine fd_exc F sc _ (fun ds x fo ⟨_, _, e, _⟩ => by rw [e]; rfl) fun cdv A outer s H E hr W ds x fo hrow hR hw => ?_
  obtain ⟨a0, a1, rfl, h⟩ := hR
  rcases h with h | ⟨g, h⟩
  · exact run_exprX (ed_callX A0 hr (takes_of rfl rfl rfl rfl) (ea_cons (vr 0) ea_nil) h fun σ H1 R1 cls d H2 xo => hw σ H1 _ _ R1 cls d H2 (xo.down fun a h => List.mem_append_left _ h))
  refine run_expr (ed_call A1 hr (ea_cons (vr 0) ea_nil) g) ?_
  exact run_exprX (ed_callX A3 hr (takes_of rfl rfl rfl rfl) (ea_cons (vr 0) (ea_cons (vr 1) (ea_cons (ed_gint gk_MOST_ROW) ea_nil))) h fun σ H1 R1 cls d H2 xo => hw σ H1 _ _ R1 cls d H2 (xo.down fun a h => List.mem_append_left _ h))
theorem fd_is_view (F : FnP K "is_view" s_is_view f fd) (G : Gs mg) (gL : gLETTERS mg) (gO : gOPEN mg) (F1 : Fd P w K mg base k "seen_by" ["mask"] (spR K R_seen_by)) : FnOk P w K mg base CX0 (k + 1) f fd ["mask", "value"] (spR K R_is_view) := by
  have sc : FnScope ["mask", "value", "sign"] ["mask", "value"] (defScope s_is_view) := ⟨rfl, rfl, rfl, by decide +kernel, rfl, by decide +kernel, by decide +kernel⟩
  refine fd_pure F sc _ (fun ds d ⟨m, t, e, _⟩ => by rw [e]; rfl) fun cdv A outer s H E hr W ds d hrow hR => ?_
  obtain ⟨m, t, rfl, hm, ht, rfl⟩ := hR
  unfold lookB at ht
  rw [Bool.and_eq_true, decide_eq_true_iff] at ht
  obtain ⟨h1, h2⟩ := ht
  have h3 := seenL_len m
  refine run_if (k := false) ((t_or (t_not (et_val (ed_isi (T := "str") (vr 1) G.isinstance G.str (by decide +kernel)))) fun _ => tc (lenS G (vr 1)) (lenL G (ed_call F1 hr (ea_cons (vr 0) ea_nil) ⟨m, rfl, by omega, rfl⟩)) c_neI).to ?_) (fun q => nomatch q) (fun _ => run_skip ?_)
  · rw [List.length_map, h1]
    simp
  · refine run_ret (ed_callB G.all boot_all (ea_cons (lcN0 2 (it_str (vr 1)) (by omega) (fun c => .bool (decide (c ∈ [97, 98, 99, 100, 63]))) (fun c hc W1 l s H C cl fp => ed_cmp (vr 2) (ed_op (ed_gS [97, 98, 99, 100] gL) (ed_gS [63] gO) (o_adds (by decide))) c_inS) sc.nd |>.ed sc.nd) ea_nil) (c_all (bs := t.map fun c => decide (c ∈ [97, 98, 99, 100, 63])) rfl |> fun z => by rw [List.map_map] at z; exact z)) ?_
    rw [List.all_map]
    exact congrArg PyData.bool h2
theorem fd_need_views (F : FnP K "need_views" s_need_views f fd) (G : Gs mg) (F1 : Fd P w K mg base k "is_view" ["mask", "value"] (spR K R_is_view)) : FnOk P w K mg base CX0 (k + 1) f fd ["mask", "views", "most"] (spR K R_need_views) := by
  have sc : FnScope ["mask", "views", "most", "index", "view"] ["mask", "views", "most"] (defScope s_need_views) := ⟨rfl, rfl, rfl, by decide +kernel, rfl, by decide +kernel, by decide +kernel⟩
  refine fd_pure F sc _ (fun ds d ⟨m, t, vs, q, e, _⟩ => by rw [e]; rfl) fun cdv A outer s H E hr W ds d hrow hR => ?_
  obtain ⟨m, t, vs, q, rfl, h1, h2, h3, h4, h5, rfl⟩ := hR
  refine run_if (k := false) ((t_or (t_not (k := true) (et_val (ed_isLT (vr 1) G.isinstance G.list G.tuple))) fun _ => t_not (tc_chain ed_int (lenSq G (vr 1)) (fun _ => vr 2) c_le c_le)).to ?hc) (fun e => nomatch e) (fun _ => run_skip ?_)
  case hc =>
    have e1 : (decide ((1 : Int) ≤ ((vs.map sD).length : Int)) && decide (((vs.map sD).length : Int) ≤ (q : Int))) = true := by
      rw [List.length_map, Bool.and_eq_true]
      exact ⟨decide_eq_true (by omega), decide_eq_true (by omega)⟩
    rw [e1]
    rfl
  refine run_for2S (e1 := fun q : Nat × List Nat => nn q.1) (e2 := fun q : Nat × List Nat => sD q.2) 3 4 (it_enumN (xs := vs) (enc := sD) (vr 1) G.enumerate seqD_items) (fun _ => [.d (sD m), .no, .no, .no, .no]) (fun _ => []) (fun W1 lw i q hq => ?_) ?_ sc.nd
  · rw [List.getElem?_mapIdx] at hq
    obtain ⟨v, hv, rfl⟩ := Option.map_eq_some_iff.mp hq
    refine run_if (k := false) (t_not (k := true) (et_val (ed_call F1 hr (ea_cons (vr 0) (ea_cons (vr 4) ea_nil)) ⟨m, v, rfl, h1, h5 v (List.mem_of_getElem? hv), rfl⟩))) (fun e => nomatch e) (fun _ => run_skip run_e)
  · exact run_end rfl
theorem fx_rows_from (F : FnP K "rows_from" s_rows_from f fd) (A0 : FdX P w K mg base (k + 1) "need_mask" ["mask"] X_mask) (A1 : Fd P w K mg base (k + 1) "need_mask" ["mask"] (spR K R_need_mask)) (gk_MOST_ROW : gMOST_ROW mg) (A3 : FdX P w K mg base (k + 1) "need_views" ["mask", "views", "most"] X_need_views) (A4 : Fd P w K mg base (k + 1) "need_views" ["mask", "views", "most"] (spR K R_need_views)) (G : Gs mg) (gk_MOST_VIEWS : gMOST_VIEWS mg) (A7 : Ex1 P w K mg base k "TooMany" "most") : FnOk P w K mg base (L2.CX P w) (k + 2) f fd ["mask", "views"] (spX K X_rows_from) := by
  have sc : FnScope ["mask", "views"] ["mask", "views"] (defScope s_rows_from) := ⟨rfl, rfl, rfl, by decide +kernel, rfl, by decide +kernel, by decide +kernel⟩
  refine fd_exc F sc _ (fun ds x fo ⟨_, _, e, _⟩ => by rw [e]; rfl) fun cdv A outer s H E hr W ds x fo hrow hR hw => ?_
  obtain ⟨a0, a1, rfl, h⟩ := hR
  rcases h with h | ⟨g, h⟩
  · exact run_exprX (ed_callX A0 hr (takes_of rfl rfl rfl rfl) (ea_cons (vr 0) ea_nil) h fun σ H1 R1 cls d H2 xo => hw σ H1 _ _ R1 cls d H2 (xo.down fun a h => List.mem_append_left _ h))
  refine run_expr (ed_call A1 hr (ea_cons (vr 0) ea_nil) g) ?_
  rcases h with h | ⟨g, h⟩
  · exact run_exprX (ed_callX A3 hr (takes_of rfl rfl rfl rfl) (ea_cons (vr 0) (ea_cons (vr 1) (ea_cons (ed_gint gk_MOST_ROW) ea_nil))) h fun σ H1 R1 cls d H2 xo => hw σ H1 _ _ R1 cls d H2 (xo.down fun a h => List.mem_append_left _ h))
  refine run_expr (ed_call A4 hr (ea_cons (vr 0) (ea_cons (vr 1) (ea_cons (ed_gint gk_MOST_ROW) ea_nil))) g) ?_
  obtain ⟨t, xs, rfl, h7, rfl, rfl⟩ := h
  refine run_if (k := true) (tc (lenSq G (vr 1)) (ed_gint gk_MOST_VIEWS) c_gt |>.to (decide_eq_true (by omega))) (fun _ => ?_) (fun q => nomatch q)
  exact run_raise1 A7 hr (takes_of rfl rfl rfl rfl) (ed_gint gk_MOST_VIEWS) fun σ H1 R1 cls d H' xo => hw σ H1 _ _ R1 cls d H' xo
theorem fx_sure_from (F : FnP K "sure_from" s_sure_from f fd) (A0 : FdX P w K mg base (k + 1) "need_mask" ["mask"] X_mask) (A1 : Fd P w K mg base (k + 1) "need_mask" ["mask"] (spR K R_need_mask)) (gk_MOST_ROW : gMOST_ROW mg) (A3 : FdX P w K mg base (k + 1) "need_views" ["mask", "views", "most"] X_need_views) (A4 : Fd P w K mg base (k + 1) "need_views" ["mask", "views", "most"] (spR K R_need_views)) (G : Gs mg) (gk_MOST_VIEWS : gMOST_VIEWS mg) (A7 : Ex1 P w K mg base k "TooMany" "most") : FnOk P w K mg base (L2.CX P w) (k + 2) f fd ["mask", "views"] (spX K X_sure_from) := by
  have sc : FnScope ["mask", "views", "rows", "found", "at", "row"] ["mask", "views"] (defScope s_sure_from) := ⟨rfl, rfl, rfl, by decide +kernel, rfl, by decide +kernel, by decide +kernel⟩
  refine fd_exc F sc _ (fun ds x fo ⟨_, _, e, _⟩ => by rw [e]; rfl) fun cdv A outer s H E hr W ds x fo hrow hR hw => ?_
  obtain ⟨a0, a1, rfl, h⟩ := hR
  rcases h with h | ⟨g, h⟩
  · exact run_exprX (ed_callX A0 hr (takes_of rfl rfl rfl rfl) (ea_cons (vr 0) ea_nil) h fun σ H1 R1 cls d H2 xo => hw σ H1 _ _ R1 cls d H2 (xo.down fun a h => List.mem_append_left _ h))
  refine run_expr (ed_call A1 hr (ea_cons (vr 0) ea_nil) g) ?_
  rcases h with h | ⟨g, h⟩
  · exact run_exprX (ed_callX A3 hr (takes_of rfl rfl rfl rfl) (ea_cons (vr 0) (ea_cons (vr 1) (ea_cons (ed_gint gk_MOST_ROW) ea_nil))) h fun σ H1 R1 cls d H2 xo => hw σ H1 _ _ R1 cls d H2 (xo.down fun a h => List.mem_append_left _ h))
  refine run_expr (ed_call A4 hr (ea_cons (vr 0) (ea_cons (vr 1) (ea_cons (ed_gint gk_MOST_ROW) ea_nil))) g) ?_
  obtain ⟨t, xs, rfl, h7, rfl, rfl⟩ := h
  refine run_if (k := true) (tc (lenSq G (vr 1)) (ed_gint gk_MOST_VIEWS) c_gt |>.to (decide_eq_true (by omega))) (fun _ => ?_) (fun q => nomatch q)
  exact run_raise1 A7 hr (takes_of rfl rfl rfl rfl) (ed_gint gk_MOST_VIEWS) fun σ H1 R1 cls d H' xo => hw σ H1 _ _ R1 cls d H' xo
theorem fx_together1 (F : FnP K "together" s_together f fd) (A0 : FdX P w K mg base k "need_mask" ["mask"] X_mask) : FnOk P w K mg base (L2.CX P w) (k + 1) f fd ["one", "other", "far"] (spX K X_together1) := by
  have sc : FnScope ["one", "other", "far", "places", "at"] ["one", "other", "far"] (defScope s_together) := ⟨rfl, rfl, rfl, by decide +kernel, rfl, by decide +kernel, by decide +kernel⟩
  refine fd_exc F sc _ (fun ds x fo ⟨_, _, _, e, _⟩ => by rw [e]; rfl) fun cdv A outer s H E hr W ds x fo hrow hR hw => ?_
  obtain ⟨a0, a1, a2, rfl, h⟩ := hR
  exact run_exprX (ed_callX A0 hr (takes_of rfl rfl rfl rfl) (ea_cons (vr 0) ea_nil) h fun σ H1 R1 cls d H2 xo => hw σ H1 _ _ R1 cls d H2 (xo.down fun a h => List.mem_append_left _ h))
theorem fd_need_small (F : FnP K "need_small" s_need_small f fd) (G : Gs mg) (gW : gWID K mg) (gS : gSEE K mg) (F1 : Fd P w K mg base k "need_mask" ["mask"] (spR K R_need_mask)) (F2 : Fd P w K mg base k "need_letters" ["letters"] (spR K R_need_letters)) (F3 : Fd P w K mg base k "seen_by" ["mask"] (spR K R_seen_by)) : FnOk P w K mg base CX0 (k + 1) f fd ["mask", "letters"] (spR K R_need_small) := by
  have sc : FnScope ["mask", "letters"] ["mask", "letters"] (defScope s_need_small) := ⟨rfl, rfl, rfl, by decide +kernel, rfl, by decide +kernel, by decide +kernel⟩
  refine fd_pure F sc _ (fun ds d ⟨m, n, e, _⟩ => by rw [e]; rfl) fun cdv A outer s H E hr W ds d hrow hR => ?_
  obtain ⟨m, n, rfl, hs, rfl⟩ := hR
  have hm := maskB_len hs.mask
  have lo := hs.lo
  have hi := hs.hi
  have h1 := hs.wide
  have h2 := hs.seen
  have ix : ∀ a b c d : Nat, ([(a : Int), b, c, d].map PyData.int)[n - 1]? = some (nn ([a, b, c, d].getD (n - 1) 0)) := fun a b c d => by
    match n, lo, hi with
    | 1, _, _ => rfl
    | 2, _, _ => rfl
    | 3, _, _ => rfl
    | 4, _, _ => rfl
  refine run_expr (ed_call F1 hr (ea_cons (vr 0) ea_nil) ⟨m, rfl, hs.mask, rfl⟩) (run_expr (ed_call F2 hr (ea_cons (vr 1) ea_nil) ⟨n, rfl, lo, hi, rfl⟩) ?_)
  refine run_if (k := false) (t_or (k := false) (l := false) (tc (ed_callB G.len boot_len (ea_cons (vr 0) ea_nil) (c_lenS (by omega))) (ed_ix (ed_gtup gW) (ed_op (vr 1) ed_int o_sub) (i_tup (n := n - 1) (ix 12 8 5 4) (by omega))) c_gt |>.to ?_) fun _ => tc (ed_callB G.len boot_len (ea_cons (ed_call F3 hr (ea_cons (vr 0) ea_nil) ⟨m, rfl, by omega, rfl⟩) ea_nil) c_lenL) (ed_ix (ed_gtup gS) (ed_op (vr 1) ed_int o_sub) (i_tup (n := n - 1) (ix 12 4 2 1) (by omega))) c_gt |>.to ?_) (fun q => nomatch q) (fun _ => run_skip (run_end rfl))
  · exact decide_eq_false (by omega)
  · rw [List.length_map]
    exact decide_eq_false (by omega)
theorem fx_count_rows (F : FnP K "count_rows" s_count_rows f fd) (A0 : FdX P w K mg base (k + 1) "need_small" ["mask", "letters"] X_small) (A1 : Fd P w K mg base (k + 1) "need_small" ["mask", "letters"] (spR K R_need_small)) (gk_MOST_ROW : gMOST_ROW mg) (A3 : Ex1 P w K mg base k "BadNumber" "n") (A4 : Fd P w K mg base (k + 1) "is_from" ["value", "low", "high"] (spR K R_is_from_a)) : FnOk P w K mg base (L2.CX P w) (k + 2) f fd ["mask", "letters", "length"] (spX K X_count_rows) := by
  have sc : FnScope ["mask", "letters", "length", "told"] ["mask", "letters", "length"] (defScope s_count_rows) := ⟨rfl, rfl, rfl, by decide +kernel, rfl, by decide +kernel, by decide +kernel⟩
  refine fd_exc F sc _ (fun ds x fo ⟨_, _, _, e, _⟩ => by rw [e]; rfl) fun cdv A outer s H E hr W ds x fo hrow hR hw => ?_
  obtain ⟨a0, a1, a2, rfl, h⟩ := hR
  rcases h with h | ⟨g, h⟩
  · exact run_exprX (ed_callX A0 hr (takes_of rfl rfl rfl rfl) (ea_cons (vr 0) (ea_cons (vr 1) ea_nil)) h fun σ H1 R1 cls d H2 xo => hw σ H1 _ _ R1 cls d H2 (xo.down fun a h => List.mem_append_left _ h))
  refine run_expr (ed_call A1 hr (ea_cons (vr 0) (ea_cons (vr 1) ea_nil)) g) ?_
  obtain ⟨hn, rfl, rfl⟩ := h
  refine run_if (k := true) (t_not (k := false) (et_val (ed_call A4 hr (ea_cons (vr 2) (ea_cons ed_int (ea_cons (ed_gint gk_MOST_ROW) ea_nil))) ⟨_, 0, 60, rfl, hn, rfl⟩))) (fun _ => ?_) (fun q => nomatch q)
  exact run_raise1 A3 hr (takes_of rfl rfl rfl rfl) (vr 2) fun σ H1 R1 cls d H2 xo => hw σ H1 _ _ R1 cls d H2 xo
theorem fd_is_row_t (F : FnP K "is_row" s_is_row f fd) (G : Gs mg) (gL : gLETTERS mg) (gR : gMOST_ROW mg) : FnOk P w K mg base CX0 (k + 1) f fd ["value"] (spR K R_is_row_t) := by
  have sc : FnScope ["value", "sign"] ["value"] (defScope s_is_row) := ⟨rfl, rfl, rfl, by decide +kernel, rfl, by decide +kernel, by decide +kernel⟩
  refine fd_pure F sc _ (fun ds d ⟨m, e, _⟩ => by rw [e]; rfl) fun cdv A outer s H E hr W ds d hrow hR => ?_
  obtain ⟨l, rfl, hl, rfl⟩ := hR
  refine run_ret (ed_and (k := true) (l := rowB l) (ed_isi (T := "str") (vr 0) G.isinstance G.str (by decide +kernel)) fun _ => ed_and (k := decide (l.length ≤ 60)) (l := l.all fun c => decide (c ∈ [97, 98, 99, 100])) ((ed_cmp (ed_callB G.len boot_len (ea_cons (vr 0) ea_nil) (c_lenS (by omega))) (ed_gint gR) c_le).to ?_) fun _ => ed_one ((ed_callB G.all boot_all (ea_cons (lcN0 1 (it_str (vr 0)) (by omega) (fun c => .bool (decide (c ∈ [97, 98, 99, 100]))) (fun c hc W1 l s H C cl fp => ed_cmp (vr 1) (ed_gS [97, 98, 99, 100] gL) c_inS) sc.nd |>.ed sc.nd) ea_nil) (c_all (bs := l.map fun c => decide (c ∈ [97, 98, 99, 100])) rfl |> fun z => by rw [List.map_map] at z; exact z)).to ?_)) rfl
  · exact congrArg PyData.bool (decide_eq_decide.mpr (by omega))
  · rw [List.all_map]
    rfl
theorem fd_is_row_o (F : FnP K "is_row" s_is_row f fd) (G : Gs mg) : FnOk P w K mg base CX0 (k + 1) f fd ["value"] (spR K R_is_mask_o) := by
  have sc : FnScope ["value", "sign"] ["value"] (defScope s_is_row) := ⟨rfl, rfl, rfl, by decide +kernel, rfl, by decide +kernel, by decide +kernel⟩
  refine fd_pure F sc _ (fun ds d ⟨m, e, _⟩ => by rw [e]; rfl) fun cdv A outer s H E hr W ds d hrow hR => ?_
  obtain ⟨v, rfl, ho, rfl⟩ := hR
  exact run_ret (ed_and (k := false) (l := false) (ed_isiS ho (vr 0) G.isinstance G.str) fun q => nomatch q) rfl
theorem fx_need_row (F : FnP K "need_row" s_need_row f fd) (F1 : Fd P w K mg base (k + 1) "is_row" ["value"] (spR K R_is_row_t)) (F2 : Fd P w K mg base (k + 1) "is_row" ["value"] (spR K R_is_mask_o)) (E1 : Ex0 P w K mg base k "BadRow") : FnOk P w K mg base (L2.CX P w) (k + 2) f fd ["row"] (spX K X_row) := by
  have sc : FnScope ["row"] ["row"] (defScope s_need_row) := ⟨rfl, rfl, rfl, by decide +kernel, rfl, by decide +kernel, by decide +kernel⟩
  refine fd_exc F sc _ (fun ds x fo ⟨m, e, _⟩ => by rw [e]; rfl) fun cdv A outer s H E hr W ds x fo hrow hR hw => ?_
  obtain ⟨v, rfl, hv, rfl, rfl⟩ := hR
  rcases hv with ho | ⟨m, rfl, h1, h2⟩
  · exact run_if (k := true) (t_not (k := false) (et_val (ed_call F2 hr (ea_cons (vr 0) ea_nil) ⟨_, rfl, ho, rfl⟩))) (fun _ => run_raise0 E1 hr (takes_of rfl rfl rfl rfl) fun σ H1 R1 cls d H' xo => hw σ H1 _ _ R1 cls d H' xo) (fun q => nomatch q)
  · exact run_if (k := true) (t_not (k := false) (et_val (ed_call F1 hr (ea_cons (vr 0) ea_nil) ⟨m, rfl, h1, by rw [h2]⟩))) (fun _ => run_raise0 E1 hr (takes_of rfl rfl rfl rfl) fun σ H1 R1 cls d H' xo => hw σ H1 _ _ R1 cls d H' xo) (fun q => nomatch q)
theorem fx_write (F : FnP K "write" s_write f fd) (A0 : FdX P w K mg base k "need_mask" ["mask"] X_mask) (A1 : Fd P w K mg base k "need_mask" ["mask"] (spR K R_need_mask)) (A2 : FdX P w K mg base k "need_row" ["row"] X_row) : FnOk P w K mg base (L2.CX P w) (k + 1) f fd ["mask", "row"] (spX K X_write) := by
  have sc : FnScope ["mask", "row"] ["mask", "row"] (defScope s_write) := ⟨rfl, rfl, rfl, by decide +kernel, rfl, by decide +kernel, by decide +kernel⟩
  refine fd_exc F sc _ (fun ds x fo ⟨_, _, e, _⟩ => by rw [e]; rfl) fun cdv A outer s H E hr W ds x fo hrow hR hw => ?_
  obtain ⟨a0, a1, rfl, h⟩ := hR
  rcases h with h | ⟨g, h⟩
  · exact run_exprX (ed_callX A0 hr (takes_of rfl rfl rfl rfl) (ea_cons (vr 0) ea_nil) h fun σ H1 R1 cls d H2 xo => hw σ H1 _ _ R1 cls d H2 (xo.down fun a h => List.mem_append_left _ h))
  refine run_expr (ed_call A1 hr (ea_cons (vr 0) ea_nil) g) ?_
  exact run_exprX (ed_callX A2 hr (takes_of rfl rfl rfl rfl) (ea_cons (vr 1) ea_nil) h fun σ H1 R1 cls d H2 xo => hw σ H1 _ _ R1 cls d H2 (xo.down fun a h => List.mem_append_left _ h))
theorem fd_is_row (F : FnP K "is_row" s_is_row f fd) (G : Gs mg) (gL : gLETTERS mg) (gR : gMOST_ROW mg) : FnOk P w K mg base CX0 (k + 1) f fd ["value"] (spR K R_is_row) := by
  have sc : FnScope ["value", "sign"] ["value"] (defScope s_is_row) := ⟨rfl, rfl, rfl, by decide +kernel, rfl, by decide +kernel, by decide +kernel⟩
  refine fd_pure F sc _ (fun ds d ⟨m, e, _⟩ => by rw [e]; rfl) fun cdv A outer s H E hr W ds d hrow hR => ?_
  obtain ⟨l, rfl, hm, rfl⟩ := hR
  unfold rowB at hm
  simp only [Bool.and_eq_true, decide_eq_true_eq] at hm
  obtain ⟨h1, h2⟩ := hm
  refine run_ret (ed_and (k := true) (l := true) (ed_isi (T := "str") (vr 0) G.isinstance G.str (by decide +kernel)) fun _ => ed_and (k := true) (l := true) ((ed_cmp (ed_callB G.len boot_len (ea_cons (vr 0) ea_nil) (c_lenS (by omega))) (ed_gint gR) c_le).to ?_) fun _ => ed_one ((ed_callB G.all boot_all (ea_cons (lcN0 1 (it_str (vr 0)) (by omega) (fun c => .bool (decide (c ∈ [97, 98, 99, 100]))) (fun c hc W1 l s H C cl fp => ed_cmp (vr 1) (ed_gS [97, 98, 99, 100] gL) c_inS) sc.nd |>.ed sc.nd) ea_nil) (c_all (bs := l.map fun c => decide (c ∈ [97, 98, 99, 100])) rfl |> fun z => by rw [List.map_map] at z; exact z)).to ?_)) rfl
  · exact congrArg PyData.bool (decide_eq_true (by omega))
  · rw [List.all_map]
    exact congrArg PyData.bool h2
theorem fd_need_row (F : FnP K "need_row" s_need_row f fd) (F1 : Fd P w K mg base k "is_row" ["value"] (spR K R_is_row)) : FnOk P w K mg base CX0 (k + 1) f fd ["row"] (spR K R_need_row) := by
  have sc : FnScope ["row"] ["row"] (defScope s_need_row) := ⟨rfl, rfl, rfl, by decide +kernel, rfl, by decide +kernel, by decide +kernel⟩
  refine fd_pure F sc _ (fun ds d ⟨m, e, _⟩ => by rw [e]; rfl) fun cdv A outer s H E hr W ds d hrow hR => ?_
  obtain ⟨m, rfl, hm, rfl⟩ := hR
  exact run_if (k := false) (t_not (k := true) (et_val (ed_call F1 hr (ea_cons (vr 0) ea_nil) ⟨m, rfl, hm, rfl⟩))) (fun q => nomatch q) (fun _ => run_skip (run_end rfl))
theorem fx_steps_needed (F : FnP K "steps_needed" s_steps_needed f fd) (A0 : FdX P w K mg base k "need_row" ["row"] X_row) (A1 : Fd P w K mg base k "need_row" ["row"] (spR K R_need_row)) (A2 : FdX P w K mg base k "need_mask" ["mask"] X_mask) : FnOk P w K mg base (L2.CX P w) (k + 1) f fd ["row", "mask"] (spX K X_steps_needed) := by
  have sc : FnScope ["row", "mask", "told", "many", "lots", "place"] ["row", "mask"] (defScope s_steps_needed) := ⟨rfl, rfl, rfl, by decide +kernel, rfl, by decide +kernel, by decide +kernel⟩
  refine fd_exc F sc _ (fun ds x fo ⟨_, _, e, _⟩ => by rw [e]; rfl) fun cdv A outer s H E hr W ds x fo hrow hR hw => ?_
  obtain ⟨a0, a1, rfl, h⟩ := hR
  rcases h with h | ⟨g, h⟩
  · exact run_exprX (ed_callX A0 hr (takes_of rfl rfl rfl rfl) (ea_cons (vr 0) ea_nil) h fun σ H1 R1 cls d H2 xo => hw σ H1 _ _ R1 cls d H2 (xo.down fun a h => List.mem_append_left _ h))
  refine run_expr (ed_call A1 hr (ea_cons (vr 0) ea_nil) g) ?_
  exact run_exprX (ed_callX A2 hr (takes_of rfl rfl rfl rfl) (ea_cons (vr 1) ea_nil) h fun σ H1 R1 cls d H2 xo => hw σ H1 _ _ R1 cls d H2 (xo.down fun a h => List.mem_append_left _ h))
theorem fx_need_ring (F : FnP K "need_ring" s_need_ring f fd) (FX1 : FdX P w K mg base (k + 1) "need_row" ["row"] X_row) (F1 : Fd P w K mg base (k + 1) "need_row" ["row"] (spR K R_need_row)) (E1 : Ex0 P w K mg base k "BadRow") : FnOk P w K mg base (L2.CX P w) (k + 2) f fd ["row"] (spX K X_need_ring) := by
  have sc : FnScope ["row"] ["row"] (defScope s_need_ring) := ⟨rfl, rfl, rfl, by decide +kernel, rfl, by decide +kernel, by decide +kernel⟩
  refine fd_exc F sc _ (fun ds x fo ⟨_, e, _⟩ => by rw [e]; rfl) fun cdv A outer s H E hr W ds x fo hrow hR hw => ?_
  obtain ⟨v, rfl, h | rfl, rfl, rfl⟩ := hR
  · exact run_exprX (ed_callX FX1 hr (takes_of rfl rfl rfl rfl) (ea_cons (vr 0) ea_nil) ⟨v, rfl, h, rfl, rfl⟩ fun σ H1 R1 cls d H2 xo => hw σ H1 _ _ R1 cls d H2 (xo.down fun a h => List.mem_append_left _ h))
  refine run_expr (ed_call F1 hr (ea_cons (vr 0) ea_nil) ⟨[], rfl, rfl, rfl⟩) ?_
  refine run_if (k := true) (tc (vr 0) (ed_S []) (c_eqS (l := []) (m := []))) (fun _ => ?_) (fun q => nomatch q)
  exact run_raise0 E1 hr (takes_of rfl rfl rfl rfl) fun σ H1 R1 cls d H' xo => hw σ H1 _ _ R1 cls d H' xo
theorem fd_need_ring (F : FnP K "need_ring" s_need_ring f fd) (F1 : Fd P w K mg base k "need_row" ["row"] (spR K R_need_row)) : FnOk P w K mg base CX0 (k + 1) f fd ["row"] (spR K R_need_ring) := by
  have sc : FnScope ["row"] ["row"] (defScope s_need_ring) := ⟨rfl, rfl, rfl, by decide +kernel, rfl, by decide +kernel, by decide +kernel⟩
  refine fd_pure F sc _ (fun ds d ⟨m, e, _⟩ => by rw [e]; rfl) fun cdv A outer s H E hr W ds d hrow hR => ?_
  obtain ⟨l, rfl, hm, hl, rfl⟩ := hR
  exact run_expr (ed_call F1 hr (ea_cons (vr 0) ea_nil) ⟨l, rfl, hm, rfl⟩) (run_if (k := false) (tc (vr 0) (ed_S []) (c_eqS (m := [])) |>.to (decide_eq_false hl)) (fun q => nomatch q) (fun _ => run_skip (run_end rfl)))
theorem fx_ring_tells (F : FnP K "ring_tells" s_ring_tells f fd) (A0 : FdX P w K mg base k "need_ring" ["row"] X_need_ring) (A1 : Fd P w K mg base k "need_ring" ["row"] (spR K R_need_ring)) (A2 : FdX P w K mg base k "need_mask" ["mask"] X_mask) : FnOk P w K mg base (L2.CX P w) (k + 1) f fd ["row", "mask"] (spX K X_ring_tells) := by
  have sc : FnScope ["row", "mask", "told"] ["row", "mask"] (defScope s_ring_tells) := ⟨rfl, rfl, rfl, by decide +kernel, rfl, by decide +kernel, by decide +kernel⟩
  refine fd_exc F sc _ (fun ds x fo ⟨_, _, e, _⟩ => by rw [e]; rfl) fun cdv A outer s H E hr W ds x fo hrow hR hw => ?_
  obtain ⟨a0, a1, rfl, h⟩ := hR
  rcases h with h | ⟨g, h⟩
  · exact run_exprX (ed_callX A0 hr (takes_of rfl rfl rfl rfl) (ea_cons (vr 0) ea_nil) h fun σ H1 R1 cls d H2 xo => hw σ H1 _ _ R1 cls d H2 (xo.down fun a h => List.mem_append_left _ h))
  refine run_expr (ed_call A1 hr (ea_cons (vr 0) ea_nil) g) ?_
  exact run_exprX (ed_callX A2 hr (takes_of rfl rfl rfl rfl) (ea_cons (vr 1) ea_nil) h fun σ H1 R1 cls d H2 xo => hw σ H1 _ _ R1 cls d H2 (xo.down fun a h => List.mem_append_left _ h))
theorem fx_ring_views (F : FnP K "ring_views" s_ring_views f fd) (A0 : FdX P w K mg base k "need_ring" ["row"] X_need_ring) (A1 : Fd P w K mg base k "need_ring" ["row"] (spR K R_need_ring)) (A2 : FdX P w K mg base k "need_mask" ["mask"] X_mask) : FnOk P w K mg base (L2.CX P w) (k + 1) f fd ["row", "mask"] (spX K X_ring_views) := by
  have sc : FnScope ["row", "mask"] ["row", "mask"] (defScope s_ring_views) := ⟨rfl, rfl, rfl, by decide +kernel, rfl, by decide +kernel, by decide +kernel⟩
  refine fd_exc F sc _ (fun ds x fo ⟨_, _, e, _⟩ => by rw [e]; rfl) fun cdv A outer s H E hr W ds x fo hrow hR hw => ?_
  obtain ⟨a0, a1, rfl, h⟩ := hR
  rcases h with h | ⟨g, h⟩
  · exact run_exprX (ed_callX A0 hr (takes_of rfl rfl rfl rfl) (ea_cons (vr 0) ea_nil) h fun σ H1 R1 cls d H2 xo => hw σ H1 _ _ R1 cls d H2 (xo.down fun a h => List.mem_append_left _ h))
  refine run_expr (ed_call A1 hr (ea_cons (vr 0) ea_nil) g) ?_
  exact run_exprX (ed_callX A2 hr (takes_of rfl rfl rfl rfl) (ea_cons (vr 1) ea_nil) h fun σ H1 R1 cls d H2 xo => hw σ H1 _ _ R1 cls d H2 (xo.down fun a h => List.mem_append_left _ h))
theorem fx_views (F : FnP K "views" s_views f fd) (A0 : FdX P w K mg base k "need_row" ["row"] X_row) (A1 : Fd P w K mg base k "need_row" ["row"] (spR K R_need_row)) (A2 : FdX P w K mg base k "need_mask" ["mask"] X_mask) : FnOk P w K mg base (L2.CX P w) (k + 1) f fd ["row", "mask"] (spX K X_views) := by
  have sc : FnScope ["row", "mask"] ["row", "mask"] (defScope s_views) := ⟨rfl, rfl, rfl, by decide +kernel, rfl, by decide +kernel, by decide +kernel⟩
  refine fd_exc F sc _ (fun ds x fo ⟨_, _, e, _⟩ => by rw [e]; rfl) fun cdv A outer s H E hr W ds x fo hrow hR hw => ?_
  obtain ⟨a0, a1, rfl, h⟩ := hR
  rcases h with h | ⟨g, h⟩
  · exact run_exprX (ed_callX A0 hr (takes_of rfl rfl rfl rfl) (ea_cons (vr 0) ea_nil) h fun σ H1 R1 cls d H2 xo => hw σ H1 _ _ R1 cls d H2 (xo.down fun a h => List.mem_append_left _ h))
  refine run_expr (ed_call A1 hr (ea_cons (vr 0) ea_nil) g) ?_
  exact run_exprX (ed_callX A2 hr (takes_of rfl rfl rfl rfl) (ea_cons (vr 1) ea_nil) h fun σ H1 R1 cls d H2 xo => hw σ H1 _ _ R1 cls d H2 (xo.down fun a h => List.mem_append_left _ h))
theorem fx_alike (F : FnP K "alike" s_alike f fd) (A0 : FdX P w K mg base k "need_row" ["row"] X_row) (A1 : Fd P w K mg base k "need_row" ["row"] (spR K R_need_row)) (A2 : FdX P w K mg base k "need_mask" ["mask"] X_mask) : FnOk P w K mg base (L2.CX P w) (k + 1) f fd ["row", "mask"] (spX K X_alike) := by
  have sc : FnScope ["row", "mask", "told", "one", "view"] ["row", "mask"] (defScope s_alike) := ⟨rfl, rfl, rfl, by decide +kernel, rfl, by decide +kernel, by decide +kernel⟩
  refine fd_exc F sc _ (fun ds x fo ⟨_, _, e, _⟩ => by rw [e]; rfl) fun cdv A outer s H E hr W ds x fo hrow hR hw => ?_
  obtain ⟨a0, a1, rfl, h⟩ := hR
  rcases h with h | ⟨g, h⟩
  · exact run_exprX (ed_callX A0 hr (takes_of rfl rfl rfl rfl) (ea_cons (vr 0) ea_nil) h fun σ H1 R1 cls d H2 xo => hw σ H1 _ _ R1 cls d H2 (xo.down fun a h => List.mem_append_left _ h))
  refine run_expr (ed_call A1 hr (ea_cons (vr 0) ea_nil) g) ?_
  exact run_exprX (ed_callX A2 hr (takes_of rfl rfl rfl rfl) (ea_cons (vr 1) ea_nil) h fun σ H1 R1 cls d H2 xo => hw σ H1 _ _ R1 cls d H2 (xo.down fun a h => List.mem_append_left _ h))
theorem fx_distance (F : FnP K "distance" s_distance f fd) (A0 : FdX P w K mg base k "need_row" ["row"] X_row) (A1 : Fd P w K mg base k "need_row" ["row"] (spR K R_need_row)) (A2 : FdX P w K mg base k "need_mask" ["mask"] X_mask) : FnOk P w K mg base (L2.CX P w) (k + 1) f fd ["row", "mask"] (spX K X_distance) := by
  have sc : FnScope ["row", "mask"] ["row", "mask"] (defScope s_distance) := ⟨rfl, rfl, rfl, by decide +kernel, rfl, by decide +kernel, by decide +kernel⟩
  refine fd_exc F sc _ (fun ds x fo ⟨_, _, e, _⟩ => by rw [e]; rfl) fun cdv A outer s H E hr W ds x fo hrow hR hw => ?_
  obtain ⟨a0, a1, rfl, h⟩ := hR
  rcases h with h | ⟨g, h⟩
  · exact run_exprX (ed_callX A0 hr (takes_of rfl rfl rfl rfl) (ea_cons (vr 0) ea_nil) h fun σ H1 R1 cls d H2 xo => hw σ H1 _ _ R1 cls d H2 (xo.down fun a h => List.mem_append_left _ h))
  refine run_expr (ed_call A1 hr (ea_cons (vr 0) ea_nil) g) ?_
  exact run_exprX (ed_callX A2 hr (takes_of rfl rfl rfl rfl) (ea_cons (vr 1) ea_nil) h fun σ H1 R1 cls d H2 xo => hw σ H1 _ _ R1 cls d H2 (xo.down fun a h => List.mem_append_left _ h))
theorem fx_groups (F : FnP K "groups" s_groups f fd) (A0 : FdX P w K mg base k "need_row" ["row"] X_row) (A1 : Fd P w K mg base k "need_row" ["row"] (spR K R_need_row)) (A2 : FdX P w K mg base k "need_mask" ["mask"] X_mask) : FnOk P w K mg base (L2.CX P w) (k + 1) f fd ["row", "mask"] (spX K X_groups) := by
  have sc : FnScope ["row", "mask", "told", "found", "place", "view", "places"] ["row", "mask"] (defScope s_groups) := ⟨rfl, rfl, rfl, by decide +kernel, rfl, by decide +kernel, by decide +kernel⟩
  refine fd_exc F sc _ (fun ds x fo ⟨_, _, e, _⟩ => by rw [e]; rfl) fun cdv A outer s H E hr W ds x fo hrow hR hw => ?_
  obtain ⟨a0, a1, rfl, h⟩ := hR
  rcases h with h | ⟨g, h⟩
  · exact run_exprX (ed_callX A0 hr (takes_of rfl rfl rfl rfl) (ea_cons (vr 0) ea_nil) h fun σ H1 R1 cls d H2 xo => hw σ H1 _ _ R1 cls d H2 (xo.down fun a h => List.mem_append_left _ h))
  refine run_expr (ed_call A1 hr (ea_cons (vr 0) ea_nil) g) ?_
  exact run_exprX (ed_callX A2 hr (takes_of rfl rfl rfl rfl) (ea_cons (vr 1) ea_nil) h fun σ H1 R1 cls d H2 xo => hw σ H1 _ _ R1 cls d H2 (xo.down fun a h => List.mem_append_left _ h))
theorem fx_tells (F : FnP K "tells" s_tells f fd) (A0 : FdX P w K mg base k "need_row" ["row"] X_row) (A1 : Fd P w K mg base k "need_row" ["row"] (spR K R_need_row)) (A2 : FdX P w K mg base k "need_mask" ["mask"] X_mask) : FnOk P w K mg base (L2.CX P w) (k + 1) f fd ["row", "mask"] (spX K X_tells) := by
  have sc : FnScope ["row", "mask"] ["row", "mask"] (defScope s_tells) := ⟨rfl, rfl, rfl, by decide +kernel, rfl, by decide +kernel, by decide +kernel⟩
  refine fd_exc F sc _ (fun ds x fo ⟨_, _, e, _⟩ => by rw [e]; rfl) fun cdv A outer s H E hr W ds x fo hrow hR hw => ?_
  obtain ⟨a0, a1, rfl, h⟩ := hR
  rcases h with h | ⟨g, h⟩
  · exact run_exprX (ed_callX A0 hr (takes_of rfl rfl rfl rfl) (ea_cons (vr 0) ea_nil) h fun σ H1 R1 cls d H2 xo => hw σ H1 _ _ R1 cls d H2 (xo.down fun a h => List.mem_append_left _ h))
  refine run_expr (ed_call A1 hr (ea_cons (vr 0) ea_nil) g) ?_
  exact run_exprX (ed_callX A2 hr (takes_of rfl rfl rfl rfl) (ea_cons (vr 1) ea_nil) h fun σ H1 R1 cls d H2 xo => hw σ H1 _ _ R1 cls d H2 (xo.down fun a h => List.mem_append_left _ h))
theorem fx_need_row_in (F : FnP K "need_row_in" s_need_row_in f fd) (G : Gs mg) (gL : gLETTERS mg) (FX : FdX P w K mg base (k + 1) "need_letters" ["letters"] X_letters) (F1 : Fd P w K mg base (k + 1) "need_letters" ["letters"] (spR K R_need_letters)) (F2 : Fd P w K mg base (k + 1) "is_row" ["value"] (spR K R_is_row_t)) (F3 : Fd P w K mg base (k + 1) "is_row" ["value"] (spR K R_is_mask_o)) (E1 : Ex0 P w K mg base k "BadRow") : FnOk P w K mg base (L2.CX P w) (k + 2) f fd ["row", "letters"] (spX K X_row_in) := by
  have sc : FnScope ["row", "letters", "sign"] ["row", "letters"] (defScope s_need_row_in) := ⟨rfl, rfl, rfl, by decide +kernel, rfl, by decide +kernel, by decide +kernel⟩
  refine fd_exc F sc _ (fun ds x fo ⟨_, _, e, _⟩ => by rw [e]; rfl) fun cdv A outer s H E hr W ds x fo hrow hR hw => ?_
  obtain ⟨r, v, rfl, rfl, ⟨h, rfl⟩ | ⟨n, rfl, h1, h2, rfl, h⟩⟩ := hR
  · exact run_exprX (ed_callX FX hr (takes_of rfl rfl rfl rfl) (ea_cons (vr 1) ea_nil) ⟨v, rfl, h, rfl, rfl⟩ fun σ H1 R1 cls d H2 xo => hw σ H1 _ _ R1 cls d H2 (xo.down fun a h => List.mem_append_left _ h))
  refine run_expr (ed_call F1 hr (ea_cons (vr 1) ea_nil) ⟨n, rfl, h1, h2, rfl⟩) ?_
  rcases h with (ho | ⟨l, rfl, hl, hb⟩) | ⟨l, rfl, hb, hlow⟩
  · exact run_if (k := true) (t_or (k := true) (l := false) (t_not (k := false) (et_val (ed_call F3 hr (ea_cons (vr 0) ea_nil) ⟨_, rfl, ho, rfl⟩))) fun q => nomatch q) (fun _ => run_raise0 E1 hr (takes_of rfl rfl rfl rfl) fun σ H1 R1 cls d H' xo => hw σ H1 _ _ R1 cls d H' xo) (fun q => nomatch q)
  · exact run_if (k := true) (t_or (k := true) (l := false) (t_not (k := false) (et_val (ed_call F2 hr (ea_cons (vr 0) ea_nil) ⟨l, rfl, hl, by rw [hb]⟩))) fun q => nomatch q) (fun _ => run_raise0 E1 hr (takes_of rfl rfl rfl rfl) fun σ H1 R1 cls d H' xo => hw σ H1 _ _ R1 cls d H' xo) (fun q => nomatch q)
  · have := rowB_len hb
    refine run_if (k := true) (t_or (k := false) (l := true) (t_not (k := true) (et_val (ed_call F2 hr (ea_cons (vr 0) ea_nil) ⟨l, rfl, by omega, by rw [hb]⟩))) fun _ => t_not (k := false) (et_val ((ed_callB G.all boot_all (ea_cons (lcN0 2 (it_str (vr 0)) (by omega) (fun c => .bool (decide (c ∈ letL n))) (fun c hc W1 lw s H C cl fp => ed_cmp (vr 2) (ed_sl (ed_gS [97, 98, 99, 100] gL) so_none (so_some (vr 1)) (s_strT n (by decide))) c_inS) sc.nd |>.ed sc.nd) ea_nil) (c_all (bs := l.map fun c => decide (c ∈ letL n)) rfl |> fun z => by rw [List.map_map] at z; exact z)).to ?_))) (fun _ => run_raise0 E1 hr (takes_of rfl rfl rfl rfl) fun σ H1 R1 cls d H' xo => hw σ H1 _ _ R1 cls d H' xo) (fun q => nomatch q)
    rw [List.all_map]
    refine congrArg PyData.bool (Bool.eq_false_iff.mpr fun q => hlow fun c hc => ?_)
    have z := List.all_eq_true.mp q c hc
    exact (mem_letL h2).mp (of_decide_eq_true z)
theorem fx_next_letters (F : FnP K "next_letters" s_next_letters f fd) (A0 : FdX P w K mg base k "need_mask" ["mask"] X_mask) (A1 : Fd P w K mg base k "need_mask" ["mask"] (spR K R_need_mask)) (A2 : FdX P w K mg base k "need_row_in" ["row", "letters"] X_row_in) : FnOk P w K mg base (L2.CX P w) (k + 1) f fd ["row", "mask", "letters"] (spX K X_next_letters) := by
  have sc : FnScope ["row", "mask", "letters", "letter"] ["row", "mask", "letters"] (defScope s_next_letters) := ⟨rfl, rfl, rfl, by decide +kernel, rfl, by decide +kernel, by decide +kernel⟩
  refine fd_exc F sc _ (fun ds x fo ⟨_, _, _, e, _⟩ => by rw [e]; rfl) fun cdv A outer s H E hr W ds x fo hrow hR hw => ?_
  obtain ⟨a0, a1, a2, rfl, h⟩ := hR
  rcases h with h | ⟨g, h⟩
  · exact run_exprX (ed_callX A0 hr (takes_of rfl rfl rfl rfl) (ea_cons (vr 1) ea_nil) h fun σ H1 R1 cls d H2 xo => hw σ H1 _ _ R1 cls d H2 (xo.down fun a h => List.mem_append_left _ h))
  refine run_expr (ed_call A1 hr (ea_cons (vr 1) ea_nil) g) ?_
  exact run_exprX (ed_callX A2 hr (takes_of rfl rfl rfl rfl) (ea_cons (vr 0) (ea_cons (vr 2) ea_nil)) h fun σ H1 R1 cls d H2 xo => hw σ H1 _ _ R1 cls d H2 (xo.down fun a h => List.mem_append_left _ h))
theorem fx_farthest (F : FnP K "farthest" s_farthest f fd) (A0 : FdX P w K mg base k "need_small" ["mask", "letters"] X_small) (A1 : Fd P w K mg base k "need_small" ["mask", "letters"] (spR K R_need_small)) (A2 : FdX P w K mg base k "need_row_in" ["row", "letters"] X_row_in) : FnOk P w K mg base (L2.CX P w) (k + 1) f fd ["row", "mask", "letters"] (spX K X_farthest) := by
  have sc : FnScope ["row", "mask", "letters", "told", "rows", "length", "place"] ["row", "mask", "letters"] (defScope s_farthest) := ⟨rfl, rfl, rfl, by decide +kernel, rfl, by decide +kernel, by decide +kernel⟩
  refine fd_exc F sc _ (fun ds x fo ⟨_, _, _, e, _⟩ => by rw [e]; rfl) fun cdv A outer s H E hr W ds x fo hrow hR hw => ?_
  obtain ⟨a0, a1, a2, rfl, h⟩ := hR
  rcases h with h | ⟨g, h⟩
  · exact run_exprX (ed_callX A0 hr (takes_of rfl rfl rfl rfl) (ea_cons (vr 1) (ea_cons (vr 2) ea_nil)) h fun σ H1 R1 cls d H2 xo => hw σ H1 _ _ R1 cls d H2 (xo.down fun a h => List.mem_append_left _ h))
  refine run_expr (ed_call A1 hr (ea_cons (vr 1) (ea_cons (vr 2) ea_nil)) g) ?_
  exact run_exprX (ed_callX A2 hr (takes_of rfl rfl rfl rfl) (ea_cons (vr 0) (ea_cons (vr 2) ea_nil)) h fun σ H1 R1 cls d H2 xo => hw σ H1 _ _ R1 cls d H2 (xo.down fun a h => List.mem_append_left _ h))
theorem fx_mend (F : FnP K "mend" s_mend f fd) (A0 : FdX P w K mg base k "need_mask" ["mask"] X_mask) (A1 : Fd P w K mg base k "need_mask" ["mask"] (spR K R_need_mask)) (A2 : FdX P w K mg base k "need_row_in" ["row", "letters"] X_row_in) : FnOk P w K mg base (L2.CX P w) (k + 1) f fd ["row", "mask", "letters"] (spX K X_mend) := by
  have sc : FnScope ["row", "mask", "letters", "rows", "turn", "found", "some", "letter"] ["row", "mask", "letters"] (defScope s_mend) := ⟨rfl, rfl, rfl, by decide +kernel, rfl, by decide +kernel, by decide +kernel⟩
  refine fd_exc F sc _ (fun ds x fo ⟨_, _, _, e, _⟩ => by rw [e]; rfl) fun cdv A outer s H E hr W ds x fo hrow hR hw => ?_
  obtain ⟨a0, a1, a2, rfl, h⟩ := hR
  rcases h with h | ⟨g, h⟩
  · exact run_exprX (ed_callX A0 hr (takes_of rfl rfl rfl rfl) (ea_cons (vr 1) ea_nil) h fun σ H1 R1 cls d H2 xo => hw σ H1 _ _ R1 cls d H2 (xo.down fun a h => List.mem_append_left _ h))
  refine run_expr (ed_call A1 hr (ea_cons (vr 1) ea_nil) g) ?_
  exact run_exprX (ed_callX A2 hr (takes_of rfl rfl rfl rfl) (ea_cons (vr 0) (ea_cons (vr 2) ea_nil)) h fun σ H1 R1 cls d H2 xo => hw σ H1 _ _ R1 cls d H2 (xo.down fun a h => List.mem_append_left _ h))
theorem fx_weak_letters (F : FnP K "weak_letters" s_weak_letters f fd) (A0 : FdX P w K mg base k "need_mask" ["mask"] X_mask) (A1 : Fd P w K mg base k "need_mask" ["mask"] (spR K R_need_mask)) (A2 : FdX P w K mg base k "need_row_in" ["row", "letters"] X_row_in) : FnOk P w K mg base (L2.CX P w) (k + 1) f fd ["row", "mask", "letters"] (spX K X_weak_letters) := by
  have sc : FnScope ["row", "mask", "letters", "found", "at", "sign", "some", "letter"] ["row", "mask", "letters"] (defScope s_weak_letters) := ⟨rfl, rfl, rfl, by decide +kernel, rfl, by decide +kernel, by decide +kernel⟩
  refine fd_exc F sc _ (fun ds x fo ⟨_, _, _, e, _⟩ => by rw [e]; rfl) fun cdv A outer s H E hr W ds x fo hrow hR hw => ?_
  obtain ⟨a0, a1, a2, rfl, h⟩ := hR
  rcases h with h | ⟨g, h⟩
  · exact run_exprX (ed_callX A0 hr (takes_of rfl rfl rfl rfl) (ea_cons (vr 1) ea_nil) h fun σ H1 R1 cls d H2 xo => hw σ H1 _ _ R1 cls d H2 (xo.down fun a h => List.mem_append_left _ h))
  refine run_expr (ed_call A1 hr (ea_cons (vr 1) ea_nil) g) ?_
  exact run_exprX (ed_callX A2 hr (takes_of rfl rfl rfl rfl) (ea_cons (vr 0) (ea_cons (vr 2) ea_nil)) h fun σ H1 R1 cls d H2 xo => hw σ H1 _ _ R1 cls d H2 (xo.down fun a h => List.mem_append_left _ h))
theorem fx_find (F : FnP K "find" s_find f fd) (A0 : FdX P w K mg base (k + 1) "need_row" ["row"] X_row) (A1 : Fd P w K mg base (k + 1) "need_row" ["row"] (spR K R_need_row)) (A2 : FdX P w K mg base (k + 1) "need_mask" ["mask"] X_mask) (A3 : Fd P w K mg base (k + 1) "need_mask" ["mask"] (spR K R_need_mask)) (A4 : Ex0 P w K mg base k "BadView") (A5 : Fd P w K mg base (k + 1) "is_view" ["mask", "value"] (spR K R_is_view_o)) (A6 : Fd P w K mg base (k + 1) "is_view" ["mask", "value"] (spR K R_is_view_t)) : FnOk P w K mg base (L2.CX P w) (k + 2) f fd ["row", "mask", "told"] (spX K X_find) := by
  have sc : FnScope ["row", "mask", "told", "place", "view"] ["row", "mask", "told"] (defScope s_find) := ⟨rfl, rfl, rfl, by decide +kernel, rfl, by decide +kernel, by decide +kernel⟩
  refine fd_exc F sc _ (fun ds x fo ⟨_, _, _, e, _⟩ => by rw [e]; rfl) fun cdv A outer s H E hr W ds x fo hrow hR hw => ?_
  obtain ⟨a0, a1, a2, rfl, h⟩ := hR
  rcases h with h | ⟨g, h⟩
  · exact run_exprX (ed_callX A0 hr (takes_of rfl rfl rfl rfl) (ea_cons (vr 0) ea_nil) h fun σ H1 R1 cls d H2 xo => hw σ H1 _ _ R1 cls d H2 (xo.down fun a h => List.mem_append_left _ h))
  refine run_expr (ed_call A1 hr (ea_cons (vr 0) ea_nil) g) ?_
  rcases h with h | ⟨g, h⟩
  · exact run_exprX (ed_callX A2 hr (takes_of rfl rfl rfl rfl) (ea_cons (vr 1) ea_nil) h fun σ H1 R1 cls d H2 xo => hw σ H1 _ _ R1 cls d H2 (xo.down fun a h => List.mem_append_left _ h))
  refine run_expr (ed_call A3 hr (ea_cons (vr 1) ea_nil) g) ?_
  obtain ⟨m, rfl, hm, hl, rfl, rfl⟩ := h
  have hml := maskB_len hm
  rcases hl with ho | ⟨t, rfl, ht, hb⟩
  · exact run_if (k := true) (t_not (k := false) (et_val (ed_call A5 hr (ea_cons (vr 1) (ea_cons (vr 2) ea_nil)) ⟨_, _, rfl, ho, rfl⟩))) (fun _ => run_raise0 A4 hr (takes_of rfl rfl rfl rfl) fun σ H1 R1 cls d H2 xo => hw σ H1 _ _ R1 cls d H2 xo) (fun q => nomatch q)
  · exact run_if (k := true) (t_not (k := false) (et_val (ed_call A6 hr (ea_cons (vr 1) (ea_cons (vr 2) ea_nil)) ⟨m, t, rfl, by omega, ht, by rw [hb]⟩))) (fun _ => run_raise0 A4 hr (takes_of rfl rfl rfl rfl) fun σ H1 R1 cls d H2 xo => hw σ H1 _ _ R1 cls d H2 xo) (fun q => nomatch q)
theorem fx_near (F : FnP K "near" s_near f fd) (A0 : FdX P w K mg base (k + 1) "need_row" ["row"] X_row) (A1 : Fd P w K mg base (k + 1) "need_row" ["row"] (spR K R_need_row)) (A2 : FdX P w K mg base (k + 1) "need_mask" ["mask"] X_mask) (A3 : Fd P w K mg base (k + 1) "need_mask" ["mask"] (spR K R_need_mask)) (A4 : Ex0 P w K mg base k "BadView") (A5 : Fd P w K mg base (k + 1) "is_view" ["mask", "value"] (spR K R_is_view_o)) (A6 : Fd P w K mg base (k + 1) "is_view" ["mask", "value"] (spR K R_is_view_t)) (gk_MOST_WRONG : gMOST_WRONG mg) (A8 : Ex1 P w K mg base k "BadNumber" "n") (A9 : Fd P w K mg base (k + 1) "is_from" ["value", "low", "high"] (spR K R_is_from_a)) : FnOk P w K mg base (L2.CX P w) (k + 2) f fd ["row", "mask", "told", "wrong"] (spX K X_near) := by
  have sc : FnScope ["row", "mask", "told", "wrong", "place", "view"] ["row", "mask", "told", "wrong"] (defScope s_near) := ⟨rfl, rfl, rfl, by decide +kernel, rfl, by decide +kernel, by decide +kernel⟩
  refine fd_exc F sc _ (fun ds x fo ⟨_, _, _, _, e, _⟩ => by rw [e]; rfl) fun cdv A outer s H E hr W ds x fo hrow hR hw => ?_
  obtain ⟨a0, a1, a2, a3, rfl, h⟩ := hR
  rcases h with h | ⟨g, h⟩
  · exact run_exprX (ed_callX A0 hr (takes_of rfl rfl rfl rfl) (ea_cons (vr 0) ea_nil) h fun σ H1 R1 cls d H2 xo => hw σ H1 _ _ R1 cls d H2 (xo.down fun a h => List.mem_append_left _ h))
  refine run_expr (ed_call A1 hr (ea_cons (vr 0) ea_nil) g) ?_
  rcases h with h | ⟨g, h⟩
  · exact run_exprX (ed_callX A2 hr (takes_of rfl rfl rfl rfl) (ea_cons (vr 1) ea_nil) h fun σ H1 R1 cls d H2 xo => hw σ H1 _ _ R1 cls d H2 (xo.down fun a h => List.mem_append_left _ h))
  refine run_expr (ed_call A3 hr (ea_cons (vr 1) ea_nil) g) ?_
  rcases h with h | ⟨g, h⟩
  · obtain ⟨m, rfl, hm, hl, rfl, rfl⟩ := h
    have hml := maskB_len hm
    rcases hl with ho | ⟨t, rfl, ht, hb⟩
    · exact run_if (k := true) (t_not (k := false) (et_val (ed_call A5 hr (ea_cons (vr 1) (ea_cons (vr 2) ea_nil)) ⟨_, _, rfl, ho, rfl⟩))) (fun _ => run_raise0 A4 hr (takes_of rfl rfl rfl rfl) fun σ H1 R1 cls d H2 xo => hw σ H1 _ _ R1 cls d H2 xo) (fun q => nomatch q)
    · exact run_if (k := true) (t_not (k := false) (et_val (ed_call A6 hr (ea_cons (vr 1) (ea_cons (vr 2) ea_nil)) ⟨m, t, rfl, by omega, ht, by rw [hb]⟩))) (fun _ => run_raise0 A4 hr (takes_of rfl rfl rfl rfl) fun σ H1 R1 cls d H2 xo => hw σ H1 _ _ R1 cls d H2 xo) (fun q => nomatch q)
  obtain ⟨m, t, rfl, rfl, hm, hb⟩ := g
  have hml := maskB_len hm
  have hsl := seenL_len m
  have htl := (lookB_iff.mp hb).1
  refine run_if (k := false) (t_not (k := true) (et_val (ed_call A6 hr (ea_cons (vr 1) (ea_cons (vr 2) ea_nil)) ⟨m, t, rfl, by omega, by omega, by rw [hb]⟩))) (fun q => nomatch q) (fun _ => run_skip ?_)
  obtain ⟨hn, rfl, rfl⟩ := h
  refine run_if (k := true) (t_not (k := false) (et_val (ed_call A9 hr (ea_cons (vr 3) (ea_cons ed_int (ea_cons (ed_gint gk_MOST_WRONG) ea_nil))) ⟨_, 0, 12, rfl, hn, rfl⟩))) (fun _ => ?_) (fun q => nomatch q)
  exact run_raise1 A8 hr (takes_of rfl rfl rfl rfl) (vr 3) fun σ H1 R1 cls d H2 xo => hw σ H1 _ _ R1 cls d H2 xo
theorem fx_stands (F : FnP K "stands" s_stands f fd) (A0 : FdX P w K mg base (k + 1) "need_row" ["row"] X_row) (A1 : Fd P w K mg base (k + 1) "need_row" ["row"] (spR K R_need_row)) (A2 : FdX P w K mg base (k + 1) "need_mask" ["mask"] X_mask) (A3 : Fd P w K mg base (k + 1) "need_mask" ["mask"] (spR K R_need_mask)) (gk_MOST_WRONG : gMOST_WRONG mg) (A5 : Ex1 P w K mg base k "BadNumber" "n") (A6 : Fd P w K mg base (k + 1) "is_from" ["value", "low", "high"] (spR K R_is_from_a)) (A7 : Fd P w K mg base (k + 1) "is_from" ["value", "low", "high"] (spR K R_is_from)) : FnOk P w K mg base (L2.CX P w) (k + 2) f fd ["row", "mask", "wrong", "covered"] (spX K X_stands) := by
  have sc : FnScope ["row", "mask", "wrong", "covered", "least"] ["row", "mask", "wrong", "covered"] (defScope s_stands) := ⟨rfl, rfl, rfl, by decide +kernel, rfl, by decide +kernel, by decide +kernel⟩
  refine fd_exc F sc _ (fun ds x fo ⟨_, _, _, _, e, _⟩ => by rw [e]; rfl) fun cdv A outer s H E hr W ds x fo hrow hR hw => ?_
  obtain ⟨a0, a1, a2, a3, rfl, h⟩ := hR
  rcases h with h | ⟨g, h⟩
  · exact run_exprX (ed_callX A0 hr (takes_of rfl rfl rfl rfl) (ea_cons (vr 0) ea_nil) h fun σ H1 R1 cls d H2 xo => hw σ H1 _ _ R1 cls d H2 (xo.down fun a h => List.mem_append_left _ h))
  refine run_expr (ed_call A1 hr (ea_cons (vr 0) ea_nil) g) ?_
  rcases h with h | ⟨g, h⟩
  · exact run_exprX (ed_callX A2 hr (takes_of rfl rfl rfl rfl) (ea_cons (vr 1) ea_nil) h fun σ H1 R1 cls d H2 xo => hw σ H1 _ _ R1 cls d H2 (xo.down fun a h => List.mem_append_left _ h))
  refine run_expr (ed_call A3 hr (ea_cons (vr 1) ea_nil) g) ?_
  rcases h with h | ⟨g, h⟩
  · obtain ⟨hn, rfl, rfl⟩ := h
    refine run_if (k := true) (t_not (k := false) (et_val (ed_call A6 hr (ea_cons (vr 2) (ea_cons ed_int (ea_cons (ed_gint gk_MOST_WRONG) ea_nil))) ⟨_, 0, 12, rfl, hn, rfl⟩))) (fun _ => ?_) (fun q => nomatch q)
    exact run_raise1 A5 hr (takes_of rfl rfl rfl rfl) (vr 2) fun σ H1 R1 cls d H2 xo => hw σ H1 _ _ R1 cls d H2 xo
  obtain ⟨i2, rfl, h1, h2⟩ := g
  refine run_if (k := false) (t_not (k := true) (et_val ((ed_call A7 hr (ea_cons (vr 2) (ea_cons ed_int (ea_cons (ed_gint gk_MOST_WRONG) ea_nil))) ⟨i2, 0, 12, rfl, rfl⟩).to (congrArg PyData.bool (by simp [h1, h2]))))) (fun q => nomatch q) (fun _ => run_skip ?_)
  obtain ⟨hn, rfl, rfl⟩ := h
  refine run_if (k := true) (t_not (k := false) (et_val (ed_call A6 hr (ea_cons (vr 3) (ea_cons ed_int (ea_cons (ed_gint gk_MOST_WRONG) ea_nil))) ⟨_, 0, 12, rfl, hn, rfl⟩))) (fun _ => ?_) (fun q => nomatch q)
  exact run_raise1 A5 hr (takes_of rfl rfl rfl rfl) (vr 3) fun σ H1 R1 cls d H2 xo => hw σ H1 _ _ R1 cls d H2 xo
theorem fx_Tracker (F : FunD K "__init__" "Tracker.__init__" (defArgs mm_Tracker___init__) (defBody mm_Tracker___init__) (defScope mm_Tracker___init__) [] [] f fd) (A0 : FdX P w K mg base k "need_row" ["row"] X_row) (A1 : Fd P w K mg base k "need_row" ["row"] (spR K R_need_row)) (A2 : FdX P w K mg base k "need_mask" ["mask"] X_mask) : FnOk P w K mg base (L2.CX P w) (k + 1) f fd ["self", "row", "mask"] (spX K X_tracker) := by
  have sc : FnScope ["self", "row", "mask"] ["self", "row", "mask"] (defScope mm_Tracker___init__) := ⟨rfl, rfl, rfl, by decide +kernel, rfl, by decide +kernel, by decide +kernel⟩
  refine fd_exc F sc _ (fun ds x fo ⟨_, _, _, e, _⟩ => by rw [e]; rfl) fun cdv A outer s H E hr W ds x fo hrow hR hw => ?_
  obtain ⟨a0, a1, a2, rfl, h⟩ := hR
  rcases h with h | ⟨g, h⟩
  · exact run_exprX (ed_callX A0 hr (takes_of rfl rfl rfl rfl) (ea_cons (vr 1) ea_nil) h fun σ H1 R1 cls d H2 xo => hw σ H1 _ _ R1 cls d H2 (xo.down fun a h => List.mem_append_left _ h))
  refine run_expr (ed_call A1 hr (ea_cons (vr 1) ea_nil) g) ?_
  exact run_exprX (ed_callX A2 hr (takes_of rfl rfl rfl rfl) (ea_cons (vr 2) ea_nil) h fun σ H1 R1 cls d H2 xo => hw σ H1 _ _ R1 cls d H2 (xo.down fun a h => List.mem_append_left _ h))
theorem fd_law_masked (F : FnP K "_law_masked" s__law_masked f fd) (F0 : FdX P w K mg base k "seen" ["mask"] X_seen) (F1 : FdX P w K mg base k "longest" ["mask", "letters"] X_longest) (F2 : FdX P w K mg base k "longest_rows" ["mask", "letters"] X_longest_rows) (F3 : FdX P w K mg base k "full_rings" ["mask", "letters"] X_full_rings) (F4 : FdX P w K mg base k "longest_ring" ["mask", "letters"] X_longest_ring) (F5 : FdX P w K mg base k "joined" ["mask", "views"] X_joined) (F6 : FdX P w K mg base k "first_clash" ["mask", "views"] X_first_clash) (F7 : FdX P w K mg base k "rows_from" ["mask", "views"] X_rows_from) (F8 : FdX P w K mg base k "sure_from" ["mask", "views"] X_sure_from) (F9 : FdX P w K mg base k "together" ["one", "other", "far"] X_together1) (F10 : FdX P w K mg base k "count_rows" ["mask", "letters", "length"] X_count_rows) (F11 : FdX P w K mg base k "write" ["mask", "row"] X_write) (F12 : FdX P w K mg base k "steps_needed" ["row", "mask"] X_steps_needed) (F13 : FdX P w K mg base k "ring_tells" ["row", "mask"] X_ring_tells) (F14 : FdX P w K mg base k "ring_views" ["row", "mask"] X_ring_views) (F15 : FdX P w K mg base k "views" ["row", "mask"] X_views) (F16 : FdX P w K mg base k "alike" ["row", "mask"] X_alike) (F17 : FdX P w K mg base k "distance" ["row", "mask"] X_distance) (F18 : FdX P w K mg base k "groups" ["row", "mask"] X_groups) (F19 : FdX P w K mg base k "tells" ["row", "mask"] X_tells) (F20 : FdX P w K mg base k "next_letters" ["row", "mask", "letters"] X_next_letters) (F21 : FdX P w K mg base k "farthest" ["row", "mask", "letters"] X_farthest) (F22 : FdX P w K mg base k "mend" ["row", "mask", "letters"] X_mend) (F23 : FdX P w K mg base k "weak_letters" ["row", "mask", "letters"] X_weak_letters) (F24 : FdX P w K mg base k "find" ["row", "mask", "told"] X_find) (F25 : FdX P w K mg base k "near" ["row", "mask", "told", "wrong"] X_near) (F26 : FdX P w K mg base k "stands" ["row", "mask", "wrong", "covered"] X_stands) (FT : MkX P w K mg base k "Tracker" ["self", "row", "mask"] X_tracker) : FnOk P w K mg base (L2.CX P w) (k + 1) f fd ["_law_kind", "_law_value"] (spX K R_masked) := by
  have sc : FnScope ["_law_kind", "_law_value", "_law_some"] ["_law_kind", "_law_value"] (defScope s__law_masked) := ⟨rfl, rfl, rfl, by decide +kernel, rfl, by decide +kernel, by decide +kernel⟩
  refine fd_exc F sc _ (fun ds x fo ⟨_, _, e, _⟩ => by rw [e]; rfl) fun cdv A outer s H E hr W ds x fo hrow hR hw => ?_
  obtain ⟨q, v, rfl, hq, hv, rfl, rfl⟩ := hR
  obtain ⟨a1, g1⟩ := F1.at
  obtain ⟨a2, g2⟩ := F2.at
  obtain ⟨a3, g3⟩ := F3.at
  obtain ⟨a4, g4⟩ := F4.at
  obtain ⟨a5, g5⟩ := F5.at
  obtain ⟨a6, g6⟩ := F6.at
  obtain ⟨a7, g7⟩ := F7.at
  obtain ⟨a8, g8⟩ := F8.at
  obtain ⟨a9, g9⟩ := F9.at
  obtain ⟨a10, g10⟩ := F10.at
  obtain ⟨a12, g12⟩ := F12.at
  obtain ⟨a13, g13⟩ := F13.at
  obtain ⟨a14, g14⟩ := F14.at
  obtain ⟨a15, g15⟩ := F15.at
  obtain ⟨a16, g16⟩ := F16.at
  obtain ⟨a17, g17⟩ := F17.at
  obtain ⟨a18, g18⟩ := F18.at
  obtain ⟨a19, g19⟩ := F19.at
  obtain ⟨a20, g20⟩ := F20.at
  obtain ⟨a21, g21⟩ := F21.at
  obtain ⟨a22, g22⟩ := F22.at
  obtain ⟨a23, g23⟩ := F23.at
  match q, hq with
  | 0, _ =>
    refine run_if (k := true) ?c0x00 ?c0x01 ?c0x02
    case c0x00 => exact tc (vr 0) ed_int c_eqI
    case c0x02 => exact fun q => nomatch q
    intro _
    exact run_exprX (ed_callX F0 hr (takes_of rfl rfl rfl rfl) (ea_cons (vr 1) ea_nil) ⟨_, rfl, ⟨v, rfl, hv, rfl, rfl⟩⟩ fun σ H1 R1 cls d H2 xo => hw σ H1 _ _ R1 cls d H2 (xo.down fun a h => List.mem_append_left _ h))
  | 1, _ =>
    refine run_if (k := false) ?c0x10 ?c0x11 ?c0x12
    case c0x10 => exact tc (vr 0) ed_int c_eqI
    case c0x11 => exact fun q => nomatch q
    intro _
    refine run_if (k := true) ?c1x10 ?c1x11 ?c1x12
    case c1x10 => exact tc (vr 0) ed_int c_lt
    case c1x12 => exact fun q => nomatch q
    intro _
    refine run_set (d := .list [ptD a1, ptD a2, ptD a3, ptD a4, ptD a5, ptD a6, ptD a7, ptD a8]) 2 ?he1 ?hr1 ?hN1
    case hN1 => exact sc.nd
    case he1 => exact (ed_lst (ea_cons (ed_fname g1) (ea_cons (ed_fname g2) (ea_cons (ed_fname g3) (ea_cons (ed_fname g4) (ea_cons (ed_fname g5) (ea_cons (ed_fname g6) (ea_cons (ed_fname g7) (ea_cons (ed_fname g8) ea_nil)))))))) (by show 8 ≤ 1000; decide))
    refine run_exprX ?_
    refine ed_callFX F1 g1 hr (takes_of rfl rfl rfl rfl) ?ff1 ?fa1 ⟨v, .none, rfl, ⟨v, .none, rfl, rfl, .inl ⟨hv, rfl⟩⟩⟩ (fun σ H1 R1 cls d H2 xo => hw σ H1 _ _ R1 cls d H2 (xo.down fun a h => List.mem_append_left _ h))
    case fa1 => exact (ea_cons (vr 1) (ea_cons ed_non ea_nil))
    case ff1 =>
      refine ed_ix (x := .list [ptD a1, ptD a2, ptD a3, ptD a4, ptD a5, ptD a6, ptD a7, ptD a8]) (y := .int ((1 : Int) - 1)) ?fl1 ?fv1 (i_list (n := 0) rfl (by decide))
      case fl1 => exact vr 2
      case fv1 => exact ed_op (vr 0) ed_int o_sub
  | 2, _ =>
    refine run_if (k := false) ?c0x20 ?c0x21 ?c0x22
    case c0x20 => exact tc (vr 0) ed_int c_eqI
    case c0x21 => exact fun q => nomatch q
    intro _
    refine run_if (k := true) ?c1x20 ?c1x21 ?c1x22
    case c1x20 => exact tc (vr 0) ed_int c_lt
    case c1x22 => exact fun q => nomatch q
    intro _
    refine run_set (d := .list [ptD a1, ptD a2, ptD a3, ptD a4, ptD a5, ptD a6, ptD a7, ptD a8]) 2 ?he2 ?hr2 ?hN2
    case hN2 => exact sc.nd
    case he2 => exact (ed_lst (ea_cons (ed_fname g1) (ea_cons (ed_fname g2) (ea_cons (ed_fname g3) (ea_cons (ed_fname g4) (ea_cons (ed_fname g5) (ea_cons (ed_fname g6) (ea_cons (ed_fname g7) (ea_cons (ed_fname g8) ea_nil)))))))) (by show 8 ≤ 1000; decide))
    refine run_exprX ?_
    refine ed_callFX F2 g2 hr (takes_of rfl rfl rfl rfl) ?ff2 ?fa2 ⟨v, .none, rfl, ⟨v, .none, rfl, rfl, .inl ⟨hv, rfl⟩⟩⟩ (fun σ H1 R1 cls d H2 xo => hw σ H1 _ _ R1 cls d H2 (xo.down fun a h => List.mem_append_left _ h))
    case fa2 => exact (ea_cons (vr 1) (ea_cons ed_non ea_nil))
    case ff2 =>
      refine ed_ix (x := .list [ptD a1, ptD a2, ptD a3, ptD a4, ptD a5, ptD a6, ptD a7, ptD a8]) (y := .int ((2 : Int) - 1)) ?fl2 ?fv2 (i_list (n := 1) rfl (by decide))
      case fl2 => exact vr 2
      case fv2 => exact ed_op (vr 0) ed_int o_sub
  | 3, _ =>
    refine run_if (k := false) ?c0x30 ?c0x31 ?c0x32
    case c0x30 => exact tc (vr 0) ed_int c_eqI
    case c0x31 => exact fun q => nomatch q
    intro _
    refine run_if (k := true) ?c1x30 ?c1x31 ?c1x32
    case c1x30 => exact tc (vr 0) ed_int c_lt
    case c1x32 => exact fun q => nomatch q
    intro _
    refine run_set (d := .list [ptD a1, ptD a2, ptD a3, ptD a4, ptD a5, ptD a6, ptD a7, ptD a8]) 2 ?he3 ?hr3 ?hN3
    case hN3 => exact sc.nd
    case he3 => exact (ed_lst (ea_cons (ed_fname g1) (ea_cons (ed_fname g2) (ea_cons (ed_fname g3) (ea_cons (ed_fname g4) (ea_cons (ed_fname g5) (ea_cons (ed_fname g6) (ea_cons (ed_fname g7) (ea_cons (ed_fname g8) ea_nil)))))))) (by show 8 ≤ 1000; decide))
    refine run_exprX ?_
    refine ed_callFX F3 g3 hr (takes_of rfl rfl rfl rfl) ?ff3 ?fa3 ⟨v, .none, rfl, ⟨v, .none, rfl, rfl, .inl ⟨hv, rfl⟩⟩⟩ (fun σ H1 R1 cls d H2 xo => hw σ H1 _ _ R1 cls d H2 (xo.down fun a h => List.mem_append_left _ h))
    case fa3 => exact (ea_cons (vr 1) (ea_cons ed_non ea_nil))
    case ff3 =>
      refine ed_ix (x := .list [ptD a1, ptD a2, ptD a3, ptD a4, ptD a5, ptD a6, ptD a7, ptD a8]) (y := .int ((3 : Int) - 1)) ?fl3 ?fv3 (i_list (n := 2) rfl (by decide))
      case fl3 => exact vr 2
      case fv3 => exact ed_op (vr 0) ed_int o_sub
  | 4, _ =>
    refine run_if (k := false) ?c0x40 ?c0x41 ?c0x42
    case c0x40 => exact tc (vr 0) ed_int c_eqI
    case c0x41 => exact fun q => nomatch q
    intro _
    refine run_if (k := true) ?c1x40 ?c1x41 ?c1x42
    case c1x40 => exact tc (vr 0) ed_int c_lt
    case c1x42 => exact fun q => nomatch q
    intro _
    refine run_set (d := .list [ptD a1, ptD a2, ptD a3, ptD a4, ptD a5, ptD a6, ptD a7, ptD a8]) 2 ?he4 ?hr4 ?hN4
    case hN4 => exact sc.nd
    case he4 => exact (ed_lst (ea_cons (ed_fname g1) (ea_cons (ed_fname g2) (ea_cons (ed_fname g3) (ea_cons (ed_fname g4) (ea_cons (ed_fname g5) (ea_cons (ed_fname g6) (ea_cons (ed_fname g7) (ea_cons (ed_fname g8) ea_nil)))))))) (by show 8 ≤ 1000; decide))
    refine run_exprX ?_
    refine ed_callFX F4 g4 hr (takes_of rfl rfl rfl rfl) ?ff4 ?fa4 ⟨v, .none, rfl, ⟨v, .none, rfl, rfl, .inl ⟨hv, rfl⟩⟩⟩ (fun σ H1 R1 cls d H2 xo => hw σ H1 _ _ R1 cls d H2 (xo.down fun a h => List.mem_append_left _ h))
    case fa4 => exact (ea_cons (vr 1) (ea_cons ed_non ea_nil))
    case ff4 =>
      refine ed_ix (x := .list [ptD a1, ptD a2, ptD a3, ptD a4, ptD a5, ptD a6, ptD a7, ptD a8]) (y := .int ((4 : Int) - 1)) ?fl4 ?fv4 (i_list (n := 3) rfl (by decide))
      case fl4 => exact vr 2
      case fv4 => exact ed_op (vr 0) ed_int o_sub
  | 5, _ =>
    refine run_if (k := false) ?c0x50 ?c0x51 ?c0x52
    case c0x50 => exact tc (vr 0) ed_int c_eqI
    case c0x51 => exact fun q => nomatch q
    intro _
    refine run_if (k := true) ?c1x50 ?c1x51 ?c1x52
    case c1x50 => exact tc (vr 0) ed_int c_lt
    case c1x52 => exact fun q => nomatch q
    intro _
    refine run_set (d := .list [ptD a1, ptD a2, ptD a3, ptD a4, ptD a5, ptD a6, ptD a7, ptD a8]) 2 ?he5 ?hr5 ?hN5
    case hN5 => exact sc.nd
    case he5 => exact (ed_lst (ea_cons (ed_fname g1) (ea_cons (ed_fname g2) (ea_cons (ed_fname g3) (ea_cons (ed_fname g4) (ea_cons (ed_fname g5) (ea_cons (ed_fname g6) (ea_cons (ed_fname g7) (ea_cons (ed_fname g8) ea_nil)))))))) (by show 8 ≤ 1000; decide))
    refine run_exprX ?_
    refine ed_callFX F5 g5 hr (takes_of rfl rfl rfl rfl) ?ff5 ?fa5 ⟨v, .none, rfl, .inl ⟨v, rfl, hv, rfl, rfl⟩⟩ (fun σ H1 R1 cls d H2 xo => hw σ H1 _ _ R1 cls d H2 (xo.down fun a h => List.mem_append_left _ h))
    case fa5 => exact (ea_cons (vr 1) (ea_cons ed_non ea_nil))
    case ff5 =>
      refine ed_ix (x := .list [ptD a1, ptD a2, ptD a3, ptD a4, ptD a5, ptD a6, ptD a7, ptD a8]) (y := .int ((5 : Int) - 1)) ?fl5 ?fv5 (i_list (n := 4) rfl (by decide))
      case fl5 => exact vr 2
      case fv5 => exact ed_op (vr 0) ed_int o_sub
  | 6, _ =>
    refine run_if (k := false) ?c0x60 ?c0x61 ?c0x62
    case c0x60 => exact tc (vr 0) ed_int c_eqI
    case c0x61 => exact fun q => nomatch q
    intro _
    refine run_if (k := true) ?c1x60 ?c1x61 ?c1x62
    case c1x60 => exact tc (vr 0) ed_int c_lt
    case c1x62 => exact fun q => nomatch q
    intro _
    refine run_set (d := .list [ptD a1, ptD a2, ptD a3, ptD a4, ptD a5, ptD a6, ptD a7, ptD a8]) 2 ?he6 ?hr6 ?hN6
    case hN6 => exact sc.nd
    case he6 => exact (ed_lst (ea_cons (ed_fname g1) (ea_cons (ed_fname g2) (ea_cons (ed_fname g3) (ea_cons (ed_fname g4) (ea_cons (ed_fname g5) (ea_cons (ed_fname g6) (ea_cons (ed_fname g7) (ea_cons (ed_fname g8) ea_nil)))))))) (by show 8 ≤ 1000; decide))
    refine run_exprX ?_
    refine ed_callFX F6 g6 hr (takes_of rfl rfl rfl rfl) ?ff6 ?fa6 ⟨v, .none, rfl, .inl ⟨v, rfl, hv, rfl, rfl⟩⟩ (fun σ H1 R1 cls d H2 xo => hw σ H1 _ _ R1 cls d H2 (xo.down fun a h => List.mem_append_left _ h))
    case fa6 => exact (ea_cons (vr 1) (ea_cons ed_non ea_nil))
    case ff6 =>
      refine ed_ix (x := .list [ptD a1, ptD a2, ptD a3, ptD a4, ptD a5, ptD a6, ptD a7, ptD a8]) (y := .int ((6 : Int) - 1)) ?fl6 ?fv6 (i_list (n := 5) rfl (by decide))
      case fl6 => exact vr 2
      case fv6 => exact ed_op (vr 0) ed_int o_sub
  | 7, _ =>
    refine run_if (k := false) ?c0x70 ?c0x71 ?c0x72
    case c0x70 => exact tc (vr 0) ed_int c_eqI
    case c0x71 => exact fun q => nomatch q
    intro _
    refine run_if (k := true) ?c1x70 ?c1x71 ?c1x72
    case c1x70 => exact tc (vr 0) ed_int c_lt
    case c1x72 => exact fun q => nomatch q
    intro _
    refine run_set (d := .list [ptD a1, ptD a2, ptD a3, ptD a4, ptD a5, ptD a6, ptD a7, ptD a8]) 2 ?he7 ?hr7 ?hN7
    case hN7 => exact sc.nd
    case he7 => exact (ed_lst (ea_cons (ed_fname g1) (ea_cons (ed_fname g2) (ea_cons (ed_fname g3) (ea_cons (ed_fname g4) (ea_cons (ed_fname g5) (ea_cons (ed_fname g6) (ea_cons (ed_fname g7) (ea_cons (ed_fname g8) ea_nil)))))))) (by show 8 ≤ 1000; decide))
    refine run_exprX ?_
    refine ed_callFX F7 g7 hr (takes_of rfl rfl rfl rfl) ?ff7 ?fa7 ⟨v, .none, rfl, .inl ⟨v, rfl, hv, rfl, rfl⟩⟩ (fun σ H1 R1 cls d H2 xo => hw σ H1 _ _ R1 cls d H2 (xo.down fun a h => List.mem_append_left _ h))
    case fa7 => exact (ea_cons (vr 1) (ea_cons ed_non ea_nil))
    case ff7 =>
      refine ed_ix (x := .list [ptD a1, ptD a2, ptD a3, ptD a4, ptD a5, ptD a6, ptD a7, ptD a8]) (y := .int ((7 : Int) - 1)) ?fl7 ?fv7 (i_list (n := 6) rfl (by decide))
      case fl7 => exact vr 2
      case fv7 => exact ed_op (vr 0) ed_int o_sub
  | 8, _ =>
    refine run_if (k := false) ?c0x80 ?c0x81 ?c0x82
    case c0x80 => exact tc (vr 0) ed_int c_eqI
    case c0x81 => exact fun q => nomatch q
    intro _
    refine run_if (k := true) ?c1x80 ?c1x81 ?c1x82
    case c1x80 => exact tc (vr 0) ed_int c_lt
    case c1x82 => exact fun q => nomatch q
    intro _
    refine run_set (d := .list [ptD a1, ptD a2, ptD a3, ptD a4, ptD a5, ptD a6, ptD a7, ptD a8]) 2 ?he8 ?hr8 ?hN8
    case hN8 => exact sc.nd
    case he8 => exact (ed_lst (ea_cons (ed_fname g1) (ea_cons (ed_fname g2) (ea_cons (ed_fname g3) (ea_cons (ed_fname g4) (ea_cons (ed_fname g5) (ea_cons (ed_fname g6) (ea_cons (ed_fname g7) (ea_cons (ed_fname g8) ea_nil)))))))) (by show 8 ≤ 1000; decide))
    refine run_exprX ?_
    refine ed_callFX F8 g8 hr (takes_of rfl rfl rfl rfl) ?ff8 ?fa8 ⟨v, .none, rfl, .inl ⟨v, rfl, hv, rfl, rfl⟩⟩ (fun σ H1 R1 cls d H2 xo => hw σ H1 _ _ R1 cls d H2 (xo.down fun a h => List.mem_append_left _ h))
    case fa8 => exact (ea_cons (vr 1) (ea_cons ed_non ea_nil))
    case ff8 =>
      refine ed_ix (x := .list [ptD a1, ptD a2, ptD a3, ptD a4, ptD a5, ptD a6, ptD a7, ptD a8]) (y := .int ((8 : Int) - 1)) ?fl8 ?fv8 (i_list (n := 7) rfl (by decide))
      case fl8 => exact vr 2
      case fv8 => exact ed_op (vr 0) ed_int o_sub
  | 9, _ =>
    refine run_if (k := false) ?c0x90 ?c0x91 ?c0x92
    case c0x90 => exact tc (vr 0) ed_int c_eqI
    case c0x91 => exact fun q => nomatch q
    intro _
    refine run_if (k := false) ?c1x90 ?c1x91 ?c1x92
    case c1x90 => exact tc (vr 0) ed_int c_lt
    case c1x91 => exact fun q => nomatch q
    intro _
    refine run_if (k := true) ?c2x90 ?c2x91 ?c2x92
    case c2x90 => exact tc (vr 0) ed_int c_lt
    case c2x92 => exact fun q => nomatch q
    intro _
    refine run_exprX ?_
    refine ed_callFX F9 g9 hr (takes_of rfl rfl rfl rfl) ?ff9 ?fa9 ⟨v, .none, .none, rfl, ⟨v, rfl, hv, rfl, rfl⟩⟩ (fun σ H1 R1 cls d H2 xo => hw σ H1 _ _ R1 cls d H2 (xo.down fun a h => List.mem_append_left _ h))
    case fa9 => exact (ea_cons (vr 1) (ea_cons ed_non (ea_cons ed_non ea_nil)))
    case ff9 =>
      refine ed_ix (x := .list [ptD a9, ptD a10]) (y := .int ((9 : Int) - 9)) ?fl9 ?fv9 (i_list (n := 0) rfl (by decide))
      case fl9 => exact (ed_lst (ea_cons (ed_fname g9) (ea_cons (ed_fname g10) ea_nil)) (by show 2 ≤ 1000; decide))
      case fv9 => exact ed_op (vr 0) ed_int o_sub
  | 10, _ =>
    refine run_if (k := false) ?c0x100 ?c0x101 ?c0x102
    case c0x100 => exact tc (vr 0) ed_int c_eqI
    case c0x101 => exact fun q => nomatch q
    intro _
    refine run_if (k := false) ?c1x100 ?c1x101 ?c1x102
    case c1x100 => exact tc (vr 0) ed_int c_lt
    case c1x101 => exact fun q => nomatch q
    intro _
    refine run_if (k := true) ?c2x100 ?c2x101 ?c2x102
    case c2x100 => exact tc (vr 0) ed_int c_lt
    case c2x102 => exact fun q => nomatch q
    intro _
    refine run_exprX ?_
    refine ed_callFX F10 g10 hr (takes_of rfl rfl rfl rfl) ?ff10 ?fa10 ⟨v, .none, .none, rfl, .inl ⟨v, .none, rfl, rfl, .inl ⟨hv, rfl⟩⟩⟩ (fun σ H1 R1 cls d H2 xo => hw σ H1 _ _ R1 cls d H2 (xo.down fun a h => List.mem_append_left _ h))
    case fa10 => exact (ea_cons (vr 1) (ea_cons ed_non (ea_cons ed_non ea_nil)))
    case ff10 =>
      refine ed_ix (x := .list [ptD a9, ptD a10]) (y := .int ((10 : Int) - 9)) ?fl10 ?fv10 (i_list (n := 1) rfl (by decide))
      case fl10 => exact (ed_lst (ea_cons (ed_fname g9) (ea_cons (ed_fname g10) ea_nil)) (by show 2 ≤ 1000; decide))
      case fv10 => exact ed_op (vr 0) ed_int o_sub
  | 11, _ =>
    refine run_if (k := false) ?c0x110 ?c0x111 ?c0x112
    case c0x110 => exact tc (vr 0) ed_int c_eqI
    case c0x111 => exact fun q => nomatch q
    intro _
    refine run_if (k := false) ?c1x110 ?c1x111 ?c1x112
    case c1x110 => exact tc (vr 0) ed_int c_lt
    case c1x111 => exact fun q => nomatch q
    intro _
    refine run_if (k := false) ?c2x110 ?c2x111 ?c2x112
    case c2x110 => exact tc (vr 0) ed_int c_lt
    case c2x111 => exact fun q => nomatch q
    intro _
    refine run_if (k := true) ?c3x110 ?c3x111 ?c3x112
    case c3x110 => exact tc (vr 0) ed_int c_eqI
    case c3x112 => exact fun q => nomatch q
    intro _
    exact run_exprX (ed_callX F11 hr (takes_of rfl rfl rfl rfl) (ea_cons (vr 1) (ea_cons ed_non ea_nil)) ⟨v, .none, rfl, .inl ⟨v, rfl, hv, rfl, rfl⟩⟩ fun σ H1 R1 cls d H2 xo => hw σ H1 _ _ R1 cls d H2 (xo.down fun a h => List.mem_append_left _ h))
  | 12, _ =>
    refine run_if (k := false) ?c0x120 ?c0x121 ?c0x122
    case c0x120 => exact tc (vr 0) ed_int c_eqI
    case c0x121 => exact fun q => nomatch q
    intro _
    refine run_if (k := false) ?c1x120 ?c1x121 ?c1x122
    case c1x120 => exact tc (vr 0) ed_int c_lt
    case c1x121 => exact fun q => nomatch q
    intro _
    refine run_if (k := false) ?c2x120 ?c2x121 ?c2x122
    case c2x120 => exact tc (vr 0) ed_int c_lt
    case c2x121 => exact fun q => nomatch q
    intro _
    refine run_if (k := false) ?c3x120 ?c3x121 ?c3x122
    case c3x120 => exact tc (vr 0) ed_int c_eqI
    case c3x121 => exact fun q => nomatch q
    intro _
    refine run_if (k := true) ?c4x120 ?c4x121 ?c4x122
    case c4x120 => exact tc (vr 0) ed_int c_lt
    case c4x122 => exact fun q => nomatch q
    intro _
    refine run_set (d := .list [ptD a12, ptD a13, ptD a14, ptD a15, ptD a16, ptD a17, ptD a18, ptD a19]) 2 ?he12 ?hr12 ?hN12
    case hN12 => exact sc.nd
    case he12 => exact (ed_lst (ea_cons (ed_fname g12) (ea_cons (ed_fname g13) (ea_cons (ed_fname g14) (ea_cons (ed_fname g15) (ea_cons (ed_fname g16) (ea_cons (ed_fname g17) (ea_cons (ed_fname g18) (ea_cons (ed_fname g19) ea_nil)))))))) (by show 8 ≤ 1000; decide))
    refine run_exprX ?_
    refine ed_callFX F12 g12 hr (takes_of rfl rfl rfl rfl) ?ff12 ?fa12 ⟨sD [97, 98, 98, 97], v, rfl, .inr ⟨⟨[97, 98, 98, 97], rfl, by decide, rfl⟩, ⟨v, rfl, hv, rfl, rfl⟩⟩⟩ (fun σ H1 R1 cls d H2 xo => hw σ H1 _ _ R1 cls d H2 (xo.down fun a h => List.mem_append_left _ h))
    case fa12 => exact (ea_cons (ed_S [97, 98, 98, 97]) (ea_cons (vr 1) ea_nil))
    case ff12 =>
      refine ed_ix (x := .list [ptD a12, ptD a13, ptD a14, ptD a15, ptD a16, ptD a17, ptD a18, ptD a19]) (y := .int ((12 : Int) - 12)) ?fl12 ?fv12 (i_list (n := 0) rfl (by decide))
      case fl12 => exact vr 2
      case fv12 => exact ed_op (vr 0) ed_int o_sub
  | 13, _ =>
    refine run_if (k := false) ?c0x130 ?c0x131 ?c0x132
    case c0x130 => exact tc (vr 0) ed_int c_eqI
    case c0x131 => exact fun q => nomatch q
    intro _
    refine run_if (k := false) ?c1x130 ?c1x131 ?c1x132
    case c1x130 => exact tc (vr 0) ed_int c_lt
    case c1x131 => exact fun q => nomatch q
    intro _
    refine run_if (k := false) ?c2x130 ?c2x131 ?c2x132
    case c2x130 => exact tc (vr 0) ed_int c_lt
    case c2x131 => exact fun q => nomatch q
    intro _
    refine run_if (k := false) ?c3x130 ?c3x131 ?c3x132
    case c3x130 => exact tc (vr 0) ed_int c_eqI
    case c3x131 => exact fun q => nomatch q
    intro _
    refine run_if (k := true) ?c4x130 ?c4x131 ?c4x132
    case c4x130 => exact tc (vr 0) ed_int c_lt
    case c4x132 => exact fun q => nomatch q
    intro _
    refine run_set (d := .list [ptD a12, ptD a13, ptD a14, ptD a15, ptD a16, ptD a17, ptD a18, ptD a19]) 2 ?he13 ?hr13 ?hN13
    case hN13 => exact sc.nd
    case he13 => exact (ed_lst (ea_cons (ed_fname g12) (ea_cons (ed_fname g13) (ea_cons (ed_fname g14) (ea_cons (ed_fname g15) (ea_cons (ed_fname g16) (ea_cons (ed_fname g17) (ea_cons (ed_fname g18) (ea_cons (ed_fname g19) ea_nil)))))))) (by show 8 ≤ 1000; decide))
    refine run_exprX ?_
    refine ed_callFX F13 g13 hr (takes_of rfl rfl rfl rfl) ?ff13 ?fa13 ⟨sD [97, 98, 98, 97], v, rfl, .inr ⟨⟨[97, 98, 98, 97], rfl, by decide, by decide, rfl⟩, ⟨v, rfl, hv, rfl, rfl⟩⟩⟩ (fun σ H1 R1 cls d H2 xo => hw σ H1 _ _ R1 cls d H2 (xo.down fun a h => List.mem_append_left _ h))
    case fa13 => exact (ea_cons (ed_S [97, 98, 98, 97]) (ea_cons (vr 1) ea_nil))
    case ff13 =>
      refine ed_ix (x := .list [ptD a12, ptD a13, ptD a14, ptD a15, ptD a16, ptD a17, ptD a18, ptD a19]) (y := .int ((13 : Int) - 12)) ?fl13 ?fv13 (i_list (n := 1) rfl (by decide))
      case fl13 => exact vr 2
      case fv13 => exact ed_op (vr 0) ed_int o_sub
  | 14, _ =>
    refine run_if (k := false) ?c0x140 ?c0x141 ?c0x142
    case c0x140 => exact tc (vr 0) ed_int c_eqI
    case c0x141 => exact fun q => nomatch q
    intro _
    refine run_if (k := false) ?c1x140 ?c1x141 ?c1x142
    case c1x140 => exact tc (vr 0) ed_int c_lt
    case c1x141 => exact fun q => nomatch q
    intro _
    refine run_if (k := false) ?c2x140 ?c2x141 ?c2x142
    case c2x140 => exact tc (vr 0) ed_int c_lt
    case c2x141 => exact fun q => nomatch q
    intro _
    refine run_if (k := false) ?c3x140 ?c3x141 ?c3x142
    case c3x140 => exact tc (vr 0) ed_int c_eqI
    case c3x141 => exact fun q => nomatch q
    intro _
    refine run_if (k := true) ?c4x140 ?c4x141 ?c4x142
    case c4x140 => exact tc (vr 0) ed_int c_lt
    case c4x142 => exact fun q => nomatch q
    intro _
    refine run_set (d := .list [ptD a12, ptD a13, ptD a14, ptD a15, ptD a16, ptD a17, ptD a18, ptD a19]) 2 ?he14 ?hr14 ?hN14
    case hN14 => exact sc.nd
    case he14 => exact (ed_lst (ea_cons (ed_fname g12) (ea_cons (ed_fname g13) (ea_cons (ed_fname g14) (ea_cons (ed_fname g15) (ea_cons (ed_fname g16) (ea_cons (ed_fname g17) (ea_cons (ed_fname g18) (ea_cons (ed_fname g19) ea_nil)))))))) (by show 8 ≤ 1000; decide))
    refine run_exprX ?_
    refine ed_callFX F14 g14 hr (takes_of rfl rfl rfl rfl) ?ff14 ?fa14 ⟨sD [97, 98, 98, 97], v, rfl, .inr ⟨⟨[97, 98, 98, 97], rfl, by decide, by decide, rfl⟩, ⟨v, rfl, hv, rfl, rfl⟩⟩⟩ (fun σ H1 R1 cls d H2 xo => hw σ H1 _ _ R1 cls d H2 (xo.down fun a h => List.mem_append_left _ h))
    case fa14 => exact (ea_cons (ed_S [97, 98, 98, 97]) (ea_cons (vr 1) ea_nil))
    case ff14 =>
      refine ed_ix (x := .list [ptD a12, ptD a13, ptD a14, ptD a15, ptD a16, ptD a17, ptD a18, ptD a19]) (y := .int ((14 : Int) - 12)) ?fl14 ?fv14 (i_list (n := 2) rfl (by decide))
      case fl14 => exact vr 2
      case fv14 => exact ed_op (vr 0) ed_int o_sub
  | 15, _ =>
    refine run_if (k := false) ?c0x150 ?c0x151 ?c0x152
    case c0x150 => exact tc (vr 0) ed_int c_eqI
    case c0x151 => exact fun q => nomatch q
    intro _
    refine run_if (k := false) ?c1x150 ?c1x151 ?c1x152
    case c1x150 => exact tc (vr 0) ed_int c_lt
    case c1x151 => exact fun q => nomatch q
    intro _
    refine run_if (k := false) ?c2x150 ?c2x151 ?c2x152
    case c2x150 => exact tc (vr 0) ed_int c_lt
    case c2x151 => exact fun q => nomatch q
    intro _
    refine run_if (k := false) ?c3x150 ?c3x151 ?c3x152
    case c3x150 => exact tc (vr 0) ed_int c_eqI
    case c3x151 => exact fun q => nomatch q
    intro _
    refine run_if (k := true) ?c4x150 ?c4x151 ?c4x152
    case c4x150 => exact tc (vr 0) ed_int c_lt
    case c4x152 => exact fun q => nomatch q
    intro _
    refine run_set (d := .list [ptD a12, ptD a13, ptD a14, ptD a15, ptD a16, ptD a17, ptD a18, ptD a19]) 2 ?he15 ?hr15 ?hN15
    case hN15 => exact sc.nd
    case he15 => exact (ed_lst (ea_cons (ed_fname g12) (ea_cons (ed_fname g13) (ea_cons (ed_fname g14) (ea_cons (ed_fname g15) (ea_cons (ed_fname g16) (ea_cons (ed_fname g17) (ea_cons (ed_fname g18) (ea_cons (ed_fname g19) ea_nil)))))))) (by show 8 ≤ 1000; decide))
    refine run_exprX ?_
    refine ed_callFX F15 g15 hr (takes_of rfl rfl rfl rfl) ?ff15 ?fa15 ⟨sD [97, 98, 98, 97], v, rfl, .inr ⟨⟨[97, 98, 98, 97], rfl, by decide, rfl⟩, ⟨v, rfl, hv, rfl, rfl⟩⟩⟩ (fun σ H1 R1 cls d H2 xo => hw σ H1 _ _ R1 cls d H2 (xo.down fun a h => List.mem_append_left _ h))
    case fa15 => exact (ea_cons (ed_S [97, 98, 98, 97]) (ea_cons (vr 1) ea_nil))
    case ff15 =>
      refine ed_ix (x := .list [ptD a12, ptD a13, ptD a14, ptD a15, ptD a16, ptD a17, ptD a18, ptD a19]) (y := .int ((15 : Int) - 12)) ?fl15 ?fv15 (i_list (n := 3) rfl (by decide))
      case fl15 => exact vr 2
      case fv15 => exact ed_op (vr 0) ed_int o_sub
  | 16, _ =>
    refine run_if (k := false) ?c0x160 ?c0x161 ?c0x162
    case c0x160 => exact tc (vr 0) ed_int c_eqI
    case c0x161 => exact fun q => nomatch q
    intro _
    refine run_if (k := false) ?c1x160 ?c1x161 ?c1x162
    case c1x160 => exact tc (vr 0) ed_int c_lt
    case c1x161 => exact fun q => nomatch q
    intro _
    refine run_if (k := false) ?c2x160 ?c2x161 ?c2x162
    case c2x160 => exact tc (vr 0) ed_int c_lt
    case c2x161 => exact fun q => nomatch q
    intro _
    refine run_if (k := false) ?c3x160 ?c3x161 ?c3x162
    case c3x160 => exact tc (vr 0) ed_int c_eqI
    case c3x161 => exact fun q => nomatch q
    intro _
    refine run_if (k := true) ?c4x160 ?c4x161 ?c4x162
    case c4x160 => exact tc (vr 0) ed_int c_lt
    case c4x162 => exact fun q => nomatch q
    intro _
    refine run_set (d := .list [ptD a12, ptD a13, ptD a14, ptD a15, ptD a16, ptD a17, ptD a18, ptD a19]) 2 ?he16 ?hr16 ?hN16
    case hN16 => exact sc.nd
    case he16 => exact (ed_lst (ea_cons (ed_fname g12) (ea_cons (ed_fname g13) (ea_cons (ed_fname g14) (ea_cons (ed_fname g15) (ea_cons (ed_fname g16) (ea_cons (ed_fname g17) (ea_cons (ed_fname g18) (ea_cons (ed_fname g19) ea_nil)))))))) (by show 8 ≤ 1000; decide))
    refine run_exprX ?_
    refine ed_callFX F16 g16 hr (takes_of rfl rfl rfl rfl) ?ff16 ?fa16 ⟨sD [97, 98, 98, 97], v, rfl, .inr ⟨⟨[97, 98, 98, 97], rfl, by decide, rfl⟩, ⟨v, rfl, hv, rfl, rfl⟩⟩⟩ (fun σ H1 R1 cls d H2 xo => hw σ H1 _ _ R1 cls d H2 (xo.down fun a h => List.mem_append_left _ h))
    case fa16 => exact (ea_cons (ed_S [97, 98, 98, 97]) (ea_cons (vr 1) ea_nil))
    case ff16 =>
      refine ed_ix (x := .list [ptD a12, ptD a13, ptD a14, ptD a15, ptD a16, ptD a17, ptD a18, ptD a19]) (y := .int ((16 : Int) - 12)) ?fl16 ?fv16 (i_list (n := 4) rfl (by decide))
      case fl16 => exact vr 2
      case fv16 => exact ed_op (vr 0) ed_int o_sub
  | 17, _ =>
    refine run_if (k := false) ?c0x170 ?c0x171 ?c0x172
    case c0x170 => exact tc (vr 0) ed_int c_eqI
    case c0x171 => exact fun q => nomatch q
    intro _
    refine run_if (k := false) ?c1x170 ?c1x171 ?c1x172
    case c1x170 => exact tc (vr 0) ed_int c_lt
    case c1x171 => exact fun q => nomatch q
    intro _
    refine run_if (k := false) ?c2x170 ?c2x171 ?c2x172
    case c2x170 => exact tc (vr 0) ed_int c_lt
    case c2x171 => exact fun q => nomatch q
    intro _
    refine run_if (k := false) ?c3x170 ?c3x171 ?c3x172
    case c3x170 => exact tc (vr 0) ed_int c_eqI
    case c3x171 => exact fun q => nomatch q
    intro _
    refine run_if (k := true) ?c4x170 ?c4x171 ?c4x172
    case c4x170 => exact tc (vr 0) ed_int c_lt
    case c4x172 => exact fun q => nomatch q
    intro _
    refine run_set (d := .list [ptD a12, ptD a13, ptD a14, ptD a15, ptD a16, ptD a17, ptD a18, ptD a19]) 2 ?he17 ?hr17 ?hN17
    case hN17 => exact sc.nd
    case he17 => exact (ed_lst (ea_cons (ed_fname g12) (ea_cons (ed_fname g13) (ea_cons (ed_fname g14) (ea_cons (ed_fname g15) (ea_cons (ed_fname g16) (ea_cons (ed_fname g17) (ea_cons (ed_fname g18) (ea_cons (ed_fname g19) ea_nil)))))))) (by show 8 ≤ 1000; decide))
    refine run_exprX ?_
    refine ed_callFX F17 g17 hr (takes_of rfl rfl rfl rfl) ?ff17 ?fa17 ⟨sD [97, 98, 98, 97], v, rfl, .inr ⟨⟨[97, 98, 98, 97], rfl, by decide, rfl⟩, ⟨v, rfl, hv, rfl, rfl⟩⟩⟩ (fun σ H1 R1 cls d H2 xo => hw σ H1 _ _ R1 cls d H2 (xo.down fun a h => List.mem_append_left _ h))
    case fa17 => exact (ea_cons (ed_S [97, 98, 98, 97]) (ea_cons (vr 1) ea_nil))
    case ff17 =>
      refine ed_ix (x := .list [ptD a12, ptD a13, ptD a14, ptD a15, ptD a16, ptD a17, ptD a18, ptD a19]) (y := .int ((17 : Int) - 12)) ?fl17 ?fv17 (i_list (n := 5) rfl (by decide))
      case fl17 => exact vr 2
      case fv17 => exact ed_op (vr 0) ed_int o_sub
  | 18, _ =>
    refine run_if (k := false) ?c0x180 ?c0x181 ?c0x182
    case c0x180 => exact tc (vr 0) ed_int c_eqI
    case c0x181 => exact fun q => nomatch q
    intro _
    refine run_if (k := false) ?c1x180 ?c1x181 ?c1x182
    case c1x180 => exact tc (vr 0) ed_int c_lt
    case c1x181 => exact fun q => nomatch q
    intro _
    refine run_if (k := false) ?c2x180 ?c2x181 ?c2x182
    case c2x180 => exact tc (vr 0) ed_int c_lt
    case c2x181 => exact fun q => nomatch q
    intro _
    refine run_if (k := false) ?c3x180 ?c3x181 ?c3x182
    case c3x180 => exact tc (vr 0) ed_int c_eqI
    case c3x181 => exact fun q => nomatch q
    intro _
    refine run_if (k := true) ?c4x180 ?c4x181 ?c4x182
    case c4x180 => exact tc (vr 0) ed_int c_lt
    case c4x182 => exact fun q => nomatch q
    intro _
    refine run_set (d := .list [ptD a12, ptD a13, ptD a14, ptD a15, ptD a16, ptD a17, ptD a18, ptD a19]) 2 ?he18 ?hr18 ?hN18
    case hN18 => exact sc.nd
    case he18 => exact (ed_lst (ea_cons (ed_fname g12) (ea_cons (ed_fname g13) (ea_cons (ed_fname g14) (ea_cons (ed_fname g15) (ea_cons (ed_fname g16) (ea_cons (ed_fname g17) (ea_cons (ed_fname g18) (ea_cons (ed_fname g19) ea_nil)))))))) (by show 8 ≤ 1000; decide))
    refine run_exprX ?_
    refine ed_callFX F18 g18 hr (takes_of rfl rfl rfl rfl) ?ff18 ?fa18 ⟨sD [97, 98, 98, 97], v, rfl, .inr ⟨⟨[97, 98, 98, 97], rfl, by decide, rfl⟩, ⟨v, rfl, hv, rfl, rfl⟩⟩⟩ (fun σ H1 R1 cls d H2 xo => hw σ H1 _ _ R1 cls d H2 (xo.down fun a h => List.mem_append_left _ h))
    case fa18 => exact (ea_cons (ed_S [97, 98, 98, 97]) (ea_cons (vr 1) ea_nil))
    case ff18 =>
      refine ed_ix (x := .list [ptD a12, ptD a13, ptD a14, ptD a15, ptD a16, ptD a17, ptD a18, ptD a19]) (y := .int ((18 : Int) - 12)) ?fl18 ?fv18 (i_list (n := 6) rfl (by decide))
      case fl18 => exact vr 2
      case fv18 => exact ed_op (vr 0) ed_int o_sub
  | 19, _ =>
    refine run_if (k := false) ?c0x190 ?c0x191 ?c0x192
    case c0x190 => exact tc (vr 0) ed_int c_eqI
    case c0x191 => exact fun q => nomatch q
    intro _
    refine run_if (k := false) ?c1x190 ?c1x191 ?c1x192
    case c1x190 => exact tc (vr 0) ed_int c_lt
    case c1x191 => exact fun q => nomatch q
    intro _
    refine run_if (k := false) ?c2x190 ?c2x191 ?c2x192
    case c2x190 => exact tc (vr 0) ed_int c_lt
    case c2x191 => exact fun q => nomatch q
    intro _
    refine run_if (k := false) ?c3x190 ?c3x191 ?c3x192
    case c3x190 => exact tc (vr 0) ed_int c_eqI
    case c3x191 => exact fun q => nomatch q
    intro _
    refine run_if (k := true) ?c4x190 ?c4x191 ?c4x192
    case c4x190 => exact tc (vr 0) ed_int c_lt
    case c4x192 => exact fun q => nomatch q
    intro _
    refine run_set (d := .list [ptD a12, ptD a13, ptD a14, ptD a15, ptD a16, ptD a17, ptD a18, ptD a19]) 2 ?he19 ?hr19 ?hN19
    case hN19 => exact sc.nd
    case he19 => exact (ed_lst (ea_cons (ed_fname g12) (ea_cons (ed_fname g13) (ea_cons (ed_fname g14) (ea_cons (ed_fname g15) (ea_cons (ed_fname g16) (ea_cons (ed_fname g17) (ea_cons (ed_fname g18) (ea_cons (ed_fname g19) ea_nil)))))))) (by show 8 ≤ 1000; decide))
    refine run_exprX ?_
    refine ed_callFX F19 g19 hr (takes_of rfl rfl rfl rfl) ?ff19 ?fa19 ⟨sD [97, 98, 98, 97], v, rfl, .inr ⟨⟨[97, 98, 98, 97], rfl, by decide, rfl⟩, ⟨v, rfl, hv, rfl, rfl⟩⟩⟩ (fun σ H1 R1 cls d H2 xo => hw σ H1 _ _ R1 cls d H2 (xo.down fun a h => List.mem_append_left _ h))
    case fa19 => exact (ea_cons (ed_S [97, 98, 98, 97]) (ea_cons (vr 1) ea_nil))
    case ff19 =>
      refine ed_ix (x := .list [ptD a12, ptD a13, ptD a14, ptD a15, ptD a16, ptD a17, ptD a18, ptD a19]) (y := .int ((19 : Int) - 12)) ?fl19 ?fv19 (i_list (n := 7) rfl (by decide))
      case fl19 => exact vr 2
      case fv19 => exact ed_op (vr 0) ed_int o_sub
  | 20, _ =>
    refine run_if (k := false) ?c0x200 ?c0x201 ?c0x202
    case c0x200 => exact tc (vr 0) ed_int c_eqI
    case c0x201 => exact fun q => nomatch q
    intro _
    refine run_if (k := false) ?c1x200 ?c1x201 ?c1x202
    case c1x200 => exact tc (vr 0) ed_int c_lt
    case c1x201 => exact fun q => nomatch q
    intro _
    refine run_if (k := false) ?c2x200 ?c2x201 ?c2x202
    case c2x200 => exact tc (vr 0) ed_int c_lt
    case c2x201 => exact fun q => nomatch q
    intro _
    refine run_if (k := false) ?c3x200 ?c3x201 ?c3x202
    case c3x200 => exact tc (vr 0) ed_int c_eqI
    case c3x201 => exact fun q => nomatch q
    intro _
    refine run_if (k := false) ?c4x200 ?c4x201 ?c4x202
    case c4x200 => exact tc (vr 0) ed_int c_lt
    case c4x201 => exact fun q => nomatch q
    intro _
    refine run_if (k := true) ?c5x200 ?c5x201 ?c5x202
    case c5x200 => exact tc (vr 0) ed_int c_eqI
    case c5x202 => exact fun q => nomatch q
    intro _
    exact run_exprX (ed_makeX FT hr (takes_of rfl rfl rfl rfl) (ea_cons (ed_S [97, 98, 98, 97]) (ea_cons (vr 1) ea_nil)) (fun l => ⟨_, _, _, rfl, .inr ⟨⟨[97, 98, 98, 97], rfl, by decide, rfl⟩, ⟨v, rfl, hv, rfl, rfl⟩⟩⟩) fun σ H1 R1 cls d H2 xo => hw σ H1 _ _ R1 cls d H2 (xo.down fun a h => List.mem_append_left _ h))
  | 21, _ =>
    refine run_if (k := false) ?c0x210 ?c0x211 ?c0x212
    case c0x210 => exact tc (vr 0) ed_int c_eqI
    case c0x211 => exact fun q => nomatch q
    intro _
    refine run_if (k := false) ?c1x210 ?c1x211 ?c1x212
    case c1x210 => exact tc (vr 0) ed_int c_lt
    case c1x211 => exact fun q => nomatch q
    intro _
    refine run_if (k := false) ?c2x210 ?c2x211 ?c2x212
    case c2x210 => exact tc (vr 0) ed_int c_lt
    case c2x211 => exact fun q => nomatch q
    intro _
    refine run_if (k := false) ?c3x210 ?c3x211 ?c3x212
    case c3x210 => exact tc (vr 0) ed_int c_eqI
    case c3x211 => exact fun q => nomatch q
    intro _
    refine run_if (k := false) ?c4x210 ?c4x211 ?c4x212
    case c4x210 => exact tc (vr 0) ed_int c_lt
    case c4x211 => exact fun q => nomatch q
    intro _
    refine run_if (k := false) ?c5x210 ?c5x211 ?c5x212
    case c5x210 => exact tc (vr 0) ed_int c_eqI
    case c5x211 => exact fun q => nomatch q
    intro _
    refine run_if (k := true) ?c6x210 ?c6x211 ?c6x212
    case c6x210 => exact tc (vr 0) ed_int c_lt
    case c6x212 => exact fun q => nomatch q
    intro _
    refine run_exprX ?_
    refine ed_callFX F20 g20 hr (takes_of rfl rfl rfl rfl) ?ff21 ?fa21 ⟨.none, v, .none, rfl, .inl ⟨v, rfl, hv, rfl, rfl⟩⟩ (fun σ H1 R1 cls d H2 xo => hw σ H1 _ _ R1 cls d H2 (xo.down fun a h => List.mem_append_left _ h))
    case fa21 => exact (ea_cons ed_non (ea_cons (vr 1) (ea_cons ed_non ea_nil)))
    case ff21 =>
      refine ed_ix (x := .list [ptD a20, ptD a21, ptD a22, ptD a23]) (y := .int ((21 : Int) - 21)) ?fl21 ?fv21 (i_list (n := 0) rfl (by decide))
      case fl21 => exact (ed_lst (ea_cons (ed_fname g20) (ea_cons (ed_fname g21) (ea_cons (ed_fname g22) (ea_cons (ed_fname g23) ea_nil)))) (by show 4 ≤ 1000; decide))
      case fv21 => exact ed_op (vr 0) ed_int o_sub
  | 22, _ =>
    refine run_if (k := false) ?c0x220 ?c0x221 ?c0x222
    case c0x220 => exact tc (vr 0) ed_int c_eqI
    case c0x221 => exact fun q => nomatch q
    intro _
    refine run_if (k := false) ?c1x220 ?c1x221 ?c1x222
    case c1x220 => exact tc (vr 0) ed_int c_lt
    case c1x221 => exact fun q => nomatch q
    intro _
    refine run_if (k := false) ?c2x220 ?c2x221 ?c2x222
    case c2x220 => exact tc (vr 0) ed_int c_lt
    case c2x221 => exact fun q => nomatch q
    intro _
    refine run_if (k := false) ?c3x220 ?c3x221 ?c3x222
    case c3x220 => exact tc (vr 0) ed_int c_eqI
    case c3x221 => exact fun q => nomatch q
    intro _
    refine run_if (k := false) ?c4x220 ?c4x221 ?c4x222
    case c4x220 => exact tc (vr 0) ed_int c_lt
    case c4x221 => exact fun q => nomatch q
    intro _
    refine run_if (k := false) ?c5x220 ?c5x221 ?c5x222
    case c5x220 => exact tc (vr 0) ed_int c_eqI
    case c5x221 => exact fun q => nomatch q
    intro _
    refine run_if (k := true) ?c6x220 ?c6x221 ?c6x222
    case c6x220 => exact tc (vr 0) ed_int c_lt
    case c6x222 => exact fun q => nomatch q
    intro _
    refine run_exprX ?_
    refine ed_callFX F21 g21 hr (takes_of rfl rfl rfl rfl) ?ff22 ?fa22 ⟨.none, v, .none, rfl, .inl ⟨v, .none, rfl, rfl, .inl ⟨hv, rfl⟩⟩⟩ (fun σ H1 R1 cls d H2 xo => hw σ H1 _ _ R1 cls d H2 (xo.down fun a h => List.mem_append_left _ h))
    case fa22 => exact (ea_cons ed_non (ea_cons (vr 1) (ea_cons ed_non ea_nil)))
    case ff22 =>
      refine ed_ix (x := .list [ptD a20, ptD a21, ptD a22, ptD a23]) (y := .int ((22 : Int) - 21)) ?fl22 ?fv22 (i_list (n := 1) rfl (by decide))
      case fl22 => exact (ed_lst (ea_cons (ed_fname g20) (ea_cons (ed_fname g21) (ea_cons (ed_fname g22) (ea_cons (ed_fname g23) ea_nil)))) (by show 4 ≤ 1000; decide))
      case fv22 => exact ed_op (vr 0) ed_int o_sub
  | 23, _ =>
    refine run_if (k := false) ?c0x230 ?c0x231 ?c0x232
    case c0x230 => exact tc (vr 0) ed_int c_eqI
    case c0x231 => exact fun q => nomatch q
    intro _
    refine run_if (k := false) ?c1x230 ?c1x231 ?c1x232
    case c1x230 => exact tc (vr 0) ed_int c_lt
    case c1x231 => exact fun q => nomatch q
    intro _
    refine run_if (k := false) ?c2x230 ?c2x231 ?c2x232
    case c2x230 => exact tc (vr 0) ed_int c_lt
    case c2x231 => exact fun q => nomatch q
    intro _
    refine run_if (k := false) ?c3x230 ?c3x231 ?c3x232
    case c3x230 => exact tc (vr 0) ed_int c_eqI
    case c3x231 => exact fun q => nomatch q
    intro _
    refine run_if (k := false) ?c4x230 ?c4x231 ?c4x232
    case c4x230 => exact tc (vr 0) ed_int c_lt
    case c4x231 => exact fun q => nomatch q
    intro _
    refine run_if (k := false) ?c5x230 ?c5x231 ?c5x232
    case c5x230 => exact tc (vr 0) ed_int c_eqI
    case c5x231 => exact fun q => nomatch q
    intro _
    refine run_if (k := true) ?c6x230 ?c6x231 ?c6x232
    case c6x230 => exact tc (vr 0) ed_int c_lt
    case c6x232 => exact fun q => nomatch q
    intro _
    refine run_exprX ?_
    refine ed_callFX F22 g22 hr (takes_of rfl rfl rfl rfl) ?ff23 ?fa23 ⟨.none, v, .none, rfl, .inl ⟨v, rfl, hv, rfl, rfl⟩⟩ (fun σ H1 R1 cls d H2 xo => hw σ H1 _ _ R1 cls d H2 (xo.down fun a h => List.mem_append_left _ h))
    case fa23 => exact (ea_cons ed_non (ea_cons (vr 1) (ea_cons ed_non ea_nil)))
    case ff23 =>
      refine ed_ix (x := .list [ptD a20, ptD a21, ptD a22, ptD a23]) (y := .int ((23 : Int) - 21)) ?fl23 ?fv23 (i_list (n := 2) rfl (by decide))
      case fl23 => exact (ed_lst (ea_cons (ed_fname g20) (ea_cons (ed_fname g21) (ea_cons (ed_fname g22) (ea_cons (ed_fname g23) ea_nil)))) (by show 4 ≤ 1000; decide))
      case fv23 => exact ed_op (vr 0) ed_int o_sub
  | 24, _ =>
    refine run_if (k := false) ?c0x240 ?c0x241 ?c0x242
    case c0x240 => exact tc (vr 0) ed_int c_eqI
    case c0x241 => exact fun q => nomatch q
    intro _
    refine run_if (k := false) ?c1x240 ?c1x241 ?c1x242
    case c1x240 => exact tc (vr 0) ed_int c_lt
    case c1x241 => exact fun q => nomatch q
    intro _
    refine run_if (k := false) ?c2x240 ?c2x241 ?c2x242
    case c2x240 => exact tc (vr 0) ed_int c_lt
    case c2x241 => exact fun q => nomatch q
    intro _
    refine run_if (k := false) ?c3x240 ?c3x241 ?c3x242
    case c3x240 => exact tc (vr 0) ed_int c_eqI
    case c3x241 => exact fun q => nomatch q
    intro _
    refine run_if (k := false) ?c4x240 ?c4x241 ?c4x242
    case c4x240 => exact tc (vr 0) ed_int c_lt
    case c4x241 => exact fun q => nomatch q
    intro _
    refine run_if (k := false) ?c5x240 ?c5x241 ?c5x242
    case c5x240 => exact tc (vr 0) ed_int c_eqI
    case c5x241 => exact fun q => nomatch q
    intro _
    refine run_if (k := true) ?c6x240 ?c6x241 ?c6x242
    case c6x240 => exact tc (vr 0) ed_int c_lt
    case c6x242 => exact fun q => nomatch q
    intro _
    refine run_exprX ?_
    refine ed_callFX F23 g23 hr (takes_of rfl rfl rfl rfl) ?ff24 ?fa24 ⟨.none, v, .none, rfl, .inl ⟨v, rfl, hv, rfl, rfl⟩⟩ (fun σ H1 R1 cls d H2 xo => hw σ H1 _ _ R1 cls d H2 (xo.down fun a h => List.mem_append_left _ h))
    case fa24 => exact (ea_cons ed_non (ea_cons (vr 1) (ea_cons ed_non ea_nil)))
    case ff24 =>
      refine ed_ix (x := .list [ptD a20, ptD a21, ptD a22, ptD a23]) (y := .int ((24 : Int) - 21)) ?fl24 ?fv24 (i_list (n := 3) rfl (by decide))
      case fl24 => exact (ed_lst (ea_cons (ed_fname g20) (ea_cons (ed_fname g21) (ea_cons (ed_fname g22) (ea_cons (ed_fname g23) ea_nil)))) (by show 4 ≤ 1000; decide))
      case fv24 => exact ed_op (vr 0) ed_int o_sub
  | 25, _ =>
    refine run_if (k := false) ?c0x250 ?c0x251 ?c0x252
    case c0x250 => exact tc (vr 0) ed_int c_eqI
    case c0x251 => exact fun q => nomatch q
    intro _
    refine run_if (k := false) ?c1x250 ?c1x251 ?c1x252
    case c1x250 => exact tc (vr 0) ed_int c_lt
    case c1x251 => exact fun q => nomatch q
    intro _
    refine run_if (k := false) ?c2x250 ?c2x251 ?c2x252
    case c2x250 => exact tc (vr 0) ed_int c_lt
    case c2x251 => exact fun q => nomatch q
    intro _
    refine run_if (k := false) ?c3x250 ?c3x251 ?c3x252
    case c3x250 => exact tc (vr 0) ed_int c_eqI
    case c3x251 => exact fun q => nomatch q
    intro _
    refine run_if (k := false) ?c4x250 ?c4x251 ?c4x252
    case c4x250 => exact tc (vr 0) ed_int c_lt
    case c4x251 => exact fun q => nomatch q
    intro _
    refine run_if (k := false) ?c5x250 ?c5x251 ?c5x252
    case c5x250 => exact tc (vr 0) ed_int c_eqI
    case c5x251 => exact fun q => nomatch q
    intro _
    refine run_if (k := false) ?c6x250 ?c6x251 ?c6x252
    case c6x250 => exact tc (vr 0) ed_int c_lt
    case c6x251 => exact fun q => nomatch q
    intro _
    refine run_if (k := true) ?c7x250 ?c7x251 ?c7x252
    case c7x250 => exact tc (vr 0) ed_int c_eqI
    case c7x252 => exact fun q => nomatch q
    intro _
    exact run_exprX (ed_callX F24 hr (takes_of rfl rfl rfl rfl) (ea_cons (ed_S [97, 98, 98, 97]) (ea_cons (vr 1) (ea_cons ed_non ea_nil))) ⟨sD [97, 98, 98, 97], v, .none, rfl, .inr ⟨⟨[97, 98, 98, 97], rfl, by decide, rfl⟩, .inl ⟨v, rfl, hv, rfl, rfl⟩⟩⟩ fun σ H1 R1 cls d H2 xo => hw σ H1 _ _ R1 cls d H2 (xo.down fun a h => List.mem_append_left _ h))
  | 26, _ =>
    refine run_if (k := false) ?c0x260 ?c0x261 ?c0x262
    case c0x260 => exact tc (vr 0) ed_int c_eqI
    case c0x261 => exact fun q => nomatch q
    intro _
    refine run_if (k := false) ?c1x260 ?c1x261 ?c1x262
    case c1x260 => exact tc (vr 0) ed_int c_lt
    case c1x261 => exact fun q => nomatch q
    intro _
    refine run_if (k := false) ?c2x260 ?c2x261 ?c2x262
    case c2x260 => exact tc (vr 0) ed_int c_lt
    case c2x261 => exact fun q => nomatch q
    intro _
    refine run_if (k := false) ?c3x260 ?c3x261 ?c3x262
    case c3x260 => exact tc (vr 0) ed_int c_eqI
    case c3x261 => exact fun q => nomatch q
    intro _
    refine run_if (k := false) ?c4x260 ?c4x261 ?c4x262
    case c4x260 => exact tc (vr 0) ed_int c_lt
    case c4x261 => exact fun q => nomatch q
    intro _
    refine run_if (k := false) ?c5x260 ?c5x261 ?c5x262
    case c5x260 => exact tc (vr 0) ed_int c_eqI
    case c5x261 => exact fun q => nomatch q
    intro _
    refine run_if (k := false) ?c6x260 ?c6x261 ?c6x262
    case c6x260 => exact tc (vr 0) ed_int c_lt
    case c6x261 => exact fun q => nomatch q
    intro _
    refine run_if (k := false) ?c7x260 ?c7x261 ?c7x262
    case c7x260 => exact tc (vr 0) ed_int c_eqI
    case c7x261 => exact fun q => nomatch q
    intro _
    refine run_if (k := true) ?c8x260 ?c8x261 ?c8x262
    case c8x260 => exact tc (vr 0) ed_int c_eqI
    case c8x262 => exact fun q => nomatch q
    intro _
    exact run_exprX (ed_callX F25 hr (takes_of rfl rfl rfl rfl) (ea_cons (ed_S [97, 98, 98, 97]) (ea_cons (vr 1) (ea_cons ed_non (ea_cons ed_non ea_nil)))) ⟨sD [97, 98, 98, 97], v, .none, .none, rfl, .inr ⟨⟨[97, 98, 98, 97], rfl, by decide, rfl⟩, .inl ⟨v, rfl, hv, rfl, rfl⟩⟩⟩ fun σ H1 R1 cls d H2 xo => hw σ H1 _ _ R1 cls d H2 (xo.down fun a h => List.mem_append_left _ h))
  | 27, _ =>
    refine run_if (k := false) ?c0x270 ?c0x271 ?c0x272
    case c0x270 => exact tc (vr 0) ed_int c_eqI
    case c0x271 => exact fun q => nomatch q
    intro _
    refine run_if (k := false) ?c1x270 ?c1x271 ?c1x272
    case c1x270 => exact tc (vr 0) ed_int c_lt
    case c1x271 => exact fun q => nomatch q
    intro _
    refine run_if (k := false) ?c2x270 ?c2x271 ?c2x272
    case c2x270 => exact tc (vr 0) ed_int c_lt
    case c2x271 => exact fun q => nomatch q
    intro _
    refine run_if (k := false) ?c3x270 ?c3x271 ?c3x272
    case c3x270 => exact tc (vr 0) ed_int c_eqI
    case c3x271 => exact fun q => nomatch q
    intro _
    refine run_if (k := false) ?c4x270 ?c4x271 ?c4x272
    case c4x270 => exact tc (vr 0) ed_int c_lt
    case c4x271 => exact fun q => nomatch q
    intro _
    refine run_if (k := false) ?c5x270 ?c5x271 ?c5x272
    case c5x270 => exact tc (vr 0) ed_int c_eqI
    case c5x271 => exact fun q => nomatch q
    intro _
    refine run_if (k := false) ?c6x270 ?c6x271 ?c6x272
    case c6x270 => exact tc (vr 0) ed_int c_lt
    case c6x271 => exact fun q => nomatch q
    intro _
    refine run_if (k := false) ?c7x270 ?c7x271 ?c7x272
    case c7x270 => exact tc (vr 0) ed_int c_eqI
    case c7x271 => exact fun q => nomatch q
    intro _
    refine run_if (k := false) ?c8x270 ?c8x271 ?c8x272
    case c8x270 => exact tc (vr 0) ed_int c_eqI
    case c8x271 => exact fun q => nomatch q
    intro _
    exact run_exprX (ed_callX F26 hr (takes_of rfl rfl rfl rfl) (ea_cons (ed_S [97, 98, 98, 97]) (ea_cons (vr 1) (ea_cons ed_non (ea_cons ed_non ea_nil)))) ⟨sD [97, 98, 98, 97], v, .none, .none, rfl, .inr ⟨⟨[97, 98, 98, 97], rfl, by decide, rfl⟩, .inl ⟨v, rfl, hv, rfl, rfl⟩⟩⟩ fun σ H1 R1 cls d H2 xo => hw σ H1 _ _ R1 cls d H2 (xo.down fun a h => List.mem_append_left _ h))
  | q + 28, hq => exact absurd hq (by omega)
theorem fx_least_masks (F : FnP K "least_masks" s_least_masks f fd) (A0 : FdX P w K mg base (k + 1) "need_row" ["row"] X_row) (A1 : Fd P w K mg base (k + 1) "need_row" ["row"] (spR K R_need_row)) (gk_MOST_ASKED : gMOST_ASKED mg) (A3 : Ex1 P w K mg base k "BadNumber" "n") (A4 : Fd P w K mg base (k + 1) "is_from" ["value", "low", "high"] (spR K R_is_from_a)) : FnOk P w K mg base (L2.CX P w) (k + 2) f fd ["row", "width"] (spX K X_least_masks) := by
  have sc : FnScope ["row", "width", "size", "best", "found", "mask", "many"] ["row", "width"] (defScope s_least_masks) := ⟨rfl, rfl, rfl, by decide +kernel, rfl, by decide +kernel, by decide +kernel⟩
  refine fd_exc F sc _ (fun ds x fo ⟨_, _, e, _⟩ => by rw [e]; rfl) fun cdv A outer s H E hr W ds x fo hrow hR hw => ?_
  obtain ⟨a0, a1, rfl, h⟩ := hR
  rcases h with h | ⟨g, h⟩
  · exact run_exprX (ed_callX A0 hr (takes_of rfl rfl rfl rfl) (ea_cons (vr 0) ea_nil) h fun σ H1 R1 cls d H2 xo => hw σ H1 _ _ R1 cls d H2 (xo.down fun a h => List.mem_append_left _ h))
  refine run_expr (ed_call A1 hr (ea_cons (vr 0) ea_nil) g) ?_
  obtain ⟨hn, rfl, rfl⟩ := h
  refine run_if (k := true) (t_not (k := false) (et_val (ed_call A4 hr (ea_cons (vr 1) (ea_cons ed_int (ea_cons (ed_gint gk_MOST_ASKED) ea_nil))) ⟨_, 1, 9, rfl, hn, rfl⟩))) (fun _ => ?_) (fun q => nomatch q)
  exact run_raise1 A3 hr (takes_of rfl rfl rfl rfl) (vr 1) fun σ H1 R1 cls d H2 xo => hw σ H1 _ _ R1 cls d H2 xo
theorem fd_law_rowed (F : FnP K "_law_rowed" s__law_rowed f fd) (F0 : FdX P w K mg base k "steps_needed" ["row", "mask"] X_steps_needed) (F1 : FdX P w K mg base k "ring_tells" ["row", "mask"] X_ring_tells) (F2 : FdX P w K mg base k "ring_views" ["row", "mask"] X_ring_views) (F3 : FdX P w K mg base k "views" ["row", "mask"] X_views) (F4 : FdX P w K mg base k "alike" ["row", "mask"] X_alike) (F5 : FdX P w K mg base k "distance" ["row", "mask"] X_distance) (F6 : FdX P w K mg base k "groups" ["row", "mask"] X_groups) (F7 : FdX P w K mg base k "tells" ["row", "mask"] X_tells) (F8 : FdX P w K mg base k "find" ["row", "mask", "told"] X_find) (F9 : FdX P w K mg base k "near" ["row", "mask", "told", "wrong"] X_near) (F10 : FdX P w K mg base k "stands" ["row", "mask", "wrong", "covered"] X_stands) (F11 : FdX P w K mg base k "write" ["mask", "row"] X_write) (F12 : FdX P w K mg base k "least_masks" ["row", "width"] X_least_masks) (F13 : FdX P w K mg base k "next_letters" ["row", "mask", "letters"] X_next_letters) (F14 : FdX P w K mg base k "farthest" ["row", "mask", "letters"] X_farthest) (F15 : FdX P w K mg base k "mend" ["row", "mask", "letters"] X_mend) (F16 : FdX P w K mg base k "weak_letters" ["row", "mask", "letters"] X_weak_letters) (FT : MkX P w K mg base k "Tracker" ["self", "row", "mask"] X_tracker) : FnOk P w K mg base (L2.CX P w) (k + 1) f fd ["_law_kind", "_law_value"] (spX K R_rowed) := by
  have sc : FnScope ["_law_kind", "_law_value", "_law_some"] ["_law_kind", "_law_value"] (defScope s__law_rowed) := ⟨rfl, rfl, rfl, by decide +kernel, rfl, by decide +kernel, by decide +kernel⟩
  refine fd_exc F sc _ (fun ds x fo ⟨_, _, e, _⟩ => by rw [e]; rfl) fun cdv A outer s H E hr W ds x fo hrow hR hw => ?_
  obtain ⟨q, v, rfl, hq, hv, rfl, rfl⟩ := hR
  obtain ⟨a0, g0⟩ := F0.at
  obtain ⟨a1, g1⟩ := F1.at
  obtain ⟨a2, g2⟩ := F2.at
  obtain ⟨a3, g3⟩ := F3.at
  obtain ⟨a4, g4⟩ := F4.at
  obtain ⟨a5, g5⟩ := F5.at
  obtain ⟨a6, g6⟩ := F6.at
  obtain ⟨a7, g7⟩ := F7.at
  obtain ⟨a13, g13⟩ := F13.at
  obtain ⟨a14, g14⟩ := F14.at
  obtain ⟨a15, g15⟩ := F15.at
  obtain ⟨a16, g16⟩ := F16.at
  match q, hq, hv with
  | 0, _, hv =>
    have hv : noRow v := hv.resolve_right fun z => by omega
    refine run_if (k := true) ?c0x00 ?c0x01 ?c0x02
    case c0x00 => exact tc (vr 0) ed_int c_lt
    case c0x02 => exact fun q => nomatch q
    intro _
    refine run_set (d := .list [ptD a0, ptD a1, ptD a2, ptD a3, ptD a4, ptD a5, ptD a6, ptD a7, ptD a3]) 2 ?he0 ?hr0 ?hN0
    case hN0 => exact sc.nd
    case he0 => exact (ed_lst (ea_cons (ed_fname g0) (ea_cons (ed_fname g1) (ea_cons (ed_fname g2) (ea_cons (ed_fname g3) (ea_cons (ed_fname g4) (ea_cons (ed_fname g5) (ea_cons (ed_fname g6) (ea_cons (ed_fname g7) (ea_cons (ed_fname g3) ea_nil))))))))) (by show 9 ≤ 1000; decide))
    refine run_exprX ?_
    refine ed_callFX F0 g0 hr (takes_of rfl rfl rfl rfl) ?ff0 ?fa0 ⟨v, .none, rfl, .inl ⟨v, rfl, hv, rfl, rfl⟩⟩ (fun σ H1 R1 cls d H2 xo => hw σ H1 _ _ R1 cls d H2 (xo.down fun a h => List.mem_append_left _ h))
    case fa0 => exact (ea_cons (vr 1) (ea_cons ed_non ea_nil))
    case ff0 =>
      refine ed_ix (x := .list [ptD a0, ptD a1, ptD a2, ptD a3, ptD a4, ptD a5, ptD a6, ptD a7, ptD a3]) (y := nn 0) ?fl0 ?fv0 (i_list (n := 0) rfl (by decide))
      case fl0 => exact vr 2
      case fv0 => exact vr 0
  | 1, _, hv =>
    refine run_if (k := true) ?c0x10 ?c0x11 ?c0x12
    case c0x10 => exact tc (vr 0) ed_int c_lt
    case c0x12 => exact fun q => nomatch q
    intro _
    refine run_set (d := .list [ptD a0, ptD a1, ptD a2, ptD a3, ptD a4, ptD a5, ptD a6, ptD a7, ptD a3]) 2 ?he1 ?hr1 ?hN1
    case hN1 => exact sc.nd
    case he1 => exact (ed_lst (ea_cons (ed_fname g0) (ea_cons (ed_fname g1) (ea_cons (ed_fname g2) (ea_cons (ed_fname g3) (ea_cons (ed_fname g4) (ea_cons (ed_fname g5) (ea_cons (ed_fname g6) (ea_cons (ed_fname g7) (ea_cons (ed_fname g3) ea_nil))))))))) (by show 9 ≤ 1000; decide))
    refine run_exprX ?_
    refine ed_callFX F1 g1 hr (takes_of rfl rfl rfl rfl) ?ff1 ?fa1 ⟨v, .none, rfl, .inl ⟨v, rfl, hv.imp_right (fun z => z.1), rfl, rfl⟩⟩ (fun σ H1 R1 cls d H2 xo => hw σ H1 _ _ R1 cls d H2 (xo.down fun a h => List.mem_append_left _ h))
    case fa1 => exact (ea_cons (vr 1) (ea_cons ed_non ea_nil))
    case ff1 =>
      refine ed_ix (x := .list [ptD a0, ptD a1, ptD a2, ptD a3, ptD a4, ptD a5, ptD a6, ptD a7, ptD a3]) (y := nn 1) ?fl1 ?fv1 (i_list (n := 1) rfl (by decide))
      case fl1 => exact vr 2
      case fv1 => exact vr 0
  | 2, _, hv =>
    refine run_if (k := true) ?c0x20 ?c0x21 ?c0x22
    case c0x20 => exact tc (vr 0) ed_int c_lt
    case c0x22 => exact fun q => nomatch q
    intro _
    refine run_set (d := .list [ptD a0, ptD a1, ptD a2, ptD a3, ptD a4, ptD a5, ptD a6, ptD a7, ptD a3]) 2 ?he2 ?hr2 ?hN2
    case hN2 => exact sc.nd
    case he2 => exact (ed_lst (ea_cons (ed_fname g0) (ea_cons (ed_fname g1) (ea_cons (ed_fname g2) (ea_cons (ed_fname g3) (ea_cons (ed_fname g4) (ea_cons (ed_fname g5) (ea_cons (ed_fname g6) (ea_cons (ed_fname g7) (ea_cons (ed_fname g3) ea_nil))))))))) (by show 9 ≤ 1000; decide))
    refine run_exprX ?_
    refine ed_callFX F2 g2 hr (takes_of rfl rfl rfl rfl) ?ff2 ?fa2 ⟨v, .none, rfl, .inl ⟨v, rfl, hv.imp_right (fun z => z.1), rfl, rfl⟩⟩ (fun σ H1 R1 cls d H2 xo => hw σ H1 _ _ R1 cls d H2 (xo.down fun a h => List.mem_append_left _ h))
    case fa2 => exact (ea_cons (vr 1) (ea_cons ed_non ea_nil))
    case ff2 =>
      refine ed_ix (x := .list [ptD a0, ptD a1, ptD a2, ptD a3, ptD a4, ptD a5, ptD a6, ptD a7, ptD a3]) (y := nn 2) ?fl2 ?fv2 (i_list (n := 2) rfl (by decide))
      case fl2 => exact vr 2
      case fv2 => exact vr 0
  | 3, _, hv =>
    have hv : noRow v := hv.resolve_right fun z => by omega
    refine run_if (k := true) ?c0x30 ?c0x31 ?c0x32
    case c0x30 => exact tc (vr 0) ed_int c_lt
    case c0x32 => exact fun q => nomatch q
    intro _
    refine run_set (d := .list [ptD a0, ptD a1, ptD a2, ptD a3, ptD a4, ptD a5, ptD a6, ptD a7, ptD a3]) 2 ?he3 ?hr3 ?hN3
    case hN3 => exact sc.nd
    case he3 => exact (ed_lst (ea_cons (ed_fname g0) (ea_cons (ed_fname g1) (ea_cons (ed_fname g2) (ea_cons (ed_fname g3) (ea_cons (ed_fname g4) (ea_cons (ed_fname g5) (ea_cons (ed_fname g6) (ea_cons (ed_fname g7) (ea_cons (ed_fname g3) ea_nil))))))))) (by show 9 ≤ 1000; decide))
    refine run_exprX ?_
    refine ed_callFX F3 g3 hr (takes_of rfl rfl rfl rfl) ?ff3 ?fa3 ⟨v, .none, rfl, .inl ⟨v, rfl, hv, rfl, rfl⟩⟩ (fun σ H1 R1 cls d H2 xo => hw σ H1 _ _ R1 cls d H2 (xo.down fun a h => List.mem_append_left _ h))
    case fa3 => exact (ea_cons (vr 1) (ea_cons ed_non ea_nil))
    case ff3 =>
      refine ed_ix (x := .list [ptD a0, ptD a1, ptD a2, ptD a3, ptD a4, ptD a5, ptD a6, ptD a7, ptD a3]) (y := nn 3) ?fl3 ?fv3 (i_list (n := 3) rfl (by decide))
      case fl3 => exact vr 2
      case fv3 => exact vr 0
  | 4, _, hv =>
    have hv : noRow v := hv.resolve_right fun z => by omega
    refine run_if (k := true) ?c0x40 ?c0x41 ?c0x42
    case c0x40 => exact tc (vr 0) ed_int c_lt
    case c0x42 => exact fun q => nomatch q
    intro _
    refine run_set (d := .list [ptD a0, ptD a1, ptD a2, ptD a3, ptD a4, ptD a5, ptD a6, ptD a7, ptD a3]) 2 ?he4 ?hr4 ?hN4
    case hN4 => exact sc.nd
    case he4 => exact (ed_lst (ea_cons (ed_fname g0) (ea_cons (ed_fname g1) (ea_cons (ed_fname g2) (ea_cons (ed_fname g3) (ea_cons (ed_fname g4) (ea_cons (ed_fname g5) (ea_cons (ed_fname g6) (ea_cons (ed_fname g7) (ea_cons (ed_fname g3) ea_nil))))))))) (by show 9 ≤ 1000; decide))
    refine run_exprX ?_
    refine ed_callFX F4 g4 hr (takes_of rfl rfl rfl rfl) ?ff4 ?fa4 ⟨v, .none, rfl, .inl ⟨v, rfl, hv, rfl, rfl⟩⟩ (fun σ H1 R1 cls d H2 xo => hw σ H1 _ _ R1 cls d H2 (xo.down fun a h => List.mem_append_left _ h))
    case fa4 => exact (ea_cons (vr 1) (ea_cons ed_non ea_nil))
    case ff4 =>
      refine ed_ix (x := .list [ptD a0, ptD a1, ptD a2, ptD a3, ptD a4, ptD a5, ptD a6, ptD a7, ptD a3]) (y := nn 4) ?fl4 ?fv4 (i_list (n := 4) rfl (by decide))
      case fl4 => exact vr 2
      case fv4 => exact vr 0
  | 5, _, hv =>
    have hv : noRow v := hv.resolve_right fun z => by omega
    refine run_if (k := true) ?c0x50 ?c0x51 ?c0x52
    case c0x50 => exact tc (vr 0) ed_int c_lt
    case c0x52 => exact fun q => nomatch q
    intro _
    refine run_set (d := .list [ptD a0, ptD a1, ptD a2, ptD a3, ptD a4, ptD a5, ptD a6, ptD a7, ptD a3]) 2 ?he5 ?hr5 ?hN5
    case hN5 => exact sc.nd
    case he5 => exact (ed_lst (ea_cons (ed_fname g0) (ea_cons (ed_fname g1) (ea_cons (ed_fname g2) (ea_cons (ed_fname g3) (ea_cons (ed_fname g4) (ea_cons (ed_fname g5) (ea_cons (ed_fname g6) (ea_cons (ed_fname g7) (ea_cons (ed_fname g3) ea_nil))))))))) (by show 9 ≤ 1000; decide))
    refine run_exprX ?_
    refine ed_callFX F5 g5 hr (takes_of rfl rfl rfl rfl) ?ff5 ?fa5 ⟨v, .none, rfl, .inl ⟨v, rfl, hv, rfl, rfl⟩⟩ (fun σ H1 R1 cls d H2 xo => hw σ H1 _ _ R1 cls d H2 (xo.down fun a h => List.mem_append_left _ h))
    case fa5 => exact (ea_cons (vr 1) (ea_cons ed_non ea_nil))
    case ff5 =>
      refine ed_ix (x := .list [ptD a0, ptD a1, ptD a2, ptD a3, ptD a4, ptD a5, ptD a6, ptD a7, ptD a3]) (y := nn 5) ?fl5 ?fv5 (i_list (n := 5) rfl (by decide))
      case fl5 => exact vr 2
      case fv5 => exact vr 0
  | 6, _, hv =>
    have hv : noRow v := hv.resolve_right fun z => by omega
    refine run_if (k := true) ?c0x60 ?c0x61 ?c0x62
    case c0x60 => exact tc (vr 0) ed_int c_lt
    case c0x62 => exact fun q => nomatch q
    intro _
    refine run_set (d := .list [ptD a0, ptD a1, ptD a2, ptD a3, ptD a4, ptD a5, ptD a6, ptD a7, ptD a3]) 2 ?he6 ?hr6 ?hN6
    case hN6 => exact sc.nd
    case he6 => exact (ed_lst (ea_cons (ed_fname g0) (ea_cons (ed_fname g1) (ea_cons (ed_fname g2) (ea_cons (ed_fname g3) (ea_cons (ed_fname g4) (ea_cons (ed_fname g5) (ea_cons (ed_fname g6) (ea_cons (ed_fname g7) (ea_cons (ed_fname g3) ea_nil))))))))) (by show 9 ≤ 1000; decide))
    refine run_exprX ?_
    refine ed_callFX F6 g6 hr (takes_of rfl rfl rfl rfl) ?ff6 ?fa6 ⟨v, .none, rfl, .inl ⟨v, rfl, hv, rfl, rfl⟩⟩ (fun σ H1 R1 cls d H2 xo => hw σ H1 _ _ R1 cls d H2 (xo.down fun a h => List.mem_append_left _ h))
    case fa6 => exact (ea_cons (vr 1) (ea_cons ed_non ea_nil))
    case ff6 =>
      refine ed_ix (x := .list [ptD a0, ptD a1, ptD a2, ptD a3, ptD a4, ptD a5, ptD a6, ptD a7, ptD a3]) (y := nn 6) ?fl6 ?fv6 (i_list (n := 6) rfl (by decide))
      case fl6 => exact vr 2
      case fv6 => exact vr 0
  | 7, _, hv =>
    have hv : noRow v := hv.resolve_right fun z => by omega
    refine run_if (k := true) ?c0x70 ?c0x71 ?c0x72
    case c0x70 => exact tc (vr 0) ed_int c_lt
    case c0x72 => exact fun q => nomatch q
    intro _
    refine run_set (d := .list [ptD a0, ptD a1, ptD a2, ptD a3, ptD a4, ptD a5, ptD a6, ptD a7, ptD a3]) 2 ?he7 ?hr7 ?hN7
    case hN7 => exact sc.nd
    case he7 => exact (ed_lst (ea_cons (ed_fname g0) (ea_cons (ed_fname g1) (ea_cons (ed_fname g2) (ea_cons (ed_fname g3) (ea_cons (ed_fname g4) (ea_cons (ed_fname g5) (ea_cons (ed_fname g6) (ea_cons (ed_fname g7) (ea_cons (ed_fname g3) ea_nil))))))))) (by show 9 ≤ 1000; decide))
    refine run_exprX ?_
    refine ed_callFX F7 g7 hr (takes_of rfl rfl rfl rfl) ?ff7 ?fa7 ⟨v, .none, rfl, .inl ⟨v, rfl, hv, rfl, rfl⟩⟩ (fun σ H1 R1 cls d H2 xo => hw σ H1 _ _ R1 cls d H2 (xo.down fun a h => List.mem_append_left _ h))
    case fa7 => exact (ea_cons (vr 1) (ea_cons ed_non ea_nil))
    case ff7 =>
      refine ed_ix (x := .list [ptD a0, ptD a1, ptD a2, ptD a3, ptD a4, ptD a5, ptD a6, ptD a7, ptD a3]) (y := nn 7) ?fl7 ?fv7 (i_list (n := 7) rfl (by decide))
      case fl7 => exact vr 2
      case fv7 => exact vr 0
  | 8, _, hv =>
    have hv : noRow v := hv.resolve_right fun z => by omega
    refine run_if (k := true) ?c0x80 ?c0x81 ?c0x82
    case c0x80 => exact tc (vr 0) ed_int c_lt
    case c0x82 => exact fun q => nomatch q
    intro _
    refine run_set (d := .list [ptD a0, ptD a1, ptD a2, ptD a3, ptD a4, ptD a5, ptD a6, ptD a7, ptD a3]) 2 ?he8 ?hr8 ?hN8
    case hN8 => exact sc.nd
    case he8 => exact (ed_lst (ea_cons (ed_fname g0) (ea_cons (ed_fname g1) (ea_cons (ed_fname g2) (ea_cons (ed_fname g3) (ea_cons (ed_fname g4) (ea_cons (ed_fname g5) (ea_cons (ed_fname g6) (ea_cons (ed_fname g7) (ea_cons (ed_fname g3) ea_nil))))))))) (by show 9 ≤ 1000; decide))
    refine run_exprX ?_
    refine ed_callFX F3 g3 hr (takes_of rfl rfl rfl rfl) ?ff8 ?fa8 ⟨v, .none, rfl, .inl ⟨v, rfl, hv, rfl, rfl⟩⟩ (fun σ H1 R1 cls d H2 xo => hw σ H1 _ _ R1 cls d H2 (xo.down fun a h => List.mem_append_left _ h))
    case fa8 => exact (ea_cons (vr 1) (ea_cons ed_non ea_nil))
    case ff8 =>
      refine ed_ix (x := .list [ptD a0, ptD a1, ptD a2, ptD a3, ptD a4, ptD a5, ptD a6, ptD a7, ptD a3]) (y := nn 8) ?fl8 ?fv8 (i_list (n := 8) rfl (by decide))
      case fl8 => exact vr 2
      case fv8 => exact vr 0
  | 9, _, hv =>
    have hv : noRow v := hv.resolve_right fun z => by omega
    refine run_if (k := false) ?c0x90 ?c0x91 ?c0x92
    case c0x90 => exact tc (vr 0) ed_int c_lt
    case c0x91 => exact fun q => nomatch q
    intro _
    refine run_if (k := true) ?c1x90 ?c1x91 ?c1x92
    case c1x90 => exact tc (vr 0) ed_int c_eqI
    case c1x92 => exact fun q => nomatch q
    intro _
    exact run_exprX (ed_callX F8 hr (takes_of rfl rfl rfl rfl) (ea_cons (vr 1) (ea_cons ed_non (ea_cons ed_non ea_nil))) ⟨v, .none, .none, rfl, .inl ⟨v, rfl, hv, rfl, rfl⟩⟩ fun σ H1 R1 cls d H2 xo => hw σ H1 _ _ R1 cls d H2 (xo.down fun a h => List.mem_append_left _ h))
  | 10, _, hv =>
    have hv : noRow v := hv.resolve_right fun z => by omega
    refine run_if (k := false) ?c0x100 ?c0x101 ?c0x102
    case c0x100 => exact tc (vr 0) ed_int c_lt
    case c0x101 => exact fun q => nomatch q
    intro _
    refine run_if (k := false) ?c1x100 ?c1x101 ?c1x102
    case c1x100 => exact tc (vr 0) ed_int c_eqI
    case c1x101 => exact fun q => nomatch q
    intro _
    refine run_if (k := true) ?c2x100 ?c2x101 ?c2x102
    case c2x100 => exact tc (vr 0) ed_int c_eqI
    case c2x102 => exact fun q => nomatch q
    intro _
    exact run_exprX (ed_callX F9 hr (takes_of rfl rfl rfl rfl) (ea_cons (vr 1) (ea_cons ed_non (ea_cons ed_non (ea_cons ed_non ea_nil)))) ⟨v, .none, .none, .none, rfl, .inl ⟨v, rfl, hv, rfl, rfl⟩⟩ fun σ H1 R1 cls d H2 xo => hw σ H1 _ _ R1 cls d H2 (xo.down fun a h => List.mem_append_left _ h))
  | 11, _, hv =>
    have hv : noRow v := hv.resolve_right fun z => by omega
    refine run_if (k := false) ?c0x110 ?c0x111 ?c0x112
    case c0x110 => exact tc (vr 0) ed_int c_lt
    case c0x111 => exact fun q => nomatch q
    intro _
    refine run_if (k := false) ?c1x110 ?c1x111 ?c1x112
    case c1x110 => exact tc (vr 0) ed_int c_eqI
    case c1x111 => exact fun q => nomatch q
    intro _
    refine run_if (k := false) ?c2x110 ?c2x111 ?c2x112
    case c2x110 => exact tc (vr 0) ed_int c_eqI
    case c2x111 => exact fun q => nomatch q
    intro _
    refine run_if (k := true) ?c3x110 ?c3x111 ?c3x112
    case c3x110 => exact tc (vr 0) ed_int c_eqI
    case c3x112 => exact fun q => nomatch q
    intro _
    exact run_exprX (ed_callX F10 hr (takes_of rfl rfl rfl rfl) (ea_cons (vr 1) (ea_cons ed_non (ea_cons ed_non (ea_cons ed_non ea_nil)))) ⟨v, .none, .none, .none, rfl, .inl ⟨v, rfl, hv, rfl, rfl⟩⟩ fun σ H1 R1 cls d H2 xo => hw σ H1 _ _ R1 cls d H2 (xo.down fun a h => List.mem_append_left _ h))
  | 12, _, hv =>
    have hv : noRow v := hv.resolve_right fun z => by omega
    refine run_if (k := false) ?c0x120 ?c0x121 ?c0x122
    case c0x120 => exact tc (vr 0) ed_int c_lt
    case c0x121 => exact fun q => nomatch q
    intro _
    refine run_if (k := false) ?c1x120 ?c1x121 ?c1x122
    case c1x120 => exact tc (vr 0) ed_int c_eqI
    case c1x121 => exact fun q => nomatch q
    intro _
    refine run_if (k := false) ?c2x120 ?c2x121 ?c2x122
    case c2x120 => exact tc (vr 0) ed_int c_eqI
    case c2x121 => exact fun q => nomatch q
    intro _
    refine run_if (k := false) ?c3x120 ?c3x121 ?c3x122
    case c3x120 => exact tc (vr 0) ed_int c_eqI
    case c3x121 => exact fun q => nomatch q
    intro _
    refine run_if (k := true) ?c4x120 ?c4x121 ?c4x122
    case c4x120 => exact tc (vr 0) ed_int c_eqI
    case c4x122 => exact fun q => nomatch q
    intro _
    exact run_exprX (ed_callX F11 hr (takes_of rfl rfl rfl rfl) (ea_cons (ed_S [120]) (ea_cons (vr 1) ea_nil)) ⟨_, _, rfl, .inr ⟨⟨[120], rfl, by decide, rfl⟩, ⟨v, rfl, hv, rfl, rfl⟩⟩⟩ fun σ H1 R1 cls d H2 xo => hw σ H1 _ _ R1 cls d H2 (xo.down fun a h => List.mem_append_left _ h))
  | 13, _, hv =>
    have hv : noRow v := hv.resolve_right fun z => by omega
    refine run_if (k := false) ?c0x130 ?c0x131 ?c0x132
    case c0x130 => exact tc (vr 0) ed_int c_lt
    case c0x131 => exact fun q => nomatch q
    intro _
    refine run_if (k := false) ?c1x130 ?c1x131 ?c1x132
    case c1x130 => exact tc (vr 0) ed_int c_eqI
    case c1x131 => exact fun q => nomatch q
    intro _
    refine run_if (k := false) ?c2x130 ?c2x131 ?c2x132
    case c2x130 => exact tc (vr 0) ed_int c_eqI
    case c2x131 => exact fun q => nomatch q
    intro _
    refine run_if (k := false) ?c3x130 ?c3x131 ?c3x132
    case c3x130 => exact tc (vr 0) ed_int c_eqI
    case c3x131 => exact fun q => nomatch q
    intro _
    refine run_if (k := false) ?c4x130 ?c4x131 ?c4x132
    case c4x130 => exact tc (vr 0) ed_int c_eqI
    case c4x131 => exact fun q => nomatch q
    intro _
    refine run_if (k := true) ?c5x130 ?c5x131 ?c5x132
    case c5x130 => exact tc (vr 0) ed_int c_eqI
    case c5x132 => exact fun q => nomatch q
    intro _
    exact run_exprX (ed_callX F12 hr (takes_of rfl rfl rfl rfl) (ea_cons (vr 1) (ea_cons ed_non ea_nil)) ⟨_, _, rfl, .inl ⟨v, rfl, hv, rfl, rfl⟩⟩ fun σ H1 R1 cls d H2 xo => hw σ H1 _ _ R1 cls d H2 (xo.down fun a h => List.mem_append_left _ h))
  | 14, _, hv =>
    have hv : noRow v := hv.resolve_right fun z => by omega
    refine run_if (k := false) ?c0x140 ?c0x141 ?c0x142
    case c0x140 => exact tc (vr 0) ed_int c_lt
    case c0x141 => exact fun q => nomatch q
    intro _
    refine run_if (k := false) ?c1x140 ?c1x141 ?c1x142
    case c1x140 => exact tc (vr 0) ed_int c_eqI
    case c1x141 => exact fun q => nomatch q
    intro _
    refine run_if (k := false) ?c2x140 ?c2x141 ?c2x142
    case c2x140 => exact tc (vr 0) ed_int c_eqI
    case c2x141 => exact fun q => nomatch q
    intro _
    refine run_if (k := false) ?c3x140 ?c3x141 ?c3x142
    case c3x140 => exact tc (vr 0) ed_int c_eqI
    case c3x141 => exact fun q => nomatch q
    intro _
    refine run_if (k := false) ?c4x140 ?c4x141 ?c4x142
    case c4x140 => exact tc (vr 0) ed_int c_eqI
    case c4x141 => exact fun q => nomatch q
    intro _
    refine run_if (k := false) ?c5x140 ?c5x141 ?c5x142
    case c5x140 => exact tc (vr 0) ed_int c_eqI
    case c5x141 => exact fun q => nomatch q
    intro _
    refine run_if (k := false) ?c6x140 ?c6x141 ?c6x142
    case c6x140 => exact tc (vr 0) ed_int c_eqI
    case c6x141 => exact fun q => nomatch q
    intro _
    refine run_exprX ?_
    refine ed_callFX F13 g13 hr (takes_of rfl rfl rfl rfl) ?ff14 ?fa14 ⟨v, sD [120], nn 4, rfl, .inr ⟨⟨[120], rfl, by decide, rfl⟩, ⟨v, nn 4, rfl, rfl, .inr ⟨4, rfl, by decide, by decide, rfl, .inl hv⟩⟩⟩⟩ (fun σ H1 R1 cls d H2 xo => hw σ H1 _ _ R1 cls d H2 (xo.down fun a h => List.mem_append_left _ h))
    case fa14 => exact (ea_cons (vr 1) (ea_cons (ed_S [120]) (ea_cons ed_int ea_nil)))
    case ff14 =>
      refine ed_ix (x := .list [ptD a13, ptD a14, ptD a15, ptD a16]) (y := .int ((14 : Int) - 14)) ?fl14 ?fv14 (i_list (n := 0) rfl (by decide))
      case fl14 => exact (ed_lst (ea_cons (ed_fname g13) (ea_cons (ed_fname g14) (ea_cons (ed_fname g15) (ea_cons (ed_fname g16) ea_nil)))) (by show 4 ≤ 1000; decide))
      case fv14 => exact ed_op (vr 0) ed_int o_sub
  | 15, _, hv =>
    have hv : noRow v := hv.resolve_right fun z => by omega
    refine run_if (k := false) ?c0x150 ?c0x151 ?c0x152
    case c0x150 => exact tc (vr 0) ed_int c_lt
    case c0x151 => exact fun q => nomatch q
    intro _
    refine run_if (k := false) ?c1x150 ?c1x151 ?c1x152
    case c1x150 => exact tc (vr 0) ed_int c_eqI
    case c1x151 => exact fun q => nomatch q
    intro _
    refine run_if (k := false) ?c2x150 ?c2x151 ?c2x152
    case c2x150 => exact tc (vr 0) ed_int c_eqI
    case c2x151 => exact fun q => nomatch q
    intro _
    refine run_if (k := false) ?c3x150 ?c3x151 ?c3x152
    case c3x150 => exact tc (vr 0) ed_int c_eqI
    case c3x151 => exact fun q => nomatch q
    intro _
    refine run_if (k := false) ?c4x150 ?c4x151 ?c4x152
    case c4x150 => exact tc (vr 0) ed_int c_eqI
    case c4x151 => exact fun q => nomatch q
    intro _
    refine run_if (k := false) ?c5x150 ?c5x151 ?c5x152
    case c5x150 => exact tc (vr 0) ed_int c_eqI
    case c5x151 => exact fun q => nomatch q
    intro _
    refine run_if (k := false) ?c6x150 ?c6x151 ?c6x152
    case c6x150 => exact tc (vr 0) ed_int c_eqI
    case c6x151 => exact fun q => nomatch q
    intro _
    refine run_exprX ?_
    refine ed_callFX F14 g14 hr (takes_of rfl rfl rfl rfl) ?ff15 ?fa15 ⟨v, sD [120], nn 4, rfl, .inr ⟨⟨[120], 4, rfl, ⟨by decide, by decide, by decide, by decide, by decide⟩, rfl⟩, ⟨v, nn 4, rfl, rfl, .inr ⟨4, rfl, by decide, by decide, rfl, .inl hv⟩⟩⟩⟩ (fun σ H1 R1 cls d H2 xo => hw σ H1 _ _ R1 cls d H2 (xo.down fun a h => List.mem_append_left _ h))
    case fa15 => exact (ea_cons (vr 1) (ea_cons (ed_S [120]) (ea_cons ed_int ea_nil)))
    case ff15 =>
      refine ed_ix (x := .list [ptD a13, ptD a14, ptD a15, ptD a16]) (y := .int ((15 : Int) - 14)) ?fl15 ?fv15 (i_list (n := 1) rfl (by decide))
      case fl15 => exact (ed_lst (ea_cons (ed_fname g13) (ea_cons (ed_fname g14) (ea_cons (ed_fname g15) (ea_cons (ed_fname g16) ea_nil)))) (by show 4 ≤ 1000; decide))
      case fv15 => exact ed_op (vr 0) ed_int o_sub
  | 16, _, hv =>
    have hv : noRow v := hv.resolve_right fun z => by omega
    refine run_if (k := false) ?c0x160 ?c0x161 ?c0x162
    case c0x160 => exact tc (vr 0) ed_int c_lt
    case c0x161 => exact fun q => nomatch q
    intro _
    refine run_if (k := false) ?c1x160 ?c1x161 ?c1x162
    case c1x160 => exact tc (vr 0) ed_int c_eqI
    case c1x161 => exact fun q => nomatch q
    intro _
    refine run_if (k := false) ?c2x160 ?c2x161 ?c2x162
    case c2x160 => exact tc (vr 0) ed_int c_eqI
    case c2x161 => exact fun q => nomatch q
    intro _
    refine run_if (k := false) ?c3x160 ?c3x161 ?c3x162
    case c3x160 => exact tc (vr 0) ed_int c_eqI
    case c3x161 => exact fun q => nomatch q
    intro _
    refine run_if (k := false) ?c4x160 ?c4x161 ?c4x162
    case c4x160 => exact tc (vr 0) ed_int c_eqI
    case c4x161 => exact fun q => nomatch q
    intro _
    refine run_if (k := false) ?c5x160 ?c5x161 ?c5x162
    case c5x160 => exact tc (vr 0) ed_int c_eqI
    case c5x161 => exact fun q => nomatch q
    intro _
    refine run_if (k := false) ?c6x160 ?c6x161 ?c6x162
    case c6x160 => exact tc (vr 0) ed_int c_eqI
    case c6x161 => exact fun q => nomatch q
    intro _
    refine run_exprX ?_
    refine ed_callFX F15 g15 hr (takes_of rfl rfl rfl rfl) ?ff16 ?fa16 ⟨v, sD [120], nn 4, rfl, .inr ⟨⟨[120], rfl, by decide, rfl⟩, ⟨v, nn 4, rfl, rfl, .inr ⟨4, rfl, by decide, by decide, rfl, .inl hv⟩⟩⟩⟩ (fun σ H1 R1 cls d H2 xo => hw σ H1 _ _ R1 cls d H2 (xo.down fun a h => List.mem_append_left _ h))
    case fa16 => exact (ea_cons (vr 1) (ea_cons (ed_S [120]) (ea_cons ed_int ea_nil)))
    case ff16 =>
      refine ed_ix (x := .list [ptD a13, ptD a14, ptD a15, ptD a16]) (y := .int ((16 : Int) - 14)) ?fl16 ?fv16 (i_list (n := 2) rfl (by decide))
      case fl16 => exact (ed_lst (ea_cons (ed_fname g13) (ea_cons (ed_fname g14) (ea_cons (ed_fname g15) (ea_cons (ed_fname g16) ea_nil)))) (by show 4 ≤ 1000; decide))
      case fv16 => exact ed_op (vr 0) ed_int o_sub
  | 17, _, hv =>
    have hv : noRow v := hv.resolve_right fun z => by omega
    refine run_if (k := false) ?c0x170 ?c0x171 ?c0x172
    case c0x170 => exact tc (vr 0) ed_int c_lt
    case c0x171 => exact fun q => nomatch q
    intro _
    refine run_if (k := false) ?c1x170 ?c1x171 ?c1x172
    case c1x170 => exact tc (vr 0) ed_int c_eqI
    case c1x171 => exact fun q => nomatch q
    intro _
    refine run_if (k := false) ?c2x170 ?c2x171 ?c2x172
    case c2x170 => exact tc (vr 0) ed_int c_eqI
    case c2x171 => exact fun q => nomatch q
    intro _
    refine run_if (k := false) ?c3x170 ?c3x171 ?c3x172
    case c3x170 => exact tc (vr 0) ed_int c_eqI
    case c3x171 => exact fun q => nomatch q
    intro _
    refine run_if (k := false) ?c4x170 ?c4x171 ?c4x172
    case c4x170 => exact tc (vr 0) ed_int c_eqI
    case c4x171 => exact fun q => nomatch q
    intro _
    refine run_if (k := false) ?c5x170 ?c5x171 ?c5x172
    case c5x170 => exact tc (vr 0) ed_int c_eqI
    case c5x171 => exact fun q => nomatch q
    intro _
    refine run_if (k := false) ?c6x170 ?c6x171 ?c6x172
    case c6x170 => exact tc (vr 0) ed_int c_eqI
    case c6x171 => exact fun q => nomatch q
    intro _
    refine run_exprX ?_
    refine ed_callFX F16 g16 hr (takes_of rfl rfl rfl rfl) ?ff17 ?fa17 ⟨v, sD [120], nn 4, rfl, .inr ⟨⟨[120], rfl, by decide, rfl⟩, ⟨v, nn 4, rfl, rfl, .inr ⟨4, rfl, by decide, by decide, rfl, .inl hv⟩⟩⟩⟩ (fun σ H1 R1 cls d H2 xo => hw σ H1 _ _ R1 cls d H2 (xo.down fun a h => List.mem_append_left _ h))
    case fa17 => exact (ea_cons (vr 1) (ea_cons (ed_S [120]) (ea_cons ed_int ea_nil)))
    case ff17 =>
      refine ed_ix (x := .list [ptD a13, ptD a14, ptD a15, ptD a16]) (y := .int ((17 : Int) - 14)) ?fl17 ?fv17 (i_list (n := 3) rfl (by decide))
      case fl17 => exact (ed_lst (ea_cons (ed_fname g13) (ea_cons (ed_fname g14) (ea_cons (ed_fname g15) (ea_cons (ed_fname g16) ea_nil)))) (by show 4 ≤ 1000; decide))
      case fv17 => exact ed_op (vr 0) ed_int o_sub
  | 18, _, hv =>
    have hv : noRow v := hv.resolve_right fun z => by omega
    refine run_if (k := false) ?c0x180 ?c0x181 ?c0x182
    case c0x180 => exact tc (vr 0) ed_int c_lt
    case c0x181 => exact fun q => nomatch q
    intro _
    refine run_if (k := false) ?c1x180 ?c1x181 ?c1x182
    case c1x180 => exact tc (vr 0) ed_int c_eqI
    case c1x181 => exact fun q => nomatch q
    intro _
    refine run_if (k := false) ?c2x180 ?c2x181 ?c2x182
    case c2x180 => exact tc (vr 0) ed_int c_eqI
    case c2x181 => exact fun q => nomatch q
    intro _
    refine run_if (k := false) ?c3x180 ?c3x181 ?c3x182
    case c3x180 => exact tc (vr 0) ed_int c_eqI
    case c3x181 => exact fun q => nomatch q
    intro _
    refine run_if (k := false) ?c4x180 ?c4x181 ?c4x182
    case c4x180 => exact tc (vr 0) ed_int c_eqI
    case c4x181 => exact fun q => nomatch q
    intro _
    refine run_if (k := false) ?c5x180 ?c5x181 ?c5x182
    case c5x180 => exact tc (vr 0) ed_int c_eqI
    case c5x181 => exact fun q => nomatch q
    intro _
    refine run_if (k := true) ?c6x180 ?c6x181 ?c6x182
    case c6x180 => exact tc (vr 0) ed_int c_eqI
    case c6x182 => exact fun q => nomatch q
    intro _
    exact run_exprX (ed_makeX FT hr (takes_of rfl rfl rfl rfl) (ea_cons (vr 1) (ea_cons ed_non ea_nil)) (fun l => ⟨_, _, _, rfl, .inl ⟨v, rfl, hv, rfl, rfl⟩⟩) fun σ H1 R1 cls d H2 xo => hw σ H1 _ _ R1 cls d H2 (xo.down fun a h => List.mem_append_left _ h))
  | q + 19, hq, _ => exact absurd hq (by omega)
theorem fd_law_told1 (F : FnP K "_law_told" s__law_told f fd) (X0 : ExF K mg "BadMask") (X1 : ExF K mg "BadRow") (m0_0 : PySem.W.exmOne K (.ref (He.ga K "BadMask")) (.ref (He.ga K "BadMask")) = some true) (m1_0 : PySem.W.exmOne K (.ref (He.ga K "BadRow")) (.ref (He.ga K "BadMask")) = some false) (m1_1 : PySem.W.exmOne K (.ref (He.ga K "BadRow")) (.ref (He.ga K "BadRow")) = some true) (F1 : FdX P w K mg base k "_law_masked" ["_law_kind", "_law_value"] R_masked) (F2 : FdX P w K mg base k "_law_rowed" ["_law_kind", "_law_value"] R_rowed) : FnOk P w K mg base CX0 (k + 1) f fd ["_law_kind", "_law_value"] (spR K R_told1) := by
  have sc : FnScope ["_law_kind", "_law_value", "_law_found"] ["_law_kind", "_law_value"] (defScope s__law_told) := ⟨rfl, rfl, rfl, by decide +kernel, rfl, by decide +kernel, by decide +kernel⟩
  refine fd_pure F sc _ (fun ds d ⟨_, _, e, _⟩ => by rw [e]; rfl) fun cdv A outer s H E hr W ds d hrow hR => ?_
  obtain ⟨q, v, rfl, hc⟩ := hR
  refine run_set (d := .none) 2 ed_non ?_ sc.nd
  rcases hc with ⟨hq, hv, rfl⟩ | ⟨hq, hq2, hv, rfl⟩
  · refine run_tryP (xr := "BadMask") (fo := none) (o := none) 2 (.bare ⟨rfl, by decide, .inl X0.g⟩ m0_0) (by decide) (fun pn xe Wx t hp hw => ?_) (fun W1 a oe pn cls d cg => ed_S [109, 97, 115, 107]) (run_ret (vr 2) rfl) sc.nd
    refine run_if (k := true) (EdT.to (tc (vr 0) ed_int c_lt) (decide_eq_true (by omega))) (fun _ => ?_) (fun q => nomatch q)
    exact run_exprX (ed_callX F1 hr t (ea_cons (vr 0) (ea_cons (vr 1) ea_nil)) ⟨q, v, rfl, hq, hv, rfl, rfl⟩ hw)
  · refine run_tryP (xr := "BadRow") (fo := none) (o := none) 2 (.skip ⟨rfl, by decide, .inl X0.g⟩ m1_0 (.bare ⟨rfl, by decide, .inl X1.g⟩ m1_1)) (by decide) (fun pn xe Wx t hp hw => ?_) (fun W1 a oe pn cls d cg => ed_S [114, 111, 119]) (run_ret (vr 2) rfl) sc.nd
    refine run_if (k := false) (EdT.to (tc (vr 0) ed_int c_lt) (decide_eq_false (by omega))) (fun q => nomatch q) (fun _ => ?_)
    exact run_exprX (ed_callX F2 hr t (ea_cons (x := nn (q - 28)) (Ed.to (ed_op (vr 0) ed_int o_sub) (congrArg PyData.int (by omega))) (ea_cons (vr 1) ea_nil)) ⟨q - 28, v, rfl, by omega, hv.imp_right (fun z => ⟨z.1, by omega⟩), rfl, rfl⟩ hw)
theorem fd_all_masks (F : FnP K "all_masks" s_all_masks f fd) (G : Gs mg) (gS : gSEEN mg) (gH : gHOLE mg) : FnOk P w K mg base CX0 (k + 1) f fd ["width"] (spR K R_all_masks) := by
  have sc : FnScope ["width", "found", "turn", "some", "sign"] ["width"] (defScope s_all_masks) := ⟨rfl, rfl, rfl, by decide +kernel, rfl, by decide +kernel, by decide +kernel⟩
  refine fd_pure F sc _ (fun ds d ⟨m, e, _⟩ => by rw [e]; rfl) fun cdv A outer s H E hr W ds d hrow hR => ?_
  obtain ⟨wd, rfl, h1, h2, rfl⟩ := hR
  refine run_if (k := decide (wd = 1)) (tc (vr 0) ed_int c_eqI |>.to (decide_eq_decide.mpr (by omega))) (fun q => run_ret (ed_lst (ea_cons (ed_gS [120] gS) ea_nil) (by simp)) (by unfold masksL; rw [if_pos (of_decide_eq_true q)]; rfl)) (fun q => run_skip ?_)
  have q' : wd ≠ 1 := of_decide_eq_false q
  have hg : ∀ i, i ≤ 10 → (maskG i).length ≤ 1024 := fun i hi => by
    rw [maskG_len]
    exact Nat.le_trans (Nat.pow_le_pow_right (by decide) hi) (by decide)
  refine run_set 1 (ed_lst (ea_cons (ed_gS [120] gS) ea_nil) (by simp)) ?_ sc.nd
  refine run_for 2 (it_range (n := wd - 2) (ed_op (vr 0) ed_int o_sub) G.range) (fun i Γ μ => Γ = [.d (nn wd), .d (wD (maskG i)), .no, .no, .no] ∧ μ = []) ⟨rfl, rfl⟩ (fun W1 lw i x Γ' μ' hx ⟨e1, e2⟩ => ?_) (fun Γ' μ' ⟨e1, e2⟩ => ?_) sc.nd
  · subst e1
    subst e2
    have hi : i < wd - 2 := by
      have := (List.getElem?_eq_some_iff.mp hx).1
      simpa using this
    have hgi := hg i (by omega)
    have hfl : ((maskG i).flatMap fun v => [46, 120].map fun c => sD (v ++ [c])) = (maskG (i + 1)).map sD := by
      rw [maskG, List.map_flatMap]
      rfl
    refine run_setLc2 1 3 4 (it_list (xs := maskG i) (enc := sD) (vr 1)) (fun _ => [46, 120]) (fun v c => sD (v ++ [c])) (by rw [hfl, List.length_map]; have := hg (i + 1) (by omega); omega) (fun v hv W2 lw2 s2 H2 C2 cl2 fp2 => it_str (cs := [46, 120]) (ed_op (ed_gS [46] gH) (ed_gS [120] gS) (o_adds (by decide)))) (fun v hv c hc W2 lw2 s2 H2 C2 cl2 fp2 => ed_op (vr 3) (vr 4) (o_adds (m := [c]) (by have := (mem_maskG hv).1; simp; omega))) ?_ sc.nd
    rw [hfl]
    refine run_go [.d (nn wd), .d (wD (maskG (i + 1))), .no, .no, .no] ⟨.inr rfl, .inr rfl, .inl rfl, .inr rfl, .inr rfl, trivial⟩ ?_
    exact ⟨rfl, rfl⟩
  · subst e1
    subst e2
    rw [List.length_range]
    refine run_ret (lcN0 3 (it_list (xs := maskG (wd - 2)) (enc := sD) (vr 1)) (by have := hg (wd - 2) (by omega); omega) (fun v => sD (v ++ [120])) (fun v hv W2 lw2 s2 H2 C2 cl2 fp2 => ed_op (vr 3) (ed_gS [120] gS) (o_adds (by have := (mem_maskG hv).1; simp; omega))) sc.nd |>.ed sc.nd) ?_
    show PyData.list _ = PyData.list _
    unfold masksL
    rw [if_neg q', List.map_map]
    rfl
theorem fd_view_by (F : FnP K "view_by" s_view_by f fd) (G : Gs mg) (F1 : Fd P w K mg base k "seen_by" ["mask"] (spR K R_seen_by)) : FnOk P w K mg base CX0 (k + 1) f fd ["row", "mask", "place"] (spR K R_view_by) := by
  have sc : FnScope ["row", "mask", "place", "at"] ["row", "mask", "place"] (defScope s_view_by) := ⟨rfl, rfl, rfl, by decide +kernel, rfl, by decide +kernel, by decide +kernel⟩
  refine fd_pure F sc _ (fun ds d ⟨l, m, p, e, _⟩ => by rw [e]; rfl) fun cdv A outer s H E hr W ds d hrow hR => ?_
  obtain ⟨l, m, p, rfl, h1, h2, h3, rfl⟩ := hR
  have h4 := seenL_len m
  refine run_ret (ed_joinC (viewL l m p) (ed_S []) (lcN0 3 (it_list (enc := nn) (xs := seenL m) (ed_call F1 hr (ea_cons (vr 1) ea_nil) ⟨m, rfl, by omega, rfl⟩)) (by omega) (fun a => sg (l.getD (p + a) 0)) (fun a ha W2 lw2 s2 H2 C2 cl2 fp2 => ed_ix (vr 0) (ed_op (vr 2) (vr 3) o_add) (i_str (n := p + a) (by omega) (by
        have h5 := mem_seen ha
        have : p + a < l.length := by omega
        rw [List.getD_eq_getElem?_getD, List.getElem?_eq_getElem this]
        rfl) (by push_cast; rfl))) sc.nd |>.ed sc.nd) (by unfold viewL; rw [List.map_map]; rfl) (by unfold viewL; simp; omega)) rfl
theorem fd_longer (F : FnP K "longer" s_longer f fd) (G : Gs mg) (gL : gLETTERS mg) (F1 : Fd P w K mg base k "view_by" ["row", "mask", "place"] (spR K R_view_by)) : FnOk P w K mg base CX0 (k + 1) f fd ["rows", "mask", "letters"] (spR K R_longer) := by
  have sc : FnScope ["rows", "mask", "letters", "found", "row", "told", "letter", "wide", "view"] ["rows", "mask", "letters"] (defScope s_longer) := ⟨rfl, rfl, rfl, by decide +kernel, rfl, by decide +kernel, by decide +kernel⟩
  refine fd_pure F sc _ (fun ds d ⟨rs, m, n, e, _⟩ => by rw [e]; rfl) fun cdv A outer s H E hr W ds d hrow hR => ?_
  obtain ⟨rs, m, n, rfl, h1, h2, hm, hrl, hsz, hnx, rfl⟩ := hR
  have hml := maskB_len hm
  have hm1 := maskB_pos hm
  refine run_newL 3 (fun a => ?_) sc.nd
  refine run_for2 4 5 (it_list (xs := rs) (enc := rowT m) (vr 0)) (fun i Γ μ => Γ = [.d (rowsT m rs), .d (sD m), .d (nn n), .r a, .no, .no, .no, .no, .no] ∧ μ = [(a, .lst ((nextL m n (rs.take i)).map (rowT m)))]) ⟨rfl, rfl⟩ (fun W1 lw i r Γ' μ' hx ⟨e1, e2⟩ => ?_) (fun Γ' μ' ⟨e1, e2⟩ => ?_) sc.nd
  · subst e1
    subst e2
    have hr3 := hrl r (List.mem_of_getElem? hx)
    have hnl : nextL m n (rs.take (i + 1)) = nextL m n (rs.take i) ++ stepR m n r := by
      unfold nextL
      rw [List.take_add_one, hx, List.flatMap_append]
      simp
    have hle : (nextL m n (rs.take (i + 1))).length ≤ (nextL m n rs).length := by
      have : nextL m n rs = nextL m n (rs.take (i + 1)) ++ nextL m n (rs.drop (i + 1)) := by
        unfold nextL
        rw [← List.flatMap_append, List.take_append_drop]
      rw [this, List.length_append]
      omega
    rw [hnl, List.length_append] at hle
    refine run_for 6 (it_str (cs := letL n) (ed_sl (ed_gS [97, 98, 99, 100] gL) so_none (so_some (vr 2)) (s_strT n (by decide)))) (fun j Γ μ => Γ = [.d (rowsT m rs), .d (sD m), .d (nn n), .r a, .d (sD r), .d (.tuple ((viewsL r m).map sD)), .no, .no, .no] ∧ μ = [(a, .lst ((nextL m n (rs.take i) ++ (((letL n).take j).filter (okC m r)).map fun c => r ++ [c]).map (rowT m)))]) ⟨rfl, by simp⟩ (fun W3 lw3 j c Γ' μ' hc ⟨e1, e2⟩ => ?_) (fun Γ' μ' ⟨e1, e2⟩ => ?_) sc.nd
    · subst e1
      subst e2
      have hpl : ((((letL n).take j).filter (okC m r)).map fun c => r ++ [c]).length + (if okC m r c = true then 1 else 0) ≤ (stepR m n r).length := by
        unfold stepR
        rw [List.length_map, List.length_map]
        have h3 : (letL n).take (j + 1) = (letL n).take j ++ [c] := by rw [List.take_add_one, hc]; rfl
        have h4 : letL n = (letL n).take (j + 1) ++ (letL n).drop (j + 1) := (List.take_append_drop ..).symm
        have h5 : ((letL n).filter (okC m r)).length = (((letL n).take j).filter (okC m r)).length + (([c].filter (okC m r)).length + (((letL n).drop (j + 1)).filter (okC m r)).length) := by
          conv => lhs; rw [h4, h3]
          rw [List.filter_append, List.filter_append, List.length_append, List.length_append]
          omega
        rw [h5]
        by_cases q : okC m r c = true
        · rw [if_pos q, List.filter_cons_of_pos q]
          simp
        · rw [if_neg q]
          omega
      have ht : ((letL n).take (j + 1)).filter (okC m r) = ((letL n).take j).filter (okC m r) ++ (if okC m r c = true then [c] else []) := take_succ_filter hc
      have hwl : (r ++ [c]).length = r.length + 1 := by simp
      have hvs := viewsL_snoc r m c hm1
      have fin : ∀ b : Bool, okC m r c = b → (nextL m n (rs.take i) ++ (((letL n).take (j + 1)).filter (okC m r)).map fun c => r ++ [c]).map (rowT m) = (nextL m n (rs.take i) ++ (((letL n).take j).filter (okC m r)).map fun c => r ++ [c]).map (rowT m) ++ (if b = true then [rowT m (r ++ [c])] else []) := fun b hb => by
        rw [ht, hb]
        cases b with
        | true => simp
        | false => simp
      refine run_set 7 (ed_op (vr 4) (vr 6) (o_adds (m := [c]) (by simp; omega))) ?_ sc.nd
      refine run_if (k := decide (r.length + 1 < m.length)) (tc (ed_callB G.len boot_len (ea_cons (vr 7) ea_nil) (c_lenS (by omega))) (ed_callB G.len boot_len (ea_cons (vr 1) ea_nil) (c_lenS (by omega))) c_lt |>.to (decide_eq_decide.mpr (by rw [hwl]; omega))) (fun q => ?_) (fun q => ?_)
      · have q' := of_decide_eq_true q
        have hok : okC m r c = true := by unfold okC; rw [q]; rfl
        rw [if_pos q'] at hvs
        rw [if_pos hok] at hpl
        refine run_app (ys := (nextL m n (rs.take i) ++ (((letL n).take j).filter (okC m r)).map fun c => r ++ [c]).map (rowT m)) (d := rowT m (r ++ [c])) 3 0 ((ed_tup (ea_cons (vr 7) (ea_cons (vr 5) ea_nil)) (by simp)).to (by show _ = rowT m (r ++ [c]); unfold rowT; rw [hvs])) (by rw [List.length_map, List.length_append]; omega) (run_skip ?_)
        refine run_go [.d (rowsT m rs), .d (sD m), .d (nn n), .r a, .d (sD r), .d (.tuple ((viewsL r m).map sD)), .no, .no, .no] ⟨.inr rfl, .inr rfl, .inr rfl, .inr rfl, .inr rfl, .inr rfl, .inl rfl, .inl rfl, .inr rfl, trivial⟩ ?_
        refine ⟨rfl, ?_⟩
        rw [fin true hok]
        rfl
      · have q' := of_decide_eq_false q
        rw [if_neg q'] at hvs
        have hvl := viewsL_len r m
        refine run_set 8 (ed_call F1 hr (ea_cons (vr 7) (ea_cons (vr 1) (ea_cons (ed_op (ed_callB G.len boot_len (ea_cons (vr 7) ea_nil) (c_lenS (by omega))) (ed_callB G.len boot_len (ea_cons (vr 1) ea_nil) (c_lenS (by omega))) o_sub) ea_nil))) ⟨r ++ [c], m, r.length + 1 - m.length, ?_, by omega, by omega, by omega, rfl⟩) ?_ sc.nd
        · have e3 : (((r ++ [c]).length : Nat) : Int) - (m.length : Int) = ((r.length + 1 - m.length : Nat) : Int) := by omega
          rw [e3]
        · refine run_if (k := okC m r c) (tc (vr 8) (vr 5) c_ninTS |>.to (by unfold okC; rw [q, Bool.false_or])) (fun hok => ?_) (fun hok => run_skip (run_skip ?_))
          · rw [if_pos hok] at hpl
            refine run_app (ys := (nextL m n (rs.take i) ++ (((letL n).take j).filter (okC m r)).map fun c => r ++ [c]).map (rowT m)) (d := rowT m (r ++ [c])) 3 0 ((ed_tup (ea_cons (vr 7) (ea_cons (ed_op (vr 5) (ed_tup (ea_cons (vr 8) ea_nil) (by simp)) (o_catT (by simp; omega))) ea_nil)) (by simp)).to (by show _ = rowT m (r ++ [c]); unfold rowT; rw [hvs, List.map_append]; rfl)) (by rw [List.length_map, List.length_append]; omega) (run_skip (run_skip ?_))
            refine run_go [.d (rowsT m rs), .d (sD m), .d (nn n), .r a, .d (sD r), .d (.tuple ((viewsL r m).map sD)), .no, .no, .no] ⟨.inr rfl, .inr rfl, .inr rfl, .inr rfl, .inr rfl, .inr rfl, .inl rfl, .inl rfl, .inl rfl, trivial⟩ ?_
            refine ⟨rfl, ?_⟩
            rw [fin true hok]
            rfl
          · refine run_go [.d (rowsT m rs), .d (sD m), .d (nn n), .r a, .d (sD r), .d (.tuple ((viewsL r m).map sD)), .no, .no, .no] ⟨.inr rfl, .inr rfl, .inr rfl, .inr rfl, .inr rfl, .inr rfl, .inl rfl, .inl rfl, .inl rfl, trivial⟩ ?_
            refine ⟨rfl, ?_⟩
            rw [fin false hok]
            simp
    · subst e1
      subst e2
      refine run_go [.d (rowsT m rs), .d (sD m), .d (nn n), .r a, .no, .no, .no, .no, .no] ⟨.inr rfl, .inr rfl, .inr rfl, .inr rfl, .inl rfl, .inl rfl, .inr rfl, .inr rfl, .inr rfl, trivial⟩ ?_
      refine ⟨rfl, ?_⟩
      rw [List.take_length, hnl]
      rfl
  · subst e1
    subst e2
    refine run_retL 3 (hl := by simp) ?_
    rw [List.take_length]
theorem fd_levels_of (F : FnP K "levels_of" s_levels_of f fd) (F1 : Fd P w K mg base k "longer" ["rows", "mask", "letters"] (spR K R_longer)) : FnOk P w K mg base CX0 (k + 1) f fd ["mask", "letters"] (spR K R_levels_of) := by
  have sc : FnScope ["mask", "letters", "found", "rows", "row", "told"] ["mask", "letters"] (defScope s_levels_of) := ⟨rfl, rfl, rfl, by decide +kernel, rfl, by decide +kernel, by decide +kernel⟩
  refine fd_pure F sc _ (fun ds d ⟨m, n, e, _⟩ => by rw [e]; rfl) fun cdv A outer s H E hr W ds d hrow hR => ?_
  obtain ⟨m, n, rfl, hs, rfl⟩ := hR
  have hu := hr.units
  have hml := maskB_len hs.mask
  have hm1 := hs.pos
  obtain ⟨g1, g2⟩ := hs.topK
  have hK : topK m n ≤ 16 + m.length := by
    rcases Nat.lt_or_ge (16 + m.length) (topK m n) with h | h
    · exact absurd hs.ends (g2 _ h)
    · exact h
  refine run_parL0 2 3 (fun a => ed_lst (ea_cons (ed_tup (ea_cons (ed_S []) (ea_cons (ed_tup ea_nil (by simp)) ea_nil)) (by simp)) ea_nil) (by simp)) (fun a => ?_) sc.nd
  have e0 : (PyData.list [PyData.tuple [PyData.str (S []), PyData.tuple []]]) = rowsT m (lev m n 0) := by
    have : viewsL [] m = [] := by
      unfold viewsL
      have : ([] : List Nat).length + 1 - m.length = 0 := by simp; omega
      rw [this]
      rfl
    simp [lev, rowT, this]
  rw [e0]
  refine run_while (fun q Γ μ => q ≤ topK m n ∧ Γ = [.d (sD m), .d (nn n), .r a, .d (rowsT m (lev m n (topK m n - q))), .no, .no] ∧ μ = [(a, .lst ((List.range (topK m n - q)).map fun j => wD (lev m n j)))]) (fun q => !(lev m n (topK m n - q)).isEmpty) (topK m n) ⟨Nat.le_refl _, by rw [Nat.sub_self]; rfl, by rw [Nat.sub_self]; rfl⟩ (fun W1 lw q Γ' μ' ⟨hq, e1, e2⟩ => ?_) (fun W1 lw q Γ' μ' hb ⟨hq, e1, e2⟩ => ?_) (fun q Γ' μ' hb ⟨hq, e1, e2⟩ => ?_)
  · subst e1
    subst e2
    exact tc (vr 3) (ed_lst ea_nil (by simp)) (c_neNil hu (shp_lev hm1 hs.hi _)) |>.to (by rw [List.isEmpty_map])
  · subst e1
    subst e2
    have hq0 : 0 < q := by
      rcases Nat.eq_zero_or_pos q with e | e
      · subst e
        rw [Nat.sub_zero, g1] at hb
        cases hb
      · exact e
    have hlen := hs.len (topK m n - q)
    have hlen2 : (nextL m n (lev m n (topK m n - q))).length ≤ 8388608 := hs.len (topK m n - q + 1)
    refine run_app (ys := (List.range (topK m n - q)).map fun j => wD (lev m n j)) (d := wD (lev m n (topK m n - q))) 2 0 (lcP0 4 5 (it_list (xs := lev m n (topK m n - q)) (enc := rowT m) (vr 3)) (by omega) sD (fun r hr W2 lw2 s2 H2 C2 cl2 fp2 => vr 4) sc.nd |>.ed sc.nd) (by simp; omega) ?_
    refine run_set 3 (ed_call F1 hr (ea_cons (vr 3) (ea_cons (vr 0) (ea_cons (vr 1) ea_nil))) ⟨lev m n (topK m n - q), m, n, rfl, hs.lo, hs.hi, hs.mask, fun r hr => ?_, by omega, by omega, rfl⟩) ?_ sc.nd
    · have := ((mem_lev hm1 hs.hi).mp hr).1
      omega
    · refine run_go [.d (sD m), .d (nn n), .r a, .d (rowsT m (lev m n (topK m n - (q - 1)))), .no, .no] ⟨.inr rfl, .inr rfl, .inr rfl, .inr ?_, .inr rfl, .inr rfl, trivial⟩ ?_
      · have e : topK m n - (q - 1) = (topK m n - q) + 1 := by omega
        rw [e]
        rfl
      · refine ⟨q - 1, by omega, by omega, rfl, ?_⟩
        have e : topK m n - (q - 1) = (topK m n - q) + 1 := by omega
        rw [e, List.range_succ, List.map_append]
        rfl
  · subst e1
    subst e2
    have e : topK m n - q = topK m n := by
      rcases Nat.lt_or_ge (topK m n - q) (topK m n) with h | h
      · have := g2 _ h
        simp only [Bool.not_eq_false', List.isEmpty_iff] at hb
        exact absurd hb this
      · omega
    rw [e]
    exact run_retL 2 (hl := by simp) rfl
theorem fd_best_masks (F : FnP K "best_masks" s_best_masks f fd) (G : Gs mg) (gM : gMOST_MASK mg) (gW : gWID K mg) (gS : gSEE K mg) (F1 : Fd P w K mg base k "is_from" ["value", "low", "high"] (spR K R_is_from)) (F2 : Fd P w K mg base k "need_letters" ["letters"] (spR K R_need_letters)) (F3 : Fd P w K mg base k "all_masks" ["width"] (spR K R_all_masks)) (F4 : Fd P w K mg base k "seen_by" ["mask"] (spR K R_seen_by)) (F5 : Fd P w K mg base k "levels_of" ["mask", "letters"] (spR K R_levels_of)) : FnOk P w K mg base CX0 (k + 1) f fd ["many", "width", "letters"] (spR K R_best_masks) := by
  have sc : FnScope ["many", "width", "letters", "best", "found", "size", "mask", "length"] ["many", "width", "letters"] (defScope s_best_masks) := ⟨rfl, rfl, rfl, by decide +kernel, rfl, by decide +kernel, by decide +kernel⟩
  refine fd_pure F sc _ (fun ds d ⟨a, b, c, e, _⟩ => by rw [e]; rfl) fun cdv A outer s H E hr W ds d hrow hR => ?_
  obtain ⟨many, wd, n, rfl, h1, h2, h3, h4, h5, h6, h7, h8, rfl⟩ := hR
  have ix : ∀ a b c d : Nat, ([(a : Int), b, c, d].map PyData.int)[n - 1]? = some (nn ([a, b, c, d].getD (n - 1) 0)) := fun a b c d => by
    match n, h5, h6 with
    | 1, _, _ => rfl
    | 2, _, _ => rfl
    | 3, _, _ => rfl
    | 4, _, _ => rfl
  have tru : ∀ x : Nat, 1 ≤ x → x ≤ 12 → (decide ((1 : Int) ≤ (x : Int)) && decide ((x : Int) ≤ (12 : Int))) = true := fun x g1 g2 => by
    have e1 : decide ((1 : Int) ≤ (x : Int)) = true := decide_eq_true (by omega)
    have e2 : decide ((x : Int) ≤ (12 : Int)) = true := decide_eq_true (by omega)
    rw [e1, e2]
    rfl
  refine run_if (k := false) (t_not (k := true) (et_val ((ed_call F1 hr (ea_cons (vr 0) (ea_cons ed_int (ea_cons (ed_gint gM) ea_nil))) ⟨(many : Int), 1, 12, rfl, rfl⟩).to (congrArg PyData.bool (tru many h1 h2))))) (fun q => nomatch q) (fun _ => run_skip ?_)
  refine run_if (k := false) (t_not (k := true) (et_val ((ed_call F1 hr (ea_cons (vr 1) (ea_cons ed_int (ea_cons (ed_gint gM) ea_nil))) ⟨(wd : Int), 1, 12, rfl, rfl⟩).to (congrArg PyData.bool (tru wd h3 h4))))) (fun q => nomatch q) (fun _ => run_skip ?_)
  refine run_expr (ed_call F2 hr (ea_cons (vr 2) ea_nil) ⟨n, rfl, h5, h6, rfl⟩) ?_
  refine run_if (k := false) (t_or (k := false) (l := false) (tc (vr 1) (ed_ix (ed_gtup gW) (ed_op (vr 2) ed_int o_sub) (i_tup (n := n - 1) (ix 12 8 5 4) (by omega))) c_gt |>.to (decide_eq_false (by omega))) fun _ => tc (vr 0) (ed_ix (ed_gtup gS) (ed_op (vr 2) ed_int o_sub) (i_tup (n := n - 1) (ix 12 4 2 1) (by omega))) c_gt |>.to (decide_eq_false (by omega))) (fun q => nomatch q) (fun _ => run_skip ?_)
  refine run_parL1 3 4 ed_int (fun a0 => ?_) sc.nd
  have small : ∀ i m, i < wd → m ∈ masksL (i + 1) → (seenL m).length = many → Small m n := fun i m hi hm hs => by
    obtain ⟨g1, g2⟩ := mem_masksL (by omega) (by omega) hm
    exact ⟨g1, h5, h6, by omega, by omega⟩
  refine run_for 5 (it_range2 (n := wd) ed_int (ed_op (vr 1) ed_int o_add) G.range) (fun i Γ μ => ∃ a, Γ = [.d (nn many), .d (nn wd), .d (nn n), .d (nn (foldB many n (allM i)).1), .r a, .no, .no, .no] ∧ μ = [(a, .lst ((foldB many n (allM i)).2.map sD))]) ⟨a0, rfl, rfl⟩ (fun W1 lw i x Γ' μ' hx ⟨a, e1, e2⟩ => ?_) (fun Γ' μ' ⟨a, e1, e2⟩ => ?_) sc.nd
  · subst e1
    subst e2
    have hi : i < wd := by
      have := (List.getElem?_eq_some_iff.mp hx).1
      simpa using this
    have hxi : x = i := by
      rw [List.getElem?_range hi] at hx
      exact (Option.some.inj hx).symm
    subst hxi
    have e1x : PyData.int ((1 : Int) + (x : Int)) = nn (x + 1) := by
      show PyData.int _ = PyData.int _
      congr 1
      push_cast
      omega
    rw [e1x]
    have hml : (masksL (x + 1)).length ≤ 1024 := masksL_len (by omega)
    have ham : allM (x + 1) = allM x ++ masksL (x + 1) := by
      unfold allM
      rw [List.range_succ, List.flatMap_append]
      simp
    have haml : (allM x).length ≤ 12288 := allM_len (by omega)
    refine run_for 6 (it_list (xs := masksL (x + 1)) (enc := sD) (ed_call F3 hr (ea_cons (vr 5) ea_nil) ⟨x + 1, rfl, by omega, by omega, rfl⟩)) (fun j Γ μ => ∃ a, Γ = [.d (nn many), .d (nn wd), .d (nn n), .d (nn (foldB many n (allM x ++ (masksL (x + 1)).take j)).1), .r a, .d (nn (x + 1)), .no, .no] ∧ μ = [(a, .lst ((foldB many n (allM x ++ (masksL (x + 1)).take j)).2.map sD))]) ⟨a, by rw [List.take_zero, List.append_nil]; rfl, by rw [List.take_zero, List.append_nil]⟩ (fun W2 lw2 j m Γ' μ' hm ⟨a, e1, e2⟩ => ?_) (fun Γ' μ' ⟨a, e1, e2⟩ => ?_) sc.nd
    · subst e1
      subst e2
      have hmm : m ∈ masksL (x + 1) := List.mem_of_getElem? hm
      obtain ⟨g1, g2⟩ := mem_masksL (by omega) (by omega) hmm
      have hstep : foldB many n (allM x ++ (masksL (x + 1)).take (j + 1)) = stepB many n (foldB many n (allM x ++ (masksL (x + 1)).take j)) m := by
        rw [List.take_add_one, hm, ← List.append_assoc]
        exact foldB_snoc many n _ m
      have hfl := foldB_len many n (allM x ++ (masksL (x + 1)).take j)
      rw [List.length_append, List.length_take] at hfl
      rw [hstep]
      generalize foldB many n (allM x ++ (masksL (x + 1)).take j) = st at hfl
      obtain ⟨bst, fnd⟩ := st
      refine run_if (k := decide ((seenL m).length = many)) (tc (ed_callB G.len boot_len (ea_cons (ed_call F4 hr (ea_cons (vr 6) ea_nil) ⟨m, rfl, by omega, rfl⟩) ea_nil) c_lenL) (vr 0) c_eqI |>.to (decide_eq_decide.mpr (by rw [List.length_map]; omega))) (fun q => ?_) (fun q => run_skip ?_)
      · have q' := of_decide_eq_true q
        have sm := small x m hi hmm q'
        have htp := sm.topK_pos
        refine run_set (d := nn (topK m n - 1)) 7 ((ed_op (ed_callB G.len boot_len (ea_cons (ed_call F5 hr (ea_cons (vr 6) (ea_cons (vr 2) ea_nil)) ⟨m, n, rfl, sm, rfl⟩) ea_nil) c_lenL) ed_int o_sub).to (by
          rw [List.length_map, List.length_range]
          show PyData.int _ = PyData.int _
          congr 1
          omega)) ?_ sc.nd
        refine run_ifJ (k := decide (topK m n - 1 > bst)) (fun Γ μ => ∃ a, Γ = [.d (nn many), .d (nn wd), .d (nn n), .d (nn (if topK m n - 1 > bst then topK m n - 1 else bst)), .r a, .d (nn (x + 1)), .d (sD m), .d (nn (topK m n - 1))] ∧ μ = [(a, .lst ((if topK m n - 1 > bst then [] else fnd).map sD))]) (tc (vr 7) (vr 3) c_gt |>.to (decide_eq_decide.mpr (by omega))) (fun q1 => ?_) (fun q1 => ?_) (fun Γ' μ' ⟨a2, e1, e2⟩ => ?_)
        · have q1' := of_decide_eq_true q1
          refine run_parL1 3 4 (vr 7) (fun a2 => ?_) sc.nd
          rw [if_pos q1', if_pos q1']
          refine run_to [.d (nn many), .d (nn wd), .d (nn n), .d (nn (topK m n - 1)), .r a2, .d (nn (x + 1)), .d (sD m), .d (nn (topK m n - 1))] [(a2, .lst [])] ⟨.inr rfl, .inr rfl, .inr rfl, .inr rfl, .inr rfl, .inr rfl, .inr rfl, .inr rfl, trivial⟩ ?_ ?_
          · exact List.Sublist.cons₂ _ (List.nil_sublist _)
          · exact ⟨a2, rfl, rfl⟩
        · have q1' := of_decide_eq_false q1
          rw [if_neg q1', if_neg q1']
          refine run_to [.d (nn many), .d (nn wd), .d (nn n), .d (nn bst), .r a, .d (nn (x + 1)), .d (sD m), .d (nn (topK m n - 1))] [(a, .lst (fnd.map sD))] ⟨.inr rfl, .inr rfl, .inr rfl, .inr rfl, .inr rfl, .inr rfl, .inr rfl, .inr rfl, trivial⟩ ?_ ?_
          · exact List.Sublist.refl _
          · exact ⟨a, rfl, rfl⟩
        · subst e1
          subst e2
          by_cases q1 : topK m n - 1 > bst
          · rw [if_pos q1, if_pos q1]
            have es : stepB many n (bst, fnd) m = (topK m n - 1, [m]) := by
              unfold stepB
              rw [if_pos q', if_pos q1]
            rw [es]
            refine run_if (k := true) (tc (vr 7) (vr 3) c_eqI |>.to (decide_eq_true rfl)) (fun _ => ?_) (fun q => nomatch q)
            refine run_app (ys := []) 4 0 (vr 6) (by simp) (run_skip (run_skip ?_))
            refine run_go [.d (nn many), .d (nn wd), .d (nn n), .d (nn (topK m n - 1)), .r a2, .d (nn (x + 1)), .no, .no] ⟨.inr rfl, .inr rfl, .inr rfl, .inr rfl, .inr rfl, .inr rfl, .inl rfl, .inl rfl, trivial⟩ ?_
            exact ⟨a2, rfl, rfl⟩
          · rw [if_neg q1, if_neg q1]
            refine run_if (k := decide (topK m n - 1 = bst)) (tc (vr 7) (vr 3) c_eqI |>.to (decide_eq_decide.mpr (by omega))) (fun q2 => ?_) (fun q2 => run_skip (run_skip ?_))
            · have q2' := of_decide_eq_true q2
              have es : stepB many n (bst, fnd) m = (bst, fnd ++ [m]) := by
                unfold stepB
                rw [if_pos q', if_neg q1, if_pos q2']
              rw [es]
              refine run_app (ys := fnd.map sD) 4 0 (vr 6) (by rw [List.length_map]; have hfl' : fnd.length ≤ _ := hfl; omega) (run_skip (run_skip ?_))
              refine run_go [.d (nn many), .d (nn wd), .d (nn n), .d (nn bst), .r a2, .d (nn (x + 1)), .no, .no] ⟨.inr rfl, .inr rfl, .inr rfl, .inr rfl, .inr rfl, .inr rfl, .inl rfl, .inl rfl, trivial⟩ ?_
              refine ⟨a2, rfl, ?_⟩
              rw [List.map_append]
              rfl
            · have q2' := of_decide_eq_false q2
              have es : stepB many n (bst, fnd) m = (bst, fnd) := by
                unfold stepB
                rw [if_pos q', if_neg q1, if_neg q2']
              rw [es]
              refine run_go [.d (nn many), .d (nn wd), .d (nn n), .d (nn bst), .r a2, .d (nn (x + 1)), .no, .no] ⟨.inr rfl, .inr rfl, .inr rfl, .inr rfl, .inr rfl, .inr rfl, .inl rfl, .inl rfl, trivial⟩ ?_
              exact ⟨a2, rfl, rfl⟩
      · have q' := of_decide_eq_false q
        have es : stepB many n (bst, fnd) m = (bst, fnd) := by
          unfold stepB
          rw [if_neg q']
        rw [es]
        refine run_go [.d (nn many), .d (nn wd), .d (nn n), .d (nn bst), .r a, .d (nn (x + 1)), .no, .no] ⟨.inr rfl, .inr rfl, .inr rfl, .inr rfl, .inr rfl, .inr rfl, .inl rfl, .inr rfl, trivial⟩ ?_
        exact ⟨a, rfl, rfl⟩
    · subst e1
      subst e2
      rw [List.take_length, ← ham]
      refine run_go [.d (nn many), .d (nn wd), .d (nn n), .d (nn (foldB many n (allM (x + 1))).1), .r a, .no, .no, .no] ⟨.inr rfl, .inr rfl, .inr rfl, .inr rfl, .inr rfl, .inl rfl, .inr rfl, .inr rfl, trivial⟩ ?_
      exact ⟨a, rfl, rfl⟩
  · subst e1
    subst e2
    rw [List.length_range]
    refine run_fix 4 (ys := (foldB many n (allM wd)).2.map sD) ?_
    exact run_ret (ed_tup (ea_cons (vr 3) (ea_cons (vr 4) ea_nil)) (by simp)) rfl
end
end HW
set_option maxHeartbeats 4000000
namespace HW
open PySem PySem.Spec PyProof.Rows L2 Tx
open SX (S)
theorem best_one : topK [120] 2 = 3 ∧ Small [120] 2 := by
  have hs : Small [120] 2 := ⟨by decide, by decide, by decide, by decide, by decide⟩
  have n1 : lev [120] 2 3 = [] := by decide +kernel
  have n2 : ∀ j, j < 3 → lev [120] 2 j ≠ [] := by decide +kernel
  exact ⟨(topK_eq hs n1 n2).symm, hs⟩
theorem best_two : foldB 1 2 (allM 1) = (2, [[120]]) := by
  have e : allM 1 = [[120]] := by decide +kernel
  have e2 : foldB 1 2 [[120]] = stepB 1 2 (0, []) [120] := rfl
  rw [e, e2]
  unfold stepB
  rw [best_one.1]
  rfl
section
variable {P : Program} {w : World} {K : PySem.W.Frag} {mg : Str → Option Value} {base : Heap} {f : Addr} {fd : FuncData} {k : Nat}
theorem fd_the_law (F : FnP K "law" s_law f fd) (G : Gs mg) (F0 : DRAW P w K mg base k) (F1 : Fd P w K mg base k "_law_odd_mask" ["_law_row"] (spW K (fun ds => ds = []) post_oddM)) (F2 : Fd P w K mg base k "_law_odd_row" ["_law_row"] (spW K (fun ds => ds = []) post_oddR)) (F3 : Fd P w K mg base k "_law_told" ["_law_kind", "_law_value"] (spR K R_told1)) (F4 : Fd P w K mg base k "best_masks" ["many", "width", "letters"] (spR K R_best_masks)) : FnOk P w K mg base CX0 (k + 1) f fd ["_law_script"] (spLaw K) := by
  have sc : FnScope ["_law_script", "_law_row", "_law_turn"] ["_law_script"] (defScope s_law) := ⟨rfl, rfl, rfl, by decide +kernel, rfl, by decide +kernel, by decide +kernel⟩
  refine fd_law (rest := (defBody s_law).drop 1) F sc rfl rfl (h := fun cdv A outer s H E hr W r scr ns hrow => ?_)
  have hu := hr.units
  refine run_forS 2 (it_range (n := 12) ed_int G.range) (fun i => [.no, .r r, .no]) (fun _ => []) (fun W1 lw i x hx => ?_) ?_ sc.nd
  · clear hx
    have hrow1 := lw.row.trans hrow
    refine run_ifV (A := fun b => b = false) (tc_ev (e := Expr.Tuple [] 0 ⟨0, 0, 0, 0⟩) (A := fun z => z = sD [109, 97, 115, 107]) (B := fun z => z = sD [109, 97, 115, 107]) ?_ (ed_S [109, 97, 115, 107]).ev (fun x y ex ey => ⟨false, rfl, by rw [ex, ey]; exact c_neSame hu (Shp.str (by decide))⟩)) (fun q => nomatch q) (fun _ => run_skip ?_)
    · refine ev_call (A := fun ds => ∃ (q : Nat) (v : PyData), ds = [nn q, v] ∧ q < 28 ∧ noMask v) F3 hr (EvA.imp (eva_cons (ev_takenN 28 F0 hr hrow1 1 ed_int rfl) (eva_cons (ev_draw F1 hr hrow1 1 (A := fun l => l = []) eva_nil (fun ds e => e)) eva_nil)) ?_) ?_
      · rintro ds ⟨x, r1, rfl, ⟨q, rfl, hq⟩, y, r2, rfl, ⟨ds2, _, _, hv⟩, rfl⟩
        exact ⟨q, y, rfl, hq, hv⟩
      · rintro ds ⟨q, v, rfl, hq, hv⟩
        exact ⟨_, ⟨q, v, rfl, .inl ⟨hq, hv, rfl⟩⟩, rfl⟩
    refine run_ifV (A := fun b => b = false) (tc_ev (e := Expr.Tuple [] 0 ⟨0, 0, 0, 0⟩) (A := fun z => z = sD [114, 111, 119]) (B := fun z => z = sD [114, 111, 119]) ?_ (ed_S [114, 111, 119]).ev (fun x y ex ey => ⟨false, rfl, by rw [ex, ey]; exact c_neSame hu (Shp.str (by decide))⟩)) (fun q => nomatch q) (fun _ => run_skip run_e)
    refine ev_call (A := fun ds => ∃ (q : Nat) (v : PyData), ds = [nn q, v] ∧ 28 ≤ q ∧ q < 47 ∧ noRow v) F3 hr (EvA.imp (eva_cons (ev_op (A := fun z => z = .int 28) (C := fun z => ∃ q : Nat, z = nn q ∧ 28 ≤ q ∧ q < 47) ed_int.ev (ev_takenN 19 F0 hr hrow1 1 ed_int rfl) ?_) (eva_cons (ev_draw F2 hr hrow1 1 (A := fun l => l = []) eva_nil (fun ds e => e)) eva_nil)) ?_) ?_
    · rintro x y rfl ⟨q, rfl, hq⟩
      exact ⟨_, ⟨28 + q, rfl, by omega, by omega⟩, o_add⟩
    · rintro ds ⟨x, r1, rfl, ⟨q, rfl, hq1, hq⟩, y, r2, rfl, ⟨ds2, _, _, hv⟩, rfl⟩
      exact ⟨q, y, rfl, hq1, hq, hv⟩
    · rintro ds ⟨q, v, rfl, hq1, hq, hv⟩
      exact ⟨_, ⟨q, v, rfl, .inr ⟨hq1, hq, .inl hv, rfl⟩⟩, rfl⟩
  · refine run_retV (P := fun z => z = .bool true) (A := fun z => z = .bool true) ?_ (fun d h => h)
    refine Ev.imp (ev_and1 (ev_cmp (A := fun z => z = sD [114, 111, 119]) (B := fun z => z = sD [114, 111, 119]) (C := fun z => z = .bool true) ?_ (ed_S [114, 111, 119]).ev (fun x y ex ey => ⟨.bool true, rfl, by rw [ex, ey]; exact c_eqSame hu (Shp.str (by decide))⟩)) ?_) (fun z h => h)
    · refine ev_call (A := fun ds => ∃ q : Nat, ds = [nn q, sD []] ∧ (q = 29 ∨ q = 30)) F3 hr (EvA.imp (eva_cons (ev_op (A := fun z => z = nn 29) (C := fun z => ∃ q : Nat, z = nn q ∧ (q = 29 ∨ q = 30)) (Ed.ev (Ed.to (ed_op ed_int ed_int o_add) rfl)) (ev_takenN 2 F0 hr hrow 1 ed_int rfl) ?_) (eva_cons (ed_S []).ev eva_nil)) ?_) ?_
      · rintro x y rfl ⟨q, rfl, hq⟩
        exact ⟨_, ⟨29 + q, rfl, by omega⟩, o_add⟩
      · rintro ds ⟨x, r1, rfl, ⟨q, rfl, hq⟩, y, r2, rfl, rfl, rfl⟩
        exact ⟨q, rfl, hq⟩
      · rintro ds ⟨q, rfl, hq⟩
        exact ⟨_, ⟨q, sD [], rfl, .inr ⟨by omega, by omega, .inr ⟨rfl, hq⟩, rfl⟩⟩, rfl⟩
    · refine ed_one (Ed.to (ed_cmp (x := .tuple [nn 2, wD [[120]]]) (Ed.to (ed_call F4 hr (ea_cons ed_int (ea_cons ed_int (ea_cons ed_int ea_nil))) ⟨1, 1, 2, rfl, by decide, by decide, by decide, by decide, by decide, by decide, by decide, by decide, rfl⟩) ?_) (ed_tup (ea_cons ed_int (ea_cons (ed_lst (ea_cons (ed_S [120]) ea_nil) (by simp)) ea_nil)) (by simp)) (c_eqSame hu (n := 2) ?_)) rfl)
      · rw [best_two]
      · refine Shp.tup fun y hy => ?_
        simp only [List.mem_cons, List.not_mem_nil, or_false] at hy
        rcases hy with rfl | rfl
        · exact Shp.int.up (by decide)
        · exact shp_w (by decide)
end
end HW
set_option maxHeartbeats 4000000
namespace HW
open PySem PySem.Spec PyProof.Rows L2 Tx
open SX (S)
theorem facts {P : Program} {w : World} {K : PySem.W.Frag} {h : Heap} {mg : Str → Option Value} {f : Addr} (X : K.In h) (G0 : h.Ns mainGlobals mg) (hfa : mg ("law" : Str) = some (.ref f)) (c : He.SaysD Tx.fa Tx.fn K) (cx : Tx.ex K = true) :
    ∃ fd : FuncData, (∀ (s : Shared) (v : Value), BindsTo s fd ⟨[v], []⟩ [("_law_script", v)]) ∧ ∀ base : Heap, K.In base → base.Ns mainGlobals mg → FnOk P w K mg base CX0 8 f fd ["_law_script"] (spLaw K) := by
  obtain ⟨q__law_taken, F__law_taken⟩ := c.def_ 57 (d := d__law_taken) rfl
  have g__law_taken := He.glo_ok X G0 (c.fact 57 (f := .glo "_law_taken") rfl)
  obtain ⟨q__law_odd_mask, F__law_odd_mask⟩ := c.def_ 58 (d := d__law_odd_mask) rfl
  have g__law_odd_mask := He.glo_ok X G0 (c.fact 58 (f := .glo "_law_odd_mask") rfl)
  obtain ⟨q__law_odd_row, F__law_odd_row⟩ := c.def_ 59 (d := d__law_odd_row) rfl
  have g__law_odd_row := He.glo_ok X G0 (c.fact 59 (f := .glo "_law_odd_row") rfl)
  obtain ⟨q_is_mask, F_is_mask⟩ := c.def_ 2 (d := d_is_mask) rfl
  have g_is_mask := He.glo_ok X G0 (c.fact 2 (f := .glo "is_mask") rfl)
  obtain ⟨q_need_mask, F_need_mask⟩ := c.def_ 3 (d := d_need_mask) rfl
  have g_need_mask := He.glo_ok X G0 (c.fact 3 (f := .glo "need_mask") rfl)
  obtain ⟨q_seen, F_seen⟩ := c.def_ 8 (d := d_seen) rfl
  have g_seen := He.glo_ok X G0 (c.fact 8 (f := .glo "seen") rfl)
  obtain ⟨q_is_from, F_is_from⟩ := c.def_ 1 (d := d_is_from) rfl
  have g_is_from := He.glo_ok X G0 (c.fact 1 (f := .glo "is_from") rfl)
  obtain ⟨q_need_letters, F_need_letters⟩ := c.def_ 6 (d := d_need_letters) rfl
  have g_need_letters := He.glo_ok X G0 (c.fact 6 (f := .glo "need_letters") rfl)
  obtain ⟨q_seen_by, F_seen_by⟩ := c.def_ 7 (d := d_seen_by) rfl
  have g_seen_by := He.glo_ok X G0 (c.fact 7 (f := .glo "seen_by") rfl)
  obtain ⟨q_need_small, F_need_small⟩ := c.def_ 22 (d := d_need_small) rfl
  have g_need_small := He.glo_ok X G0 (c.fact 22 (f := .glo "need_small") rfl)
  obtain ⟨q_longest, F_longest⟩ := c.def_ 25 (d := d_longest) rfl
  have g_longest := He.glo_ok X G0 (c.fact 25 (f := .glo "longest") rfl)
  obtain ⟨q_longest_rows, F_longest_rows⟩ := c.def_ 26 (d := d_longest_rows) rfl
  have g_longest_rows := He.glo_ok X G0 (c.fact 26 (f := .glo "longest_rows") rfl)
  obtain ⟨q_full_rings, F_full_rings⟩ := c.def_ 55 (d := d_full_rings) rfl
  have g_full_rings := He.glo_ok X G0 (c.fact 55 (f := .glo "full_rings") rfl)
  obtain ⟨q_longest_ring, F_longest_ring⟩ := c.def_ 54 (d := d_longest_ring) rfl
  have g_longest_ring := He.glo_ok X G0 (c.fact 54 (f := .glo "longest_ring") rfl)
  obtain ⟨q_is_view, F_is_view⟩ := c.def_ 33 (d := d_is_view) rfl
  have g_is_view := He.glo_ok X G0 (c.fact 33 (f := .glo "is_view") rfl)
  obtain ⟨q_need_views, F_need_views⟩ := c.def_ 38 (d := d_need_views) rfl
  have g_need_views := He.glo_ok X G0 (c.fact 38 (f := .glo "need_views") rfl)
  obtain ⟨q_joined, F_joined⟩ := c.def_ 41 (d := d_joined) rfl
  have g_joined := He.glo_ok X G0 (c.fact 41 (f := .glo "joined") rfl)
  obtain ⟨q_first_clash, F_first_clash⟩ := c.def_ 42 (d := d_first_clash) rfl
  have g_first_clash := He.glo_ok X G0 (c.fact 42 (f := .glo "first_clash") rfl)
  obtain ⟨q_rows_from, F_rows_from⟩ := c.def_ 44 (d := d_rows_from) rfl
  have g_rows_from := He.glo_ok X G0 (c.fact 44 (f := .glo "rows_from") rfl)
  obtain ⟨q_sure_from, F_sure_from⟩ := c.def_ 45 (d := d_sure_from) rfl
  have g_sure_from := He.glo_ok X G0 (c.fact 45 (f := .glo "sure_from") rfl)
  obtain ⟨q_together, F_together⟩ := c.def_ 10 (d := d_together) rfl
  have g_together := He.glo_ok X G0 (c.fact 10 (f := .glo "together") rfl)
  obtain ⟨q_count_rows, F_count_rows⟩ := c.def_ 27 (d := d_count_rows) rfl
  have g_count_rows := He.glo_ok X G0 (c.fact 27 (f := .glo "count_rows") rfl)
  obtain ⟨q_is_row, F_is_row⟩ := c.def_ 4 (d := d_is_row) rfl
  have g_is_row := He.glo_ok X G0 (c.fact 4 (f := .glo "is_row") rfl)
  obtain ⟨q_need_row, F_need_row⟩ := c.def_ 5 (d := d_need_row) rfl
  have g_need_row := He.glo_ok X G0 (c.fact 5 (f := .glo "need_row") rfl)
  obtain ⟨q_write, F_write⟩ := c.def_ 56 (d := d_write) rfl
  have g_write := He.glo_ok X G0 (c.fact 56 (f := .glo "write") rfl)
  obtain ⟨q_steps_needed, F_steps_needed⟩ := c.def_ 37 (d := d_steps_needed) rfl
  have g_steps_needed := He.glo_ok X G0 (c.fact 37 (f := .glo "steps_needed") rfl)
  obtain ⟨q_need_ring, F_need_ring⟩ := c.def_ 48 (d := d_need_ring) rfl
  have g_need_ring := He.glo_ok X G0 (c.fact 48 (f := .glo "need_ring") rfl)
  obtain ⟨q_ring_tells, F_ring_tells⟩ := c.def_ 51 (d := d_ring_tells) rfl
  have g_ring_tells := He.glo_ok X G0 (c.fact 51 (f := .glo "ring_tells") rfl)
  obtain ⟨q_ring_views, F_ring_views⟩ := c.def_ 50 (d := d_ring_views) rfl
  have g_ring_views := He.glo_ok X G0 (c.fact 50 (f := .glo "ring_views") rfl)
  obtain ⟨q_views, F_views⟩ := c.def_ 13 (d := d_views) rfl
  have g_views := He.glo_ok X G0 (c.fact 13 (f := .glo "views") rfl)
  obtain ⟨q_alike, F_alike⟩ := c.def_ 16 (d := d_alike) rfl
  have g_alike := He.glo_ok X G0 (c.fact 16 (f := .glo "alike") rfl)
  obtain ⟨q_distance, F_distance⟩ := c.def_ 20 (d := d_distance) rfl
  have g_distance := He.glo_ok X G0 (c.fact 20 (f := .glo "distance") rfl)
  obtain ⟨q_groups, F_groups⟩ := c.def_ 17 (d := d_groups) rfl
  have g_groups := He.glo_ok X G0 (c.fact 17 (f := .glo "groups") rfl)
  obtain ⟨q_tells, F_tells⟩ := c.def_ 15 (d := d_tells) rfl
  have g_tells := He.glo_ok X G0 (c.fact 15 (f := .glo "tells") rfl)
  obtain ⟨q_need_row_in, F_need_row_in⟩ := c.def_ 28 (d := d_need_row_in) rfl
  have g_need_row_in := He.glo_ok X G0 (c.fact 28 (f := .glo "need_row_in") rfl)
  obtain ⟨q_next_letters, F_next_letters⟩ := c.def_ 29 (d := d_next_letters) rfl
  have g_next_letters := He.glo_ok X G0 (c.fact 29 (f := .glo "next_letters") rfl)
  obtain ⟨q_farthest, F_farthest⟩ := c.def_ 30 (d := d_farthest) rfl
  have g_farthest := He.glo_ok X G0 (c.fact 30 (f := .glo "farthest") rfl)
  obtain ⟨q_mend, F_mend⟩ := c.def_ 46 (d := d_mend) rfl
  have g_mend := He.glo_ok X G0 (c.fact 46 (f := .glo "mend") rfl)
  obtain ⟨q_weak_letters, F_weak_letters⟩ := c.def_ 47 (d := d_weak_letters) rfl
  have g_weak_letters := He.glo_ok X G0 (c.fact 47 (f := .glo "weak_letters") rfl)
  obtain ⟨q_find, F_find⟩ := c.def_ 35 (d := d_find) rfl
  have g_find := He.glo_ok X G0 (c.fact 35 (f := .glo "find") rfl)
  obtain ⟨q_near, F_near⟩ := c.def_ 36 (d := d_near) rfl
  have g_near := He.glo_ok X G0 (c.fact 36 (f := .glo "near") rfl)
  obtain ⟨q_stands, F_stands⟩ := c.def_ 21 (d := d_stands) rfl
  have g_stands := He.glo_ok X G0 (c.fact 21 (f := .glo "stands") rfl)
  obtain ⟨q__law_masked, F__law_masked⟩ := c.def_ 60 (d := d__law_masked) rfl
  have g__law_masked := He.glo_ok X G0 (c.fact 60 (f := .glo "_law_masked") rfl)
  obtain ⟨q_least_masks, F_least_masks⟩ := c.def_ 32 (d := d_least_masks) rfl
  have g_least_masks := He.glo_ok X G0 (c.fact 32 (f := .glo "least_masks") rfl)
  obtain ⟨q__law_rowed, F__law_rowed⟩ := c.def_ 61 (d := d__law_rowed) rfl
  have g__law_rowed := He.glo_ok X G0 (c.fact 61 (f := .glo "_law_rowed") rfl)
  obtain ⟨q__law_told, F__law_told⟩ := c.def_ 62 (d := d__law_told) rfl
  have g__law_told := He.glo_ok X G0 (c.fact 62 (f := .glo "_law_told") rfl)
  obtain ⟨q_all_masks, F_all_masks⟩ := c.def_ 9 (d := d_all_masks) rfl
  have g_all_masks := He.glo_ok X G0 (c.fact 9 (f := .glo "all_masks") rfl)
  obtain ⟨q_view_by, F_view_by⟩ := c.def_ 11 (d := d_view_by) rfl
  have g_view_by := He.glo_ok X G0 (c.fact 11 (f := .glo "view_by") rfl)
  obtain ⟨q_longer, F_longer⟩ := c.def_ 23 (d := d_longer) rfl
  have g_longer := He.glo_ok X G0 (c.fact 23 (f := .glo "longer") rfl)
  obtain ⟨q_levels_of, F_levels_of⟩ := c.def_ 24 (d := d_levels_of) rfl
  have g_levels_of := He.glo_ok X G0 (c.fact 24 (f := .glo "levels_of") rfl)
  obtain ⟨q_best_masks, F_best_masks⟩ := c.def_ 31 (d := d_best_masks) rfl
  have g_best_masks := He.glo_ok X G0 (c.fact 31 (f := .glo "best_masks") rfl)
  obtain ⟨q_law, F_law⟩ := c.def_ 63 (d := d_law) rfl
  have g_law := He.glo_ok X G0 (c.fact 63 (f := .glo "law") rfl)
  have e := hfa.symm.trans g_law
  cases e
  have n_isinstance := He.free_ok X G0 (c.fact 68 (f := .free "isinstance") rfl)
  have n_str := He.free_ok X G0 (c.fact 77 (f := .free "str") rfl)
  have n_int := He.free_ok X G0 (c.fact 67 (f := .free "int") rfl)
  have n_len := He.free_ok X G0 (c.fact 69 (f := .free "len") rfl)
  have n_all := He.free_ok X G0 (c.fact 64 (f := .free "all") rfl)
  have n_range := He.free_ok X G0 (c.fact 74 (f := .free "range") rfl)
  have n_set := He.free_ok X G0 (c.fact 75 (f := .free "set") rfl)
  have n_enumerate := He.free_ok X G0 (c.fact 66 (f := .free "enumerate") rfl)
  have n_zip := He.free_ok X G0 (c.fact 79 (f := .free "zip") rfl)
  have n_min := He.free_ok X G0 (c.fact 72 (f := .free "min") rfl)
  have n_max := He.free_ok X G0 (c.fact 71 (f := .free "max") rfl)
  have n_sorted := He.free_ok X G0 (c.fact 76 (f := .free "sorted") rfl)
  have n_any := He.free_ok X G0 (c.fact 80 (f := .free "any") rfl)
  have n_tuple := He.free_ok X G0 (c.fact 78 (f := .free "tuple") rfl)
  have n_list := He.free_ok X G0 (c.fact 70 (f := .free "list") rfl)
  have n_bool := He.free_ok X G0 (c.fact 65 (f := .free "bool") rfl)
  have n_dict := He.free_ok X G0 (c.fact 81 (f := .free "dict") rfl)
  have n_abs := He.free_ok X G0 (c.fact 82 (f := .free "abs") rfl)
  have n_sum := He.free_ok X G0 (c.fact 83 (f := .free "sum") rfl)
  have k_SEEN := He.str_ok X G0 (c.fact 93 (f := .str "SEEN" "x") rfl)
  have k_HOLE := He.str_ok X G0 (c.fact 94 (f := .str "HOLE" ".") rfl)
  have k_LETTERS := He.str_ok X G0 (c.fact 95 (f := .str "LETTERS" "abcd") rfl)
  have k_MOST_MASK := He.int_ok X G0 (c.fact 96 (f := .int "MOST_MASK" 12) rfl)
  have k_MOST_ROW := He.int_ok X G0 (c.fact 97 (f := .int "MOST_ROW" 60) rfl)
  have k_MOST_WRONG := He.int_ok X G0 (c.fact 98 (f := .int "MOST_WRONG" 12) rfl)
  have k_MOST_ASKED := He.int_ok X G0 (c.fact 99 (f := .int "MOST_ASKED" 9) rfl)
  have k_OPEN := He.str_ok X G0 (c.fact 100 (f := .str "OPEN" "?") rfl)
  have k_MOST_VIEWS := He.int_ok X G0 (c.fact 101 (f := .int "MOST_VIEWS" 7) rfl)
  have k_MOST_MENDED := He.int_ok X G0 (c.fact 102 (f := .int "MOST_MENDED" 8) rfl)
  unfold Tx.ex at cx
  simp only [Bool.and_eq_true] at cx
  obtain ⟨⟨⟨⟨⟨⟨⟨⟨⟨⟨⟨c_xBadMask, c_xBadRow⟩, c_xBadView⟩, c_xBadLetters⟩, c_xTooGreat⟩, c_xTooMany⟩, c_xBadNumber⟩, c_xBadViews⟩, c_bWindowError⟩, c_MOST_WIDTHS⟩, c_MOST_SEEN⟩, _⟩ := cx
  have k_xBadMask := HW.exfB_ok X G0 c_xBadMask
  have k_xBadRow := HW.exfB_ok X G0 c_xBadRow
  have k_xBadView := HW.exfB_ok X G0 c_xBadView
  have k_xBadLetters := HW.exfB_ok X G0 c_xBadLetters
  have k_xTooGreat := HW.exfB_ok X G0 c_xTooGreat
  have k_xTooMany := HW.exfB_ok X G0 c_xTooMany
  have k_xBadNumber := HW.exfB_ok X G0 c_xBadNumber
  have k_xBadViews := HW.exfB_ok X G0 c_xBadViews
  have k_bWindowError := HW.baseB_ok X G0 c_bWindowError
  have k_MOST_WIDTHS := HX.tupI_ok X G0 c_MOST_WIDTHS
  have k_MOST_SEEN := HX.tupI_ok X G0 c_MOST_SEEN
  have no_TooMany := He.noat_ok (c.fact 84 (f := .noat "TooMany" "most") rfl)
  have no_BadNumber := He.noat_ok (c.fact 85 (f := .noat "BadNumber" "n") rfl)
  have no_BadViews := He.noat_ok (c.fact 86 (f := .noat "BadViews" "index") rfl)
  have ex_BadMask_BadMask := He.exm_ok (c.fact 90 (f := .exm "BadMask" "BadMask" true) rfl)
  have ex_BadRow_BadMask := He.exm_ok (c.fact 91 (f := .exm "BadRow" "BadMask" false) rfl)
  have ex_BadRow_BadRow := He.exm_ok (c.fact 92 (f := .exm "BadRow" "BadRow" true) rfl)
  have cls_Tracker := He.cls_ok (c.fact 88 (f := .cls "Tracker") rfl)
  have g_Tracker := He.glo_ok X G0 (c.fact 87 (f := .glo "Tracker") rfl)
  have mk_Tracker := He.mkr_ok (c.fact 89 (f := .mkr "Tracker") rfl)
  obtain ⟨qm_Tracker___init__, Fm_Tracker___init__⟩ := c.def_ 72 (d := im_Tracker___init__) rfl
  obtain ⟨qi_BadMask, Fi_BadMask⟩ := c.def_ 64 (d := i_BadMask) rfl
  obtain ⟨qi_BadRow, Fi_BadRow⟩ := c.def_ 65 (d := i_BadRow) rfl
  obtain ⟨qi_BadView, Fi_BadView⟩ := c.def_ 66 (d := i_BadView) rfl
  obtain ⟨qi_BadLetters, Fi_BadLetters⟩ := c.def_ 67 (d := i_BadLetters) rfl
  obtain ⟨qi_TooGreat, Fi_TooGreat⟩ := c.def_ 68 (d := i_TooGreat) rfl
  obtain ⟨qi_TooMany, Fi_TooMany⟩ := c.def_ 69 (d := i_TooMany) rfl
  obtain ⟨qi_BadNumber, Fi_BadNumber⟩ := c.def_ 70 (d := i_BadNumber) rfl
  obtain ⟨qi_BadViews, Fi_BadViews⟩ := c.def_ 71 (d := i_BadViews) rfl
  have G : Gs mg := ⟨n_isinstance, n_str, n_int, n_len, n_all, n_range, n_set, n_enumerate, n_zip, n_min, n_max, n_sorted, n_any, n_tuple, n_list, n_bool, n_dict, n_abs, n_sum⟩
  have b := FunD.bindsA (ps := ["_law_script"]) F_law fun _ _ _ _ _ _ us hl => match us, hl with | [_], _ => rfl
  refine ⟨q_law, fun s v => b s [v] rfl, fun base _ _ => ?_⟩
  have E_BadMask : Ex0 P w K mg base 1 "BadMask" := ⟨k_xBadMask, _, fi_BadMask (k := 0) Fi_BadMask k_bWindowError, FunD.bindsN Fi_BadMask fun _ _ _ _ _ _ us hl => match us, hl with | [_], _ => rfl⟩
  have E_BadRow : Ex0 P w K mg base 1 "BadRow" := ⟨k_xBadRow, _, fi_BadRow (k := 0) Fi_BadRow k_bWindowError, FunD.bindsN Fi_BadRow fun _ _ _ _ _ _ us hl => match us, hl with | [_], _ => rfl⟩
  have E_BadView : Ex0 P w K mg base 1 "BadView" := ⟨k_xBadView, _, fi_BadView (k := 0) Fi_BadView k_bWindowError, FunD.bindsN Fi_BadView fun _ _ _ _ _ _ us hl => match us, hl with | [_], _ => rfl⟩
  have E_BadLetters : Ex0 P w K mg base 1 "BadLetters" := ⟨k_xBadLetters, _, fi_BadLetters (k := 0) Fi_BadLetters k_bWindowError, FunD.bindsN Fi_BadLetters fun _ _ _ _ _ _ us hl => match us, hl with | [_], _ => rfl⟩
  have E_TooGreat : Ex0 P w K mg base 1 "TooGreat" := ⟨k_xTooGreat, _, fi_TooGreat (k := 0) Fi_TooGreat k_bWindowError, FunD.bindsN Fi_TooGreat fun _ _ _ _ _ _ us hl => match us, hl with | [_], _ => rfl⟩
  have E_TooMany : Ex1 P w K mg base 1 "TooMany" "most" := ⟨k_xTooMany, no_TooMany, _, fi_TooMany (k := 0) Fi_TooMany k_bWindowError no_TooMany, FunD.bindsN Fi_TooMany fun _ _ _ _ _ _ us hl => match us, hl with | [_, _], _ => rfl⟩
  have E_BadNumber : Ex1 P w K mg base 1 "BadNumber" "n" := ⟨k_xBadNumber, no_BadNumber, _, fi_BadNumber (k := 0) Fi_BadNumber k_bWindowError no_BadNumber, FunD.bindsN Fi_BadNumber fun _ _ _ _ _ _ us hl => match us, hl with | [_, _], _ => rfl⟩
  have E_BadViews : Ex1 P w K mg base 1 "BadViews" "index" := ⟨k_xBadViews, no_BadViews, _, fi_BadViews (k := 0) Fi_BadViews k_bWindowError no_BadViews, FunD.bindsN Fi_BadViews fun _ _ _ _ _ _ us hl => match us, hl with | [_, _], _ => rfl⟩
  have A__law_taken : Fd P w K mg base 1 "_law_taken" ["_law_row", "_law_many"] (spW K R_taken_pre R_taken_post) := ⟨_, _, fd_taken (k := 0) F__law_taken n_int n_len, g__law_taken, FunD.kp F__law_taken, FunD.bindsN F__law_taken fun _ _ _ _ _ _ us hl => match us, hl with | [_, _], _ => rfl⟩
  have A__law_odd_mask : Fd P w K mg base 2 "_law_odd_mask" ["_law_row"] (spW K (fun ds => ds = []) post_oddM) := ⟨_, _, fd_law_odd_mask (k := 1) F__law_odd_mask G (A__law_taken.mono (by decide)), g__law_odd_mask, FunD.kp F__law_odd_mask, FunD.bindsN F__law_odd_mask fun _ _ _ _ _ _ us hl => match us, hl with | [_], _ => rfl⟩
  have A__law_odd_row : Fd P w K mg base 2 "_law_odd_row" ["_law_row"] (spW K (fun ds => ds = []) post_oddR) := ⟨_, _, fd_law_odd_row (k := 1) F__law_odd_row G (A__law_taken.mono (by decide)), g__law_odd_row, FunD.kp F__law_odd_row, FunD.bindsN F__law_odd_row fun _ _ _ _ _ _ us hl => match us, hl with | [_], _ => rfl⟩
  have A_is_mask_T : Fd P w K mg base 1 "is_mask" ["value"] (spR K R_is_mask_t) := ⟨_, _, fd_is_mask_t (k := 0) F_is_mask G k_SEEN k_HOLE k_MOST_MASK, g_is_mask, FunD.kp F_is_mask, FunD.bindsN F_is_mask fun _ _ _ _ _ _ us hl => match us, hl with | [_], _ => rfl⟩
  have A_is_mask_O : Fd P w K mg base 1 "is_mask" ["value"] (spR K R_is_mask_o) := ⟨_, _, fd_is_mask_o (k := 0) F_is_mask G, g_is_mask, FunD.kp F_is_mask, FunD.bindsN F_is_mask fun _ _ _ _ _ _ us hl => match us, hl with | [_], _ => rfl⟩
  have A_need_mask_X : FdX P w K mg base 3 "need_mask" ["mask"] (X_mask) := ⟨_, _, fx_need_mask (k := 1) F_need_mask (A_is_mask_T.mono (by decide)) (A_is_mask_O.mono (by decide)) (E_BadMask.mono (by decide)), g_need_mask, FunD.kp F_need_mask, FunD.bindsN F_need_mask fun _ _ _ _ _ _ us hl => match us, hl with | [_], _ => rfl⟩
  have A_seen_X : FdX P w K mg base 4 "seen" ["mask"] (X_seen) := ⟨_, _, fx_seen (k := 3) F_seen (A_need_mask_X.mono (by decide)), g_seen, FunD.kp F_seen, FunD.bindsN F_seen fun _ _ _ _ _ _ us hl => match us, hl with | [_], _ => rfl⟩
  have A_is_mask : Fd P w K mg base 1 "is_mask" ["value"] (spR K R_is_mask) := ⟨_, _, fd_is_mask (k := 0) F_is_mask G k_SEEN k_HOLE k_MOST_MASK, g_is_mask, FunD.kp F_is_mask, FunD.bindsN F_is_mask fun _ _ _ _ _ _ us hl => match us, hl with | [_], _ => rfl⟩
  have A_need_mask : Fd P w K mg base 2 "need_mask" ["mask"] (spR K R_need_mask) := ⟨_, _, fd_need_mask (k := 1) F_need_mask (A_is_mask.mono (by decide)), g_need_mask, FunD.kp F_need_mask, FunD.bindsN F_need_mask fun _ _ _ _ _ _ us hl => match us, hl with | [_], _ => rfl⟩
  have A_is_from_A : Fd P w K mg base 1 "is_from" ["value", "low", "high"] (spR K R_is_from_a) := ⟨_, _, fd_is_from_a (k := 0) F_is_from G, g_is_from, FunD.kp F_is_from, FunD.bindsN F_is_from fun _ _ _ _ _ _ us hl => match us, hl with | [_, _, _], _ => rfl⟩
  have A_need_letters_X : FdX P w K mg base 3 "need_letters" ["letters"] (X_letters) := ⟨_, _, fx_need_letters (k := 1) F_need_letters G k_LETTERS (A_is_from_A.mono (by decide)) (E_BadLetters.mono (by decide)), g_need_letters, FunD.kp F_need_letters, FunD.bindsN F_need_letters fun _ _ _ _ _ _ us hl => match us, hl with | [_], _ => rfl⟩
  have A_is_from : Fd P w K mg base 1 "is_from" ["value", "low", "high"] (spR K R_is_from) := ⟨_, _, fd_is_from (k := 0) F_is_from G, g_is_from, FunD.kp F_is_from, FunD.bindsN F_is_from fun _ _ _ _ _ _ us hl => match us, hl with | [_, _, _], _ => rfl⟩
  have A_need_letters : Fd P w K mg base 2 "need_letters" ["letters"] (spR K R_need_letters) := ⟨_, _, fd_need_letters (k := 1) F_need_letters G k_LETTERS (A_is_from.mono (by decide)), g_need_letters, FunD.kp F_need_letters, FunD.bindsN F_need_letters fun _ _ _ _ _ _ us hl => match us, hl with | [_], _ => rfl⟩
  have A_seen_by : Fd P w K mg base 1 "seen_by" ["mask"] (spR K R_seen_by) := ⟨_, _, fd_seen_by (k := 0) F_seen_by G k_SEEN, g_seen_by, FunD.kp F_seen_by, FunD.bindsN F_seen_by fun _ _ _ _ _ _ us hl => match us, hl with | [_], _ => rfl⟩
  have A_need_small_X : FdX P w K mg base 4 "need_small" ["mask", "letters"] (X_small) := ⟨_, _, fx_need_small (k := 2) F_need_small G k_MOST_WIDTHS k_MOST_SEEN (A_need_mask_X.mono (by decide)) (A_need_mask.mono (by decide)) (A_need_letters_X.mono (by decide)) (A_need_letters.mono (by decide)) (A_seen_by.mono (by decide)) (E_TooGreat.mono (by decide)), g_need_small, FunD.kp F_need_small, FunD.bindsN F_need_small fun _ _ _ _ _ _ us hl => match us, hl with | [_, _], _ => rfl⟩
  have A_longest_X : FdX P w K mg base 5 "longest" ["mask", "letters"] (X_longest) := ⟨_, _, fx_longest (k := 4) F_longest (A_need_small_X.mono (by decide)), g_longest, FunD.kp F_longest, FunD.bindsN F_longest fun _ _ _ _ _ _ us hl => match us, hl with | [_, _], _ => rfl⟩
  have A_longest_rows_X : FdX P w K mg base 5 "longest_rows" ["mask", "letters"] (X_longest_rows) := ⟨_, _, fx_longest_rows (k := 4) F_longest_rows (A_need_small_X.mono (by decide)), g_longest_rows, FunD.kp F_longest_rows, FunD.bindsN F_longest_rows fun _ _ _ _ _ _ us hl => match us, hl with | [_, _], _ => rfl⟩
  have A_full_rings_X : FdX P w K mg base 5 "full_rings" ["mask", "letters"] (X_full_rings) := ⟨_, _, fx_full_rings (k := 4) F_full_rings (A_need_small_X.mono (by decide)), g_full_rings, FunD.kp F_full_rings, FunD.bindsN F_full_rings fun _ _ _ _ _ _ us hl => match us, hl with | [_, _], _ => rfl⟩
  have A_longest_ring_X : FdX P w K mg base 5 "longest_ring" ["mask", "letters"] (X_longest_ring) := ⟨_, _, fx_longest_ring (k := 4) F_longest_ring (A_need_small_X.mono (by decide)), g_longest_ring, FunD.kp F_longest_ring, FunD.bindsN F_longest_ring fun _ _ _ _ _ _ us hl => match us, hl with | [_, _], _ => rfl⟩
  have A_is_view_T : Fd P w K mg base 2 "is_view" ["mask", "value"] (spR K R_is_view_t) := ⟨_, _, fd_is_view_t (k := 1) F_is_view G k_LETTERS k_OPEN (A_seen_by.mono (by decide)), g_is_view, FunD.kp F_is_view, FunD.bindsN F_is_view fun _ _ _ _ _ _ us hl => match us, hl with | [_, _], _ => rfl⟩
  have A_is_view_O : Fd P w K mg base 1 "is_view" ["mask", "value"] (spR K R_is_view_o) := ⟨_, _, fd_is_view_o (k := 0) F_is_view G, g_is_view, FunD.kp F_is_view, FunD.bindsN F_is_view fun _ _ _ _ _ _ us hl => match us, hl with | [_, _], _ => rfl⟩
  have A_need_views_X : FdX P w K mg base 3 "need_views" ["mask", "views", "most"] (X_need_views) := ⟨_, _, fx_need_views (k := 1) F_need_views G (A_is_view_T.mono (by decide)) (A_is_view_O.mono (by decide)) (E_BadViews.mono (by decide)), g_need_views, FunD.kp F_need_views, FunD.bindsN F_need_views fun _ _ _ _ _ _ us hl => match us, hl with | [_, _, _], _ => rfl⟩
  have A_joined_X : FdX P w K mg base 4 "joined" ["mask", "views"] (X_joined) := ⟨_, _, fx_joined (k := 3) F_joined (A_need_mask_X.mono (by decide)) (A_need_mask.mono (by decide)) k_MOST_ROW (A_need_views_X.mono (by decide)), g_joined, FunD.kp F_joined, FunD.bindsN F_joined fun _ _ _ _ _ _ us hl => match us, hl with | [_, _], _ => rfl⟩
  have A_first_clash_X : FdX P w K mg base 4 "first_clash" ["mask", "views"] (X_first_clash) := ⟨_, _, fx_first_clash (k := 3) F_first_clash (A_need_mask_X.mono (by decide)) (A_need_mask.mono (by decide)) k_MOST_ROW (A_need_views_X.mono (by decide)), g_first_clash, FunD.kp F_first_clash, FunD.bindsN F_first_clash fun _ _ _ _ _ _ us hl => match us, hl with | [_, _], _ => rfl⟩
  have A_is_view : Fd P w K mg base 2 "is_view" ["mask", "value"] (spR K R_is_view) := ⟨_, _, fd_is_view (k := 1) F_is_view G k_LETTERS k_OPEN (A_seen_by.mono (by decide)), g_is_view, FunD.kp F_is_view, FunD.bindsN F_is_view fun _ _ _ _ _ _ us hl => match us, hl with | [_, _], _ => rfl⟩
  have A_need_views : Fd P w K mg base 3 "need_views" ["mask", "views", "most"] (spR K R_need_views) := ⟨_, _, fd_need_views (k := 2) F_need_views G (A_is_view.mono (by decide)), g_need_views, FunD.kp F_need_views, FunD.bindsN F_need_views fun _ _ _ _ _ _ us hl => match us, hl with | [_, _, _], _ => rfl⟩
  have A_rows_from_X : FdX P w K mg base 4 "rows_from" ["mask", "views"] (X_rows_from) := ⟨_, _, fx_rows_from (k := 2) F_rows_from (A_need_mask_X.mono (by decide)) (A_need_mask.mono (by decide)) k_MOST_ROW (A_need_views_X.mono (by decide)) (A_need_views.mono (by decide)) G k_MOST_VIEWS (E_TooMany.mono (by decide)), g_rows_from, FunD.kp F_rows_from, FunD.bindsN F_rows_from fun _ _ _ _ _ _ us hl => match us, hl with | [_, _], _ => rfl⟩
  have A_sure_from_X : FdX P w K mg base 4 "sure_from" ["mask", "views"] (X_sure_from) := ⟨_, _, fx_sure_from (k := 2) F_sure_from (A_need_mask_X.mono (by decide)) (A_need_mask.mono (by decide)) k_MOST_ROW (A_need_views_X.mono (by decide)) (A_need_views.mono (by decide)) G k_MOST_VIEWS (E_TooMany.mono (by decide)), g_sure_from, FunD.kp F_sure_from, FunD.bindsN F_sure_from fun _ _ _ _ _ _ us hl => match us, hl with | [_, _], _ => rfl⟩
  have A_together_X : FdX P w K mg base 4 "together" ["one", "other", "far"] (X_together1) := ⟨_, _, fx_together1 (k := 3) F_together (A_need_mask_X.mono (by decide)), g_together, FunD.kp F_together, FunD.bindsN F_together fun _ _ _ _ _ _ us hl => match us, hl with | [_, _, _], _ => rfl⟩
  have A_need_small : Fd P w K mg base 3 "need_small" ["mask", "letters"] (spR K R_need_small) := ⟨_, _, fd_need_small (k := 2) F_need_small G k_MOST_WIDTHS k_MOST_SEEN (A_need_mask.mono (by decide)) (A_need_letters.mono (by decide)) (A_seen_by.mono (by decide)), g_need_small, FunD.kp F_need_small, FunD.bindsN F_need_small fun _ _ _ _ _ _ us hl => match us, hl with | [_, _], _ => rfl⟩
  have A_count_rows_X : FdX P w K mg base 5 "count_rows" ["mask", "letters", "length"] (X_count_rows) := ⟨_, _, fx_count_rows (k := 3) F_count_rows (A_need_small_X.mono (by decide)) (A_need_small.mono (by decide)) k_MOST_ROW (E_BadNumber.mono (by decide)) (A_is_from_A.mono (by decide)), g_count_rows, FunD.kp F_count_rows, FunD.bindsN F_count_rows fun _ _ _ _ _ _ us hl => match us, hl with | [_, _, _], _ => rfl⟩
  have A_is_row_T : Fd P w K mg base 1 "is_row" ["value"] (spR K R_is_row_t) := ⟨_, _, fd_is_row_t (k := 0) F_is_row G k_LETTERS k_MOST_ROW, g_is_row, FunD.kp F_is_row, FunD.bindsN F_is_row fun _ _ _ _ _ _ us hl => match us, hl with | [_], _ => rfl⟩
  have A_is_row_O : Fd P w K mg base 1 "is_row" ["value"] (spR K R_is_mask_o) := ⟨_, _, fd_is_row_o (k := 0) F_is_row G, g_is_row, FunD.kp F_is_row, FunD.bindsN F_is_row fun _ _ _ _ _ _ us hl => match us, hl with | [_], _ => rfl⟩
  have A_need_row_X : FdX P w K mg base 3 "need_row" ["row"] (X_row) := ⟨_, _, fx_need_row (k := 1) F_need_row (A_is_row_T.mono (by decide)) (A_is_row_O.mono (by decide)) (E_BadRow.mono (by decide)), g_need_row, FunD.kp F_need_row, FunD.bindsN F_need_row fun _ _ _ _ _ _ us hl => match us, hl with | [_], _ => rfl⟩
  have A_write_X : FdX P w K mg base 4 "write" ["mask", "row"] (X_write) := ⟨_, _, fx_write (k := 3) F_write (A_need_mask_X.mono (by decide)) (A_need_mask.mono (by decide)) (A_need_row_X.mono (by decide)), g_write, FunD.kp F_write, FunD.bindsN F_write fun _ _ _ _ _ _ us hl => match us, hl with | [_, _], _ => rfl⟩
  have A_is_row : Fd P w K mg base 1 "is_row" ["value"] (spR K R_is_row) := ⟨_, _, fd_is_row (k := 0) F_is_row G k_LETTERS k_MOST_ROW, g_is_row, FunD.kp F_is_row, FunD.bindsN F_is_row fun _ _ _ _ _ _ us hl => match us, hl with | [_], _ => rfl⟩
  have A_need_row : Fd P w K mg base 2 "need_row" ["row"] (spR K R_need_row) := ⟨_, _, fd_need_row (k := 1) F_need_row (A_is_row.mono (by decide)), g_need_row, FunD.kp F_need_row, FunD.bindsN F_need_row fun _ _ _ _ _ _ us hl => match us, hl with | [_], _ => rfl⟩
  have A_steps_needed_X : FdX P w K mg base 4 "steps_needed" ["row", "mask"] (X_steps_needed) := ⟨_, _, fx_steps_needed (k := 3) F_steps_needed (A_need_row_X.mono (by decide)) (A_need_row.mono (by decide)) (A_need_mask_X.mono (by decide)), g_steps_needed, FunD.kp F_steps_needed, FunD.bindsN F_steps_needed fun _ _ _ _ _ _ us hl => match us, hl with | [_, _], _ => rfl⟩
  have A_need_ring_X : FdX P w K mg base 4 "need_ring" ["row"] (X_need_ring) := ⟨_, _, fx_need_ring (k := 2) F_need_ring (A_need_row_X.mono (by decide)) (A_need_row.mono (by decide)) (E_BadRow.mono (by decide)), g_need_ring, FunD.kp F_need_ring, FunD.bindsN F_need_ring fun _ _ _ _ _ _ us hl => match us, hl with | [_], _ => rfl⟩
  have A_need_ring : Fd P w K mg base 3 "need_ring" ["row"] (spR K R_need_ring) := ⟨_, _, fd_need_ring (k := 2) F_need_ring (A_need_row.mono (by decide)), g_need_ring, FunD.kp F_need_ring, FunD.bindsN F_need_ring fun _ _ _ _ _ _ us hl => match us, hl with | [_], _ => rfl⟩
  have A_ring_tells_X : FdX P w K mg base 5 "ring_tells" ["row", "mask"] (X_ring_tells) := ⟨_, _, fx_ring_tells (k := 4) F_ring_tells (A_need_ring_X.mono (by decide)) (A_need_ring.mono (by decide)) (A_need_mask_X.mono (by decide)), g_ring_tells, FunD.kp F_ring_tells, FunD.bindsN F_ring_tells fun _ _ _ _ _ _ us hl => match us, hl with | [_, _], _ => rfl⟩
  have A_ring_views_X : FdX P w K mg base 5 "ring_views" ["row", "mask"] (X_ring_views) := ⟨_, _, fx_ring_views (k := 4) F_ring_views (A_need_ring_X.mono (by decide)) (A_need_ring.mono (by decide)) (A_need_mask_X.mono (by decide)), g_ring_views, FunD.kp F_ring_views, FunD.bindsN F_ring_views fun _ _ _ _ _ _ us hl => match us, hl with | [_, _], _ => rfl⟩
  have A_views_X : FdX P w K mg base 4 "views" ["row", "mask"] (X_views) := ⟨_, _, fx_views (k := 3) F_views (A_need_row_X.mono (by decide)) (A_need_row.mono (by decide)) (A_need_mask_X.mono (by decide)), g_views, FunD.kp F_views, FunD.bindsN F_views fun _ _ _ _ _ _ us hl => match us, hl with | [_, _], _ => rfl⟩
  have A_alike_X : FdX P w K mg base 4 "alike" ["row", "mask"] (X_alike) := ⟨_, _, fx_alike (k := 3) F_alike (A_need_row_X.mono (by decide)) (A_need_row.mono (by decide)) (A_need_mask_X.mono (by decide)), g_alike, FunD.kp F_alike, FunD.bindsN F_alike fun _ _ _ _ _ _ us hl => match us, hl with | [_, _], _ => rfl⟩
  have A_distance_X : FdX P w K mg base 4 "distance" ["row", "mask"] (X_distance) := ⟨_, _, fx_distance (k := 3) F_distance (A_need_row_X.mono (by decide)) (A_need_row.mono (by decide)) (A_need_mask_X.mono (by decide)), g_distance, FunD.kp F_distance, FunD.bindsN F_distance fun _ _ _ _ _ _ us hl => match us, hl with | [_, _], _ => rfl⟩
  have A_groups_X : FdX P w K mg base 4 "groups" ["row", "mask"] (X_groups) := ⟨_, _, fx_groups (k := 3) F_groups (A_need_row_X.mono (by decide)) (A_need_row.mono (by decide)) (A_need_mask_X.mono (by decide)), g_groups, FunD.kp F_groups, FunD.bindsN F_groups fun _ _ _ _ _ _ us hl => match us, hl with | [_, _], _ => rfl⟩
  have A_tells_X : FdX P w K mg base 4 "tells" ["row", "mask"] (X_tells) := ⟨_, _, fx_tells (k := 3) F_tells (A_need_row_X.mono (by decide)) (A_need_row.mono (by decide)) (A_need_mask_X.mono (by decide)), g_tells, FunD.kp F_tells, FunD.bindsN F_tells fun _ _ _ _ _ _ us hl => match us, hl with | [_, _], _ => rfl⟩
  have A_need_row_in_X : FdX P w K mg base 4 "need_row_in" ["row", "letters"] (X_row_in) := ⟨_, _, fx_need_row_in (k := 2) F_need_row_in G k_LETTERS (A_need_letters_X.mono (by decide)) (A_need_letters.mono (by decide)) (A_is_row_T.mono (by decide)) (A_is_row_O.mono (by decide)) (E_BadRow.mono (by decide)), g_need_row_in, FunD.kp F_need_row_in, FunD.bindsN F_need_row_in fun _ _ _ _ _ _ us hl => match us, hl with | [_, _], _ => rfl⟩
  have A_next_letters_X : FdX P w K mg base 5 "next_letters" ["row", "mask", "letters"] (X_next_letters) := ⟨_, _, fx_next_letters (k := 4) F_next_letters (A_need_mask_X.mono (by decide)) (A_need_mask.mono (by decide)) (A_need_row_in_X.mono (by decide)), g_next_letters, FunD.kp F_next_letters, FunD.bindsN F_next_letters fun _ _ _ _ _ _ us hl => match us, hl with | [_, _, _], _ => rfl⟩
  have A_farthest_X : FdX P w K mg base 5 "farthest" ["row", "mask", "letters"] (X_farthest) := ⟨_, _, fx_farthest (k := 4) F_farthest (A_need_small_X.mono (by decide)) (A_need_small.mono (by decide)) (A_need_row_in_X.mono (by decide)), g_farthest, FunD.kp F_farthest, FunD.bindsN F_farthest fun _ _ _ _ _ _ us hl => match us, hl with | [_, _, _], _ => rfl⟩
  have A_mend_X : FdX P w K mg base 5 "mend" ["row", "mask", "letters"] (X_mend) := ⟨_, _, fx_mend (k := 4) F_mend (A_need_mask_X.mono (by decide)) (A_need_mask.mono (by decide)) (A_need_row_in_X.mono (by decide)), g_mend, FunD.kp F_mend, FunD.bindsN F_mend fun _ _ _ _ _ _ us hl => match us, hl with | [_, _, _], _ => rfl⟩
  have A_weak_letters_X : FdX P w K mg base 5 "weak_letters" ["row", "mask", "letters"] (X_weak_letters) := ⟨_, _, fx_weak_letters (k := 4) F_weak_letters (A_need_mask_X.mono (by decide)) (A_need_mask.mono (by decide)) (A_need_row_in_X.mono (by decide)), g_weak_letters, FunD.kp F_weak_letters, FunD.bindsN F_weak_letters fun _ _ _ _ _ _ us hl => match us, hl with | [_, _, _], _ => rfl⟩
  have A_find_X : FdX P w K mg base 4 "find" ["row", "mask", "told"] (X_find) := ⟨_, _, fx_find (k := 2) F_find (A_need_row_X.mono (by decide)) (A_need_row.mono (by decide)) (A_need_mask_X.mono (by decide)) (A_need_mask.mono (by decide)) (E_BadView.mono (by decide)) (A_is_view_O.mono (by decide)) (A_is_view_T.mono (by decide)), g_find, FunD.kp F_find, FunD.bindsN F_find fun _ _ _ _ _ _ us hl => match us, hl with | [_, _, _], _ => rfl⟩
  have A_near_X : FdX P w K mg base 4 "near" ["row", "mask", "told", "wrong"] (X_near) := ⟨_, _, fx_near (k := 2) F_near (A_need_row_X.mono (by decide)) (A_need_row.mono (by decide)) (A_need_mask_X.mono (by decide)) (A_need_mask.mono (by decide)) (E_BadView.mono (by decide)) (A_is_view_O.mono (by decide)) (A_is_view_T.mono (by decide)) k_MOST_WRONG (E_BadNumber.mono (by decide)) (A_is_from_A.mono (by decide)), g_near, FunD.kp F_near, FunD.bindsN F_near fun _ _ _ _ _ _ us hl => match us, hl with | [_, _, _, _], _ => rfl⟩
  have A_stands_X : FdX P w K mg base 4 "stands" ["row", "mask", "wrong", "covered"] (X_stands) := ⟨_, _, fx_stands (k := 2) F_stands (A_need_row_X.mono (by decide)) (A_need_row.mono (by decide)) (A_need_mask_X.mono (by decide)) (A_need_mask.mono (by decide)) k_MOST_WRONG (E_BadNumber.mono (by decide)) (A_is_from_A.mono (by decide)) (A_is_from.mono (by decide)), g_stands, FunD.kp F_stands, FunD.bindsN F_stands fun _ _ _ _ _ _ us hl => match us, hl with | [_, _, _, _], _ => rfl⟩
  have A_Tracker_X : MkX P w K mg base 5 "Tracker" ["self", "row", "mask"] (X_tracker) := ⟨_, _, _, 4, by decide, g_Tracker, mk_Tracker, fx_Tracker (k := 3) Fm_Tracker___init__ (A_need_row_X.mono (by decide)) (A_need_row.mono (by decide)) (A_need_mask_X.mono (by decide)), FunD.bindsN Fm_Tracker___init__ fun _ _ _ _ _ _ us hl => match us, hl with | [_, _, _], _ => rfl⟩
  have A__law_masked_X : FdX P w K mg base 6 "_law_masked" ["_law_kind", "_law_value"] (R_masked) := ⟨_, _, fd_law_masked (k := 5) F__law_masked (A_seen_X.mono (by decide)) (A_longest_X.mono (by decide)) (A_longest_rows_X.mono (by decide)) (A_full_rings_X.mono (by decide)) (A_longest_ring_X.mono (by decide)) (A_joined_X.mono (by decide)) (A_first_clash_X.mono (by decide)) (A_rows_from_X.mono (by decide)) (A_sure_from_X.mono (by decide)) (A_together_X.mono (by decide)) (A_count_rows_X.mono (by decide)) (A_write_X.mono (by decide)) (A_steps_needed_X.mono (by decide)) (A_ring_tells_X.mono (by decide)) (A_ring_views_X.mono (by decide)) (A_views_X.mono (by decide)) (A_alike_X.mono (by decide)) (A_distance_X.mono (by decide)) (A_groups_X.mono (by decide)) (A_tells_X.mono (by decide)) (A_next_letters_X.mono (by decide)) (A_farthest_X.mono (by decide)) (A_mend_X.mono (by decide)) (A_weak_letters_X.mono (by decide)) (A_find_X.mono (by decide)) (A_near_X.mono (by decide)) (A_stands_X.mono (by decide)) (A_Tracker_X.mono (by decide)), g__law_masked, FunD.kp F__law_masked, FunD.bindsN F__law_masked fun _ _ _ _ _ _ us hl => match us, hl with | [_, _], _ => rfl⟩
  have A_least_masks_X : FdX P w K mg base 4 "least_masks" ["row", "width"] (X_least_masks) := ⟨_, _, fx_least_masks (k := 2) F_least_masks (A_need_row_X.mono (by decide)) (A_need_row.mono (by decide)) k_MOST_ASKED (E_BadNumber.mono (by decide)) (A_is_from_A.mono (by decide)), g_least_masks, FunD.kp F_least_masks, FunD.bindsN F_least_masks fun _ _ _ _ _ _ us hl => match us, hl with | [_, _], _ => rfl⟩
  have A__law_rowed_X : FdX P w K mg base 6 "_law_rowed" ["_law_kind", "_law_value"] (R_rowed) := ⟨_, _, fd_law_rowed (k := 5) F__law_rowed (A_steps_needed_X.mono (by decide)) (A_ring_tells_X.mono (by decide)) (A_ring_views_X.mono (by decide)) (A_views_X.mono (by decide)) (A_alike_X.mono (by decide)) (A_distance_X.mono (by decide)) (A_groups_X.mono (by decide)) (A_tells_X.mono (by decide)) (A_find_X.mono (by decide)) (A_near_X.mono (by decide)) (A_stands_X.mono (by decide)) (A_write_X.mono (by decide)) (A_least_masks_X.mono (by decide)) (A_next_letters_X.mono (by decide)) (A_farthest_X.mono (by decide)) (A_mend_X.mono (by decide)) (A_weak_letters_X.mono (by decide)) (A_Tracker_X.mono (by decide)), g__law_rowed, FunD.kp F__law_rowed, FunD.bindsN F__law_rowed fun _ _ _ _ _ _ us hl => match us, hl with | [_, _], _ => rfl⟩
  have A__law_told : Fd P w K mg base 7 "_law_told" ["_law_kind", "_law_value"] (spR K R_told1) := ⟨_, _, fd_law_told1 (k := 6) F__law_told k_xBadMask k_xBadRow ex_BadMask_BadMask ex_BadRow_BadMask ex_BadRow_BadRow (A__law_masked_X.mono (by decide)) (A__law_rowed_X.mono (by decide)), g__law_told, FunD.kp F__law_told, FunD.bindsN F__law_told fun _ _ _ _ _ _ us hl => match us, hl with | [_, _], _ => rfl⟩
  have A_all_masks : Fd P w K mg base 1 "all_masks" ["width"] (spR K R_all_masks) := ⟨_, _, fd_all_masks (k := 0) F_all_masks G k_SEEN k_HOLE, g_all_masks, FunD.kp F_all_masks, FunD.bindsN F_all_masks fun _ _ _ _ _ _ us hl => match us, hl with | [_], _ => rfl⟩
  have A_view_by : Fd P w K mg base 2 "view_by" ["row", "mask", "place"] (spR K R_view_by) := ⟨_, _, fd_view_by (k := 1) F_view_by G (A_seen_by.mono (by decide)), g_view_by, FunD.kp F_view_by, FunD.bindsN F_view_by fun _ _ _ _ _ _ us hl => match us, hl with | [_, _, _], _ => rfl⟩
  have A_longer : Fd P w K mg base 3 "longer" ["rows", "mask", "letters"] (spR K R_longer) := ⟨_, _, fd_longer (k := 2) F_longer G k_LETTERS (A_view_by.mono (by decide)), g_longer, FunD.kp F_longer, FunD.bindsN F_longer fun _ _ _ _ _ _ us hl => match us, hl with | [_, _, _], _ => rfl⟩
  have A_levels_of : Fd P w K mg base 4 "levels_of" ["mask", "letters"] (spR K R_levels_of) := ⟨_, _, fd_levels_of (k := 3) F_levels_of (A_longer.mono (by decide)), g_levels_of, FunD.kp F_levels_of, FunD.bindsN F_levels_of fun _ _ _ _ _ _ us hl => match us, hl with | [_, _], _ => rfl⟩
  have A_best_masks : Fd P w K mg base 5 "best_masks" ["many", "width", "letters"] (spR K R_best_masks) := ⟨_, _, fd_best_masks (k := 4) F_best_masks G k_MOST_MASK k_MOST_WIDTHS k_MOST_SEEN (A_is_from.mono (by decide)) (A_need_letters.mono (by decide)) (A_all_masks.mono (by decide)) (A_seen_by.mono (by decide)) (A_levels_of.mono (by decide)), g_best_masks, FunD.kp F_best_masks, FunD.bindsN F_best_masks fun _ _ _ _ _ _ us hl => match us, hl with | [_, _, _], _ => rfl⟩
  exact fd_the_law (k := 7) F_law G (A__law_taken.mono (by decide)) (A__law_odd_mask.mono (by decide)) (A__law_odd_row.mono (by decide)) (A__law_told.mono (by decide)) (A_best_masks.mono (by decide))
end HW
open PySem PySem.W PySem.Calls PyProof.Rows
theorem PySem.Challenge.cw_holedwindows_k01_masks_refused_holds : PySem.Challenge.rw_holedwindows_k01_masks_refused.Holds := by
  w_on; o_law
  refine HandSHeadRun.head_any (r := OpenLaw.row PySem.Challenge.rw_holedwindows_k01_masks_refused) (q := view (OpenLaw.row PySem.Challenge.rw_holedwindows_k01_masks_refused).prog [98]) (H := Tx.hk) (ob := Tx.ob) (M := 12000) (loose := Tx.names) (d := HandSHeadRun.topDef (OpenLaw.row PySem.Challenge.rw_holedwindows_k01_masks_refused).prog 98) (kwd := []) Tx.ob_eq
    (by kernel_rfl) (fun s => by kernel_rfl) Tx.run (by kernel_rfl) (by kernel_rfl) (by kernel_rfl) (by rfl) (by first | assumption | decide +kernel) (by decide +kernel) ⟨rfl, rfl, rfl, rfl, rfl, by decide +kernel⟩ ?hw ?hc
  case hw => w_witness2
  case hc =>
    refine L2.walk_ofE (l := PySem.Challenge.rw_holedwindows_k01_masks_refused) (n := 63) (k := 8) (x := "_law_script") (CX := L2.CX0) rfl (by decide) (by kernel_rfl) ⟨rfl, by decide, by decide⟩ ?F (fun _ _ _ _ z => z)
    intro w mg fa h Y G hmg0
    obtain ⟨K, KX, c, cx⟩ := Y
    have hmg : mg ("law" : PySem.Str) = some (.ref fa) := by
      have e : (HandSHeadRun.topDef (OpenLaw.row PySem.Challenge.rw_holedwindows_k01_masks_refused).prog 98).name = ("law" : PySem.Str) := by kernel_rfl
      rw [← e]
      exact hmg0
    obtain ⟨fd, hb, hF⟩ := HW.facts (P := (PySem.Challenge.rw_holedwindows_k01_masks_refused).prog) (w := w) KX G hmg c cx
    exact ⟨K, fd, HW.spLaw K, KX, hb, fun H a ns hl _ hS => ⟨a, ns, rfl, hl, hS, fun _ => rfl⟩, hF⟩

