import PyProof.Rows.All
import Wide.All
import OpenK.AllK
import Wide.FinOn
import KE.KStateDown
import HandS.ForMost
import HandS.Head0
import HandS.Head1
import HandS.Head2
import HandS.HeadEnd
import HandS.HeadHook1
import HandS.HeadHook2
import HandS.Defaults
import HandS.Codes
import HandS.IsInst
import KE.GoesEnum
import HandS.Strs
import HandS.Zip
import HandS.TupAny
import HandS.TupMul
import PyProof.StrOps2
import HandS.NoneIn
import HandS.Style
import KE.KRevSl
import HandS.Replace
import KE.DataMinMax
import KE.SortData
import KE.DataCmp
import HandS.Flow
import HandS.Wide
import HandS.Set
import HandS.SetFor
import HandS.ExcInit
import HandS.ExcField
import HandS.TryOnly
import HandS.TryMany
import HandS.WordsExc
import HandS.ClsMeth
import HandS.Iter
import PyProof.SeqIndex
import HandS.TupSets
import PyProof.StrLawsChain
import PySem.Challenge.RW_holedwindows_k08_longest_rows_checked
set_option Elab.async false
set_option linter.all false
set_option maxRecDepth 100000
set_option maxHeartbeats 4000000
namespace HX
open PySem PySem.Spec PyProof.Rows L2 He
/-! the head's Hook with one more question ex -/
abbrev AlE : Type := AlD × Bool
def obsE (n : Nat) (fa : List Fa) (fn : List DefD) (ex : PySem.W.Frag → Bool) (g : Addr → Option Obj) : AlE := (obsD fa fn (frG g (asD g n)), ex (frG g (asD g n)))
def hookE (n : Nat) (fa : List Fa) (fn : List DefD) (ex : PySem.W.Frag → Bool) : PySem.W.Hook where
  α := AlE
  obs := fun s => obsE n fa fn ex s.heap.get?
  val := fun _ => (valD fn, true)
  says := fun _ h => ∃ K : PySem.W.Frag, K.In h ∧ SaysD fa fn K ∧ ex K = true
  of := fun _ _ e => ⟨_, frG_in, congrArg (fun z : AlE => z.1) e, congrArg (fun z : AlE => z.2) e⟩
  keeps := fun _ _ _ ⟨K, hK, c⟩ k => ⟨K, PySem.W.Frag.In.keeps hK k, c⟩
theorem obsE_eq {n : Nat} {fa : List Fa} {fn : List DefD} {ex : PySem.W.Frag → Bool} {g : Addr → Option Obj} {s : Shared} (h : ∀ a, g a = s.heap.get? a) : obsE n fa fn ex g = (hookE n fa fn ex).obs s := by
  have e : g = s.heap.get? := funext h
  rw [e] <;> rfl
/-- a constant that is a tuple of ints -/
def intV : Value → Option Int
  | .int i _ => some i
  | _ => none
def tupI (x : Str) (ns : List Int) (K : PySem.W.Frag) : Bool := match PySem.W.nsIn K mainGlobals x with
  | some (some (.ref a)) => match K.lookup a with
    | some ⟨.type T, _, .seq its _, _⟩ => decide (T = "tuple") && decide (its.toList.map intV = ns.map some) && decide (its.size ≤ 1000)
    | _ => false
  | _ => false
theorem vals_intV : ∀ {us : List Value} {ns : List Int}, us.map intV = ns.map some → Vals (ns.map V.int) us
  | [], [], _ => .nil
  | [], _ :: _, h => nomatch h
  | _ :: _, [], h => nomatch h
  | u :: us, n :: ns, h => by
    rw [List.map_cons, List.map_cons] at h
    have h1 := (List.cons.inj h).1
    have h2 := (List.cons.inj h).2
    refine .cons ?_ (vals_intV h2)
    cases u with
    | int i t =>
      have e : i = n := Option.some.inj h1
      subst e
      exact ⟨t, rfl⟩
    | _ => cases h1
abbrev gTup (K : PySem.W.Frag) (mg : Str → Option Value) (x : Str) (ns : List Int) : Prop := ∃ a, mg x = some (.ref a) ∧ ∀ H : Hp, SqT K H a (ns.map V.int)
theorem tupI_ok {K : PySem.W.Frag} {h : Heap} {mg : Str → Option Value} {x : Str} {ns : List Int} (X : K.In h) (G : h.Ns mainGlobals mg) (c : tupI x ns K = true) : gTup K mg x ns := by
  unfold tupI at c
  cases e : PySem.W.nsIn K mainGlobals x with
  | none => rw [e] at c; cases c
  | some o =>
    cases o with
    | none => rw [e] at c; cases c
    | some v =>
      cases v with
      | ref a =>
        rw [e] at c
        refine ⟨a, PySem.W.mg_of X G e, fun H => ?_⟩
        cases q : K.lookup a with
        | none =>
          simp only [q] at c
          cases c
        | some ob =>
          simp only [q] at c
          obtain ⟨cls, dd, dt, sl⟩ := ob
          cases cls with
          | type T =>
            cases dt with
            | seq its n =>
              simp only [Bool.and_eq_true, decide_eq_true_eq] at c
              obtain ⟨⟨c1, c2⟩, c3⟩ := c
              subst c1
              exact .inr ⟨_, its, n, q, rfl, rfl, Nat.le_trans c3 (by decide), vals_intV c2⟩
            | _ => cases c
          | _ => cases c
      | _ => rw [e] at c; cases c
end HX
set_option maxHeartbeats 4000000
/-! A layer of my own over HandS: expressions that evaluate to plain data, statements over a state of data. -/
namespace HW
open PySem PySem.Spec PyProof.Rows L2
/-! ### heaps -/
/-- the heap without the addresses of L -/
def off (L : List Addr) (H : Hp) : Hp := fun a => if a ∈ L then none else H a
theorem off_in {L : List Addr} {H : Hp} {a : Addr} (h : a ∈ L) : off L H a = none := if_pos h
theorem off_out {L : List Addr} {H : Hp} {a : Addr} (h : a ∉ L) : off L H a = H a := if_neg h
theorem off_some {L : List Addr} {H : Hp} {a : Addr} {o : HO} (h : off L H a = some o) : a ∉ L ∧ H a = some o := by
  by_cases q : a ∈ L
  · rw [off_in q] at h; cases h
  · rw [off_out q] at h; exact ⟨q, h⟩
/-- H' keeps all that H has but at L -/
def XT (L : List Addr) (H H' : Hp) : Prop := ∀ a o, off L H a = some o → off L H' a = some o
theorem XT.refl {L : List Addr} {H : Hp} : XT L H H := fun _ _ h => h
theorem XT.trans {L : List Addr} {H H1 H2 : Hp} (a : XT L H H1) (b : XT L H1 H2) : XT L H H2 := fun x o h => b x o (a x o h)
theorem XT.same {L : List Addr} {H H' : Hp} (e : Same H H') : XT L H H' := fun a o h => by
  obtain ⟨h1, h2⟩ := off_some h
  rw [off_out h1]
  exact e a o h2
theorem same_off {L : List Addr} {H : Hp} : Same (off L H) H := fun _ _ h => (off_some h).2
theorem same_offs {L L' : List Addr} {H : Hp} (h : ∀ a ∈ L', a ∈ L) : Same (off L H) (off L' H) := fun a o e => by
  obtain ⟨h1, h2⟩ := off_some e
  rw [off_out (fun q => h1 (h a q))]
  exact h2

/-! ### data -/
mutual
/-- no dict within -/
def nod : PyData → Bool
  | .dict _ => false
  | .list xs => nodAll xs
  | .tuple xs => nodAll xs
  | _ => true
def nodAll : List PyData → Bool
  | [] => true
  | x :: xs => nod x && nodAll xs
end
mutual
theorem nod_of_lay : ∀ {d : PyData}, d.canLay0 = true → nod d = true
  | .none, _ => rfl
  | .bool _, _ => rfl
  | .int _, _ => rfl
  | .str _, _ => rfl
  | .list xs, h => nodAll_of_lay (xs := xs) h
  | .tuple xs, h => nodAll_of_lay (xs := xs) h
  | .dict _, h => nomatch h
theorem nodAll_of_lay : ∀ {xs : List PyData}, PyData.canLayAll0 xs = true → nodAll xs = true
  | [], _ => rfl
  | x :: xs, h => by
    have q : x.canLay0 = true ∧ PyData.canLayAll0 xs = true := by simpa [PyData.canLayAll0] using h
    show (nod x && nodAll xs) = true
    rw [nod_of_lay q.1, nodAll_of_lay q.2]
    rfl
end
/-- a key as data -/
def kD : L2.Key → PyData
  | .inl i => .int i
  | .inr x => .str x
/-- a locked dict as data: its keys are numbers and texts, or tuples of them -/
abbrev dkD (kvs : List (PyData × PyData)) : PyData := .dict ((.none, .none) :: kvs)
abbrev dtD (kvs : List (PyData × PyData)) : PyData := .dict ((.bool true, .none) :: kvs)
mutual
/-- the value v is the data d -/
inductive Va (K : PySem.W.Frag) (H : Hp) : V → PyData → Prop
  | non : Va K H .non .none
  | bl (b : Bool) : Va K H (.bl b) (.bool b)
  | int (i : Int) : Va K H (.int i) (.int i)
  | str (x : Str) : Va K H (.str x) (.str x)
  | lst {a : Addr} {xs : List V} {ds : List PyData} : H a = some (.lst xs) → VaAll K H xs ds → Va K H (.ref a) (.list ds)
  | tup {a : Addr} {xs : List V} {ds : List PyData} : SqT K H a xs → VaAll K H xs ds → Va K H (.ref a) (.tuple ds)
  | dct {a : Addr} : H a = some (.dK []) → Va K H (.ref a) (.dict [])
  | ptr (a : Addr) : Va K H (.ref a) (.dict [(.int a, .none)])
  | dcf {a : Addr} {o : Obj} {ks : List (Key × V)} {ds : List PyData} {kvs : List (PyData × PyData)} : H a = some (.frz o (.dK ks)) → VaAll K H (ks.map (·.2)) ds → kvs = (ks.map fun p => kD p.1).zip ds → Va K H (.ref a) (dkD kvs)
  | dtf {a : Addr} {o : Obj} {ks : List (List Key × V)} {ds : List PyData} {kvs : List (PyData × PyData)} : H a = some (.frz o (.dT ks)) → VaAll K H (ks.map (·.2)) ds → kvs = (ks.map fun p => PyData.tuple (p.1.map kD)).zip ds → Va K H (.ref a) (dtD kvs)
inductive VaAll (K : PySem.W.Frag) (H : Hp) : List V → List PyData → Prop
  | nil : VaAll K H [] []
  | cons {v : V} {vs : List V} {d : PyData} {ds : List PyData} : Va K H v d → VaAll K H vs ds → VaAll K H (v :: vs) (d :: ds)
end
section
variable {K : PySem.W.Frag} {H H' : Hp}
theorem SqT.up {a : Addr} {xs : List V} (e : Same H H') (h : SqT K H a xs) : SqT K H' a xs := by
  rcases h with (h | ⟨o, h⟩) | h
  · exact .inl (.inl (e _ _ h))
  · exact .inl (.inr ⟨o, e _ _ h⟩)
  · exact .inr h
mutual
theorem Va.up (e : Same H H') : ∀ {v : V} {d : PyData}, Va K H v d → Va K H' v d
  | _, _, .non => .non
  | _, _, .bl b => .bl b
  | _, _, .int i => .int i
  | _, _, .str x => .str x
  | _, _, .lst h hs => .lst (e _ _ h) (VaAll.up e hs)
  | _, _, .tup h hs => .tup (SqT.up e h) (VaAll.up e hs)
  | _, _, .dct h => .dct (e _ _ h)
  | _, _, .ptr a => .ptr a
  | _, _, .dcf h hs q => .dcf (e _ _ h) (VaAll.up e hs) q
  | _, _, .dtf h hs q => .dtf (e _ _ h) (VaAll.up e hs) q
theorem VaAll.up (e : Same H H') : ∀ {vs : List V} {ds : List PyData}, VaAll K H vs ds → VaAll K H' vs ds
  | _, _, .nil => .nil
  | _, _, .cons h hs => .cons (Va.up e h) (VaAll.up e hs)
end
mutual
theorem Va.dp : ∀ {v : V} {d : PyData}, Va K H v d → nod d = true → Dp K H v d
  | _, _, .non, _ => .non
  | _, _, .bl b, _ => .bl b
  | _, _, .int i, _ => .int i
  | _, _, .str x, _ => .str x
  | _, _, .lst h hs, n => .lst (SqL.of h) (VaAll.dp hs n)
  | _, _, .tup h hs, n => .tup h (VaAll.dp hs n)
  | _, _, .dct _, n => nomatch n
  | _, _, .ptr _, n => nomatch n
  | _, _, .dcf _ _ _, n => nomatch n
  | _, _, .dtf _ _ _, n => nomatch n
theorem VaAll.dp : ∀ {vs : List V} {ds : List PyData}, VaAll K H vs ds → nodAll ds = true → DpAll K H vs ds
  | _, _, .nil, _ => .nil
  | _, _, .cons h hs, n => by
    obtain ⟨n1, n2⟩ := Bool.and_eq_true_iff.mp n
    exact .cons (Va.dp h n1) (VaAll.dp hs n2)
end
theorem VaAll.length : ∀ {vs : List V} {ds : List PyData}, VaAll K H vs ds → vs.length = ds.length
  | _, _, .nil => rfl
  | _, _, .cons _ hs => by rw [List.length_cons, List.length_cons, VaAll.length hs]
theorem VaAll.get : ∀ {vs : List V} {ds : List PyData} {i : Nat} {v : V}, VaAll K H vs ds → vs[i]? = some v → ∃ d, ds[i]? = some d ∧ Va K H v d
  | _, _, i, _, .nil, e => by simp at e
  | _, _, 0, _, .cons h _, e => by
    have e : _ = _ := Option.some.inj e
    subst e
    exact ⟨_, rfl, h⟩
  | _, _, i + 1, v, .cons _ hs, e => by
    obtain ⟨d, h1, h2⟩ := VaAll.get (i := i) (v := v) hs (by simpa using e)
    exact ⟨d, by simpa using h1, h2⟩
theorem VaAll.at : ∀ {vs : List V} {ds : List PyData} {i : Nat} {d : PyData}, VaAll K H vs ds → ds[i]? = some d → ∃ v, vs[i]? = some v ∧ Va K H v d
  | _, _, i, _, .nil, e => by simp at e
  | _, _, 0, _, .cons h _, e => by
    have e : _ = _ := Option.some.inj e
    subst e
    exact ⟨_, rfl, h⟩
  | _, _, i + 1, d, .cons _ hs, e => by
    obtain ⟨v, h1, h2⟩ := VaAll.at (i := i) (d := d) hs (by simpa using e)
    exact ⟨v, by simpa using h1, h2⟩
theorem VaAll.app : ∀ {vs ws : List V} {ds es : List PyData}, VaAll K H vs ds → VaAll K H ws es → VaAll K H (vs ++ ws) (ds ++ es)
  | _, _, _, _, .nil, s => s
  | _, _, _, _, .cons h hs, s => .cons h (VaAll.app hs s)
theorem VaAll.take : ∀ {vs : List V} {ds : List PyData} (n : Nat), VaAll K H vs ds → VaAll K H (vs.take n) (ds.take n)
  | _, _, 0, _ => .nil
  | _, _, _ + 1, .nil => .nil
  | _, _, n + 1, .cons h hs => .cons h (VaAll.take n hs)
theorem VaAll.drop : ∀ {vs : List V} {ds : List PyData} (n : Nat), VaAll K H vs ds → VaAll K H (vs.drop n) (ds.drop n)
  | _, _, 0, r => r
  | _, _, _ + 1, .nil => .nil
  | _, _, n + 1, .cons _ hs => VaAll.drop n hs
theorem VaAll.ints : ∀ {vs : List V} {ns : List Int}, VaAll K H vs (ns.map PyData.int) → vs = ns.map V.int
  | _, [], h => by cases h; rfl
  | _, n :: ns, h => by
    cases h with
    | cons h hs => cases h; rw [VaAll.ints hs]; rfl
theorem VaAll.bls : ∀ {vs : List V} {bs : List Bool}, VaAll K H vs (bs.map PyData.bool) → vs = bs.map V.bl
  | _, [], h => by cases h; rfl
  | _, n :: ns, h => by
    cases h with
    | cons h hs => cases h; rw [VaAll.bls hs]; rfl
theorem VaAll.strs : ∀ {vs : List V} {xs : List Str}, VaAll K H vs (xs.map PyData.str) → vs = xs.map V.str
  | _, [], h => by cases h; rfl
  | _, n :: ns, h => by
    cases h with
    | cons h hs => cases h; rw [VaAll.strs hs]; rfl
end
/-! ### the state: slots of data, local mutable objects, the world around -/
inductive DV where
  | no | d (x : PyData) | r (a : Addr)
inductive MO where
  | lst (ds : List PyData) | dK (kvs : List (Key × PyData)) | dT (kvs : List (List Key × PyData))
abbrev Mu := List (Addr × MO)
/-- H0: all that must stay; M: hidden objects (the callers' mutable ones); row: the draws' row, its script -/
structure Wd where
  H0 : Hp
  M : List Addr
  row : Option (Addr × Addr × List Int)
def RowC (H : Hp) (r scr : Addr) : Prop := ∃ i s q : Int, H r = some (.lst [.ref scr, .int i, .int s, .int q]) ∧ 0 ≤ i
def Wd.isRow (W : Wd) (a : Addr) : Prop := ∃ scr ns, W.row = some (a, scr, ns)
structure Fr (W : Wd) (H : Hp) : Prop where
  keep : ∀ a o, ¬ W.isRow a → W.H0 a = some o → H a = some o
  row : ∀ r scr ns, W.row = some (r, scr, ns) → RowC H r scr
structure WdOk (K : PySem.W.Frag) (W : Wd) : Prop where
  hid : ∀ a ∈ W.M, W.H0 a ≠ none
  row : ∀ r scr ns, W.row = some (r, scr, ns) → r ∈ W.M ∧ SqL K W.H0 scr (ns.map V.int) ∧ scr ≠ r ∧ ns.length ≤ 63
def SltR (K : PySem.W.Frag) (H : Hp) : Option V → DV → Prop
  | _, .no => True
  | o, .d d => ∃ v, o = some v ∧ Va K H v d
  | o, .r a => o = some (.ref a)
structure Slots (K : PySem.W.Frag) (H : Hp) (σ : L2.St) (Γ : List DV) : Prop where
  len : σ.length = Γ.length
  at_ : ∀ (i : Nat) (dv : DV), Γ[i]? = some dv → ∃ o, σ[i]? = some o ∧ SltR K H o dv
def MOk (K : PySem.W.Frag) (Ho H : Hp) (a : Addr) : MO → Prop
  | .lst ds => ∃ xs, H a = some (.lst xs) ∧ VaAll K Ho xs ds
  | .dK kvs => ∃ ks : List (Key × V), H a = some (.dK ks) ∧ Paired (fun (p : Key × V) (q : Key × PyData) => p.1 = q.1 ∧ Va K Ho p.2 q.2) ks kvs
  | .dT kvs => ∃ ks : List (List Key × V), H a = some (.dT ks) ∧ Paired (fun (p : List Key × V) (q : List Key × PyData) => p.1 = q.1 ∧ Va K Ho p.2 q.2) ks kvs
abbrev hd (W : Wd) (μ : Mu) : List Addr := W.M ++ μ.map (·.1)
structure Rep (K : PySem.W.Frag) (W : Wd) (Γ : List DV) (μ : Mu) (σ : L2.St) (H : Hp) : Prop where
  wd : WdOk K W
  fr : Fr W H
  sl : Slots K (off (hd W μ) H) σ Γ
  mu : ∀ p ∈ μ, W.H0 p.1 = none ∧ MOk K (off (hd W μ) H) H p.1 p.2
  nd : (μ.map (·.1)).Nodup
section
variable {K : PySem.W.Frag} {H H' Ho Ho' : Hp} {W : Wd} {Γ : List DV} {μ : Mu} {σ : L2.St}
theorem SltR.up (e : Same H H') {o : Option V} {dv : DV} (h : SltR K H o dv) : SltR K H' o dv := by
  cases dv with
  | no => trivial
  | d x => obtain ⟨v, e1, e2⟩ := h; exact ⟨v, e1, e2.up e⟩
  | r a => exact h
theorem Slots.up (e : Same H H') (h : Slots K H σ Γ) : Slots K H' σ Γ := ⟨h.len, fun i dv q => by
  obtain ⟨o, h1, h2⟩ := h.at_ i dv q
  exact ⟨o, h1, h2.up e⟩⟩
theorem Slots.set (h : Slots K H σ Γ) (i : Nat) {v : V} {d : PyData} (r : Va K H v d) : Slots K H (σ.set i (some v)) (Γ.set i (.d d)) := ⟨by rw [List.length_set, List.length_set, h.len], fun j dv q => by
  by_cases hj : j = i
  · subst hj
    have hl : j < Γ.length := by
      have := (List.getElem?_eq_some_iff.mp q).1
      simpa using this
    rw [List.getElem?_set_self hl] at q
    cases q
    exact ⟨_, List.getElem?_set_self (by rw [h.len]; exact hl), v, rfl, r⟩
  · rw [List.getElem?_set_ne (Ne.symm hj)] at q ⊢
    exact h.at_ j dv q⟩
theorem Slots.setr (h : Slots K H σ Γ) (i : Nat) {a : Addr} : Slots K H (σ.set i (some (.ref a))) (Γ.set i (.r a)) := ⟨by rw [List.length_set, List.length_set, h.len], fun j dv q => by
  by_cases hj : j = i
  · subst hj
    have hl : j < Γ.length := by
      have := (List.getElem?_eq_some_iff.mp q).1
      simpa using this
    rw [List.getElem?_set_self hl] at q
    cases q
    exact ⟨_, List.getElem?_set_self (by rw [h.len]; exact hl), rfl⟩
  · rw [List.getElem?_set_ne (Ne.symm hj)] at q ⊢
    exact h.at_ j dv q⟩
theorem Slots.no (h : Slots K H σ Γ) (i : Nat) {x : Option V} : Slots K H (σ.set i x) (Γ.set i .no) := ⟨by rw [List.length_set, List.length_set, h.len], fun j dv q => by
  by_cases hj : j = i
  · subst hj
    have hl : j < Γ.length := by
      have := (List.getElem?_eq_some_iff.mp q).1
      simpa using this
    rw [List.getElem?_set_self hl] at q
    cases q
    exact ⟨_, List.getElem?_set_self (by rw [h.len]; exact hl), trivial⟩
  · rw [List.getElem?_set_ne (Ne.symm hj)] at q ⊢
    exact h.at_ j dv q⟩
theorem pmp {α β : Type} {F G : α → β → Prop} : ∀ {l₁ : List α} {l₂ : List β}, Paired F l₁ l₂ → (∀ a b, F a b → G a b) → Paired G l₁ l₂
  | _, _, .nil, _ => .nil
  | _, _, .cons r t, f => .cons (f _ _ r) (pmp t f)
theorem MOk.up (e : Same Ho Ho') {a : Addr} (e2 : ∀ o, H a = some o → H' a = some o) {m : MO} (h : MOk K Ho H a m) : MOk K Ho' H' a m := by
  cases m with
  | lst ds => obtain ⟨xs, h1, h2⟩ := h; exact ⟨xs, e2 _ h1, h2.up e⟩
  | dK kvs => obtain ⟨xs, h1, h2⟩ := h; exact ⟨xs, e2 _ h1, pmp h2 fun _ _ z => ⟨z.1, z.2.up e⟩⟩
  | dT kvs => obtain ⟨xs, h1, h2⟩ := h; exact ⟨xs, e2 _ h1, pmp h2 fun _ _ z => ⟨z.1, z.2.up e⟩⟩
theorem MOk.ne {a : Addr} {m : MO} (h : MOk K Ho H a m) : H a ≠ none := by
  cases m with
  | lst ds => obtain ⟨xs, h1, h2⟩ := h; rw [h1]; simp
  | dK kvs => obtain ⟨xs, h1, h2⟩ := h; rw [h1]; simp
  | dT kvs => obtain ⟨xs, h1, h2⟩ := h; rw [h1]; simp
theorem Fr.dom (h : Fr W H) {a : Addr} (q : W.H0 a ≠ none) : H a ≠ none := by
  by_cases hr : W.isRow a
  · obtain ⟨scr, ns, e⟩ := hr
    obtain ⟨i, s, q, e1, _⟩ := h.row _ _ _ e
    rw [e1]; simp
  · cases e : W.H0 a with
    | none => exact absurd e q
    | some o => rw [h.keep a o hr e]; simp
theorem Fr.same (h : Fr W H) (e : Same H H') : Fr W H' := ⟨fun a o n q => e a o (h.keep a o n q), fun r scr ns q => by
  obtain ⟨i, s, z, e1, e2⟩ := h.row r scr ns q
  exact ⟨i, s, z, e _ _ e1, e2⟩⟩
theorem Rep.ne (R : Rep K W Γ μ σ H) : ∀ a ∈ hd W μ, H a ≠ none := fun a ha => by
  rcases List.mem_append.mp ha with h | h
  · exact R.fr.dom (R.wd.hid a h)
  · obtain ⟨p, hp, rfl⟩ := List.mem_map.mp h
    exact (R.mu p hp).2.ne
/-- all is kept -/
theorem Rep.same (R : Rep K W Γ μ σ H) (e : Same H H') : Rep K W Γ μ σ H' :=
  ⟨R.wd, R.fr.same e, R.sl.up (XT.same e), fun p hp => ⟨(R.mu p hp).1, (R.mu p hp).2.up (XT.same e) (e _)⟩, R.nd⟩
/-- a new object is no hidden one -/
theorem new_out {L : List Addr} (hL : ∀ a ∈ L, H a ≠ none) {p : Addr} (hp : H p = none) : p ∉ L := fun q => hL p q hp
theorem same_new {p : Addr} {o : HO} (hp : H p = none) : Same H (upd H p o) := fun b u e => by
  rw [upd_ne (ne_of_none e hp)]
  exact e
theorem off_upd {L : List Addr} {p : Addr} {o : HO} (h : p ∉ L) : off L (upd H p o) p = some o := by rw [off_out h, upd_same]

/-- the world grows: what stands now must stay -/
structure Wle (W W' : Wd) : Prop where
  m : ∀ a ∈ W.M, a ∈ W'.M
  row : W'.row = W.row
  keep : ∀ a o, ¬ W.isRow a → W.H0 a = some o → W'.H0 a = some o
theorem Wle.refl {W : Wd} : Wle W W := ⟨fun _ h => h, rfl, fun _ _ _ h => h⟩
theorem Wle.isRow {W W' : Wd} (l : Wle W W') (a : Addr) : W'.isRow a ↔ W.isRow a := by
  unfold Wd.isRow
  rw [l.row]
theorem Wle.trans {W W1 W2 : Wd} (a : Wle W W1) (b : Wle W1 W2) : Wle W W2 :=
  ⟨fun x h => b.m x (a.m x h), b.row.trans a.row, fun x o n h => b.keep x o (fun q => n ((a.isRow x).mp q)) (a.keep x o n h)⟩
theorem Fr.down {W W' : Wd} (l : Wle W W') (h : Fr W' H) : Fr W H :=
  ⟨fun a o n q => h.keep a o (fun z => n ((l.isRow a).mp z)) (l.keep a o n q), fun r scr ns q => h.row r scr ns (l.row.trans q)⟩
/-- from the grown world back, where the local objects are new to the smaller one -/
theorem Rep.down {W W' : Wd} (l : Wle W W') (ok : WdOk K W) (hm : ∀ p ∈ μ, W.H0 p.1 = none) (R : Rep K W' Γ μ σ H) : Rep K W Γ μ σ H := by
  have e : Same (off (hd W' μ) H) (off (hd W μ) H) := same_offs fun a ha => by
    rcases List.mem_append.mp ha with h | h
    · exact List.mem_append_left _ (l.m a h)
    · exact List.mem_append_right _ h
  exact ⟨ok, R.fr.down l, R.sl.up e, fun p hp => ⟨hm p hp, (R.mu p hp).2.up e fun _ z => z⟩, R.nd⟩
/-- the world as it stands: everything but the local objects and the row must stay -/
def Wd.now (W : Wd) (μ : Mu) (H : Hp) : Wd := { W with H0 := off (μ.map (·.1)) H }
theorem Rep.mu_new (R : Rep K W Γ μ σ H) {a : Addr} (h : W.H0 a ≠ none) : a ∉ μ.map (·.1) := fun q => by
  obtain ⟨p, hp, rfl⟩ := List.mem_map.mp q
  exact h (R.mu p hp).1
theorem Rep.now_le (R : Rep K W Γ μ σ H) : Wle W (W.now μ H) := ⟨fun _ h => h, rfl, fun a o n h => by
  have q : a ∉ μ.map (·.1) := R.mu_new (by rw [h]; simp)
  show off (μ.map (·.1)) H a = some o
  rw [off_out q]
  exact R.fr.keep a o n h⟩
theorem SqL.up {a : Addr} {xs : List V} (e : ∀ o, H a = some o → H' a = some o) (h : SqL K H a xs) : SqL K H' a xs := by
  rcases h with (h | ⟨o, h⟩) | h
  · exact .inl (.inl (e _ h))
  · exact .inl (.inr ⟨o, e _ h⟩)
  · exact .inr h
theorem Rep.now_ok (R : Rep K W Γ μ σ H) : WdOk K (W.now μ H) := ⟨fun a ha => by
  show off (μ.map (·.1)) H a ≠ none
  rw [off_out (R.mu_new (R.wd.hid a ha))]
  exact R.fr.dom (R.wd.hid a ha), fun r scr ns q => by
  obtain ⟨h1, h2, h3, h4⟩ := R.wd.row r scr ns q
  refine ⟨h1, SqL.up (fun o e => ?_) h2, h3, h4⟩
  show off (μ.map (·.1)) H scr = some o
  rw [off_out (R.mu_new (by rw [e]; simp))]
  refine R.fr.keep scr o (fun ⟨s2, n2, z⟩ => ?_) e
  have q' : W.row = some (r, scr, ns) := q
  rw [q'] at z
  cases z
  exact h3 rfl⟩
theorem Rep.now (R : Rep K W Γ μ σ H) : Rep K (W.now μ H) Γ μ σ H :=
  ⟨R.now_ok, ⟨fun a o n q => (off_some q).2, R.fr.row⟩, R.sl, fun p hp => ⟨off_in (List.mem_map.mpr ⟨p, hp, rfl⟩), (R.mu p hp).2⟩, R.nd⟩
end
end HW
set_option maxHeartbeats 4000000
namespace HW
open PySem PySem.Spec PyProof.Rows L2
/-! ### judgements -/
/-- what e wants -/
def wE (X : Cx) (e : Expr) : TE := fun σ H Q => ∀ (pins : List (Addr × Obj)) (s : Shared), Inv X pins σ H s → wpAny (model X.prog X.w) X.A (eval e X.env) (EP X pins σ Q) X.xe s
theorem wE.pe {X : Cx} {e : Expr} : PE X e (wE X e) := ⟨fun pins s _ _ _ I h => h pins s I⟩
theorem _root_.L2.PE.w {X : Cx} {e : Expr} {t : TE} (h : PE X e t) {σ : L2.St} {H : Hp} {Q : VK} (q : t σ H Q) : wE X e σ H Q := fun pins s I => h.run pins s σ H Q I q
def wA (X : Cx) (es : List Expr) : TA := fun σ H Q => ∀ (pos : Pos) (pins : List (Addr × Obj)) (s : Shared), Inv X pins σ H s → wpAny (model X.prog X.w) X.A (spliced (backTo pos (starEach es X.env))) (AP X pins σ Q) X.xe s
theorem wA.pa {X : Cx} {es : List Expr} : PA X es (wA X es) := ⟨fun pos pins s _ _ _ I h => h pos pins s I⟩
theorem _root_.L2.PA.w {X : Cx} {es : List Expr} {t : TA} (h : PA X es t) {σ : L2.St} {H : Hp} {Q : List V → Hp → Prop} (q : t σ H Q) : wA X es σ H Q := fun pos pins s I => h.run pos pins s σ H Q I q
def wT (X : Cx) (e : Expr) : TT := fun σ H Q => ∀ (pins : List (Addr × Obj)) (s : Shared), Inv X pins σ H s → wpAny (model X.prog X.w) X.A (isTrue e X.env (eval e X.env)) (TP X pins σ Q) X.xe s
theorem wT.pt {X : Cx} {e : Expr} : PT X e (wT X e) := ⟨fun pins s _ _ _ I h => h pins s I⟩
theorem _root_.L2.PT.w {X : Cx} {e : Expr} {t : TT} (h : PT X e t) {σ : L2.St} {H : Hp} {Q : Bool → Hp → Prop} (q : t σ H Q) : wT X e σ H Q := fun pins s I => h.run pins s σ H Q I q
def wS (X : Cx) (st : Stmt) : TS := fun D σ H => ∀ (pins : List (Addr × Obj)) (s : Shared), Inv X pins σ H s → wpAny (model X.prog X.w) X.A (exec st X.env) (SP X pins D) X.xe s
theorem wS.ps {X : Cx} {st : Stmt} : PS X st (wS X st) := ⟨fun pins s _ _ _ I h => h pins s I⟩
theorem _root_.L2.PS.w {X : Cx} {st : Stmt} {t : TS} (h : PS X st t) {σ : L2.St} {H : Hp} {D : Ends} (q : t D σ H) : wS X st D σ H := fun pins s I => h.run pins s σ H D I q
def wSs (X : Cx) (sts : List Stmt) : TS := fun D σ H => ∀ (pins : List (Addr × Obj)) (s : Shared), Inv X pins σ H s → wpAny (model X.prog X.w) X.A (execs sts X.env) (SP X pins D) X.xe s
theorem wSs.ps {X : Cx} {sts : List Stmt} : PSs X sts (wSs X sts) := ⟨fun pins s _ _ _ I h => h pins s I⟩
theorem _root_.L2.PSs.w {X : Cx} {sts : List Stmt} {t : TS} (h : PSs X sts t) {σ : L2.St} {H : Hp} {D : Ends} (q : t D σ H) : wSs X sts D σ H := fun pins s I => h.run pins s σ H D I q
/-- one statement, then the rest -/
theorem wSs_cons {X : Cx} {st : Stmt} {rest : List Stmt} {σ : L2.St} {H : Hp} {D : Ends} (h : wS X st { D with nx := wSs X rest D } σ H) : wSs X (st :: rest) D σ H := (pss_cons wS.ps wSs.ps).w h

/-- e gives data with P -/
def Ev (X : Cx) (W : Wd) (Γ : List DV) (μ : Mu) (e : Expr) (P : PyData → Prop) : Prop :=
  ∀ σ H, Rep X.K W Γ μ σ H → ∀ Q : VK, (∀ v d H2, Rep X.K W Γ μ σ H2 → XT (hd W μ) H H2 → Va X.K (off (hd W μ) H2) v d → P d → Q v H2) → wE X e σ H Q
def Ed (X : Cx) (W : Wd) (Γ : List DV) (μ : Mu) (e : Expr) (d : PyData) : Prop :=
  ∀ σ H, Rep X.K W Γ μ σ H → ∀ Q : VK, (∀ v H2, Rep X.K W Γ μ σ H2 → XT (hd W μ) H H2 → Va X.K (off (hd W μ) H2) v d → Q v H2) → wE X e σ H Q
def EvA (X : Cx) (W : Wd) (Γ : List DV) (μ : Mu) (es : List Expr) (P : List PyData → Prop) : Prop :=
  ∀ σ H, Rep X.K W Γ μ σ H → ∀ Q : List V → Hp → Prop, (∀ vs ds H2, Rep X.K W Γ μ σ H2 → XT (hd W μ) H H2 → VaAll X.K (off (hd W μ) H2) vs ds → P ds → Q vs H2) → wA X es σ H Q
def EdA (X : Cx) (W : Wd) (Γ : List DV) (μ : Mu) (es : List Expr) (ds : List PyData) : Prop :=
  ∀ σ H, Rep X.K W Γ μ σ H → ∀ Q : List V → Hp → Prop, (∀ vs H2, Rep X.K W Γ μ σ H2 → XT (hd W μ) H H2 → VaAll X.K (off (hd W μ) H2) vs ds → Q vs H2) → wA X es σ H Q
/-- e as a test gives b; gives a b with P -/
def EdT (X : Cx) (W : Wd) (Γ : List DV) (μ : Mu) (e : Expr) (b : Bool) : Prop :=
  ∀ σ H, Rep X.K W Γ μ σ H → ∀ Q : Bool → Hp → Prop, (∀ H2, Rep X.K W Γ μ σ H2 → XT (hd W μ) H H2 → Q b H2) → wT X e σ H Q
def EvT (X : Cx) (W : Wd) (Γ : List DV) (μ : Mu) (e : Expr) (P : Bool → Prop) : Prop :=
  ∀ σ H, Rep X.K W Γ μ σ H → ∀ Q : Bool → Hp → Prop, (∀ b H2, Rep X.K W Γ μ σ H2 → XT (hd W μ) H H2 → P b → Q b H2) → wT X e σ H Q
/-- and, or: whatever the 'whole' is -/
def wW (X : Cx) (e : Expr) : TT := fun σ H Q => ∀ (whole : Sem Value) (pins : List (Addr × Obj)) (s : Shared), Inv X pins σ H s → wpAny (model X.prog X.w) X.A (isTrue e X.env whole) (TP X pins σ Q) X.xe s
theorem wW.pw {X : Cx} {e : Expr} : PW X e (wW X e) := ⟨fun whole pins s _ _ _ I h => h whole pins s I⟩
theorem _root_.L2.PW.w {X : Cx} {e : Expr} {t : TT} (h : PW X e t) {σ : L2.St} {H : Hp} {Q : Bool → Hp → Prop} (q : t σ H Q) : wW X e σ H Q := fun whole pins s I => h.run whole pins s σ H Q I q
def EdW (X : Cx) (W : Wd) (Γ : List DV) (μ : Mu) (e : Expr) (b : Bool) : Prop :=
  ∀ σ H, Rep X.K W Γ μ σ H → ∀ Q : Bool → Hp → Prop, (∀ H2, Rep X.K W Γ μ σ H2 → XT (hd W μ) H H2 → Q b H2) → wW X e σ H Q
def EvW (X : Cx) (W : Wd) (Γ : List DV) (μ : Mu) (e : Expr) (P : Bool → Prop) : Prop :=
  ∀ σ H, Rep X.K W Γ μ σ H → ∀ Q : Bool → Hp → Prop, (∀ b H2, Rep X.K W Γ μ σ H2 → XT (hd W μ) H H2 → P b → Q b H2) → wW X e σ H Q

section
variable {X : Cx} {W : Wd} {Γ : List DV} {μ : Mu} {e a b : Expr} {es : List Expr} {d x y z : PyData} {ds : List PyData} {P A B C : PyData → Prop} {pos : Pos}
theorem Ed.ev (h : Ed X W Γ μ e d) : Ev X W Γ μ e (fun z => z = d) := fun σ H R Q k => h σ H R Q fun v H2 R2 x2 r => k v d H2 R2 x2 r rfl
theorem Ed.evP (h : Ed X W Γ μ e d) (p : P d) : Ev X W Γ μ e P := fun σ H R Q k => h σ H R Q fun v H2 R2 x2 r => k v d H2 R2 x2 r p
theorem Ev.ed (h : Ev X W Γ μ e (fun z => z = d)) : Ed X W Γ μ e d := fun σ H R Q k => h σ H R Q fun v d' H2 R2 x2 r e => k v H2 R2 x2 (e ▸ r)
theorem Ev.imp (h : Ev X W Γ μ e A) (i : ∀ d, A d → B d) : Ev X W Γ μ e B := fun σ H R Q k => h σ H R Q fun v d H2 R2 x2 r p => k v d H2 R2 x2 r (i d p)
theorem Ed.to (h : Ed X W Γ μ e x) (q : x = y) : Ed X W Γ μ e y := q ▸ h
theorem EdA.ev {ds : List PyData} {P : List PyData → Prop} (h : EdA X W Γ μ es ds) (p : P ds) : EvA X W Γ μ es P := fun σ H R Q k => h σ H R Q fun v H2 R2 x2 r => k v ds H2 R2 x2 r p
theorem EdT.ev {b : Bool} {P : Bool → Prop} (h : EdT X W Γ μ e b) (p : P b) : EvT X W Γ μ e P := fun σ H R Q k => h σ H R Q fun H2 R2 x2 => k b H2 R2 x2 p
theorem EdT.to {b b' : Bool} (h : EdT X W Γ μ e b) (q : b = b') : EdT X W Γ μ e b' := q ▸ h
theorem EvT.imp {A B : Bool → Prop} (h : EvT X W Γ μ e A) (i : ∀ b, A b → B b) : EvT X W Γ μ e B := fun σ H R Q k => h σ H R Q fun b H2 R2 x2 p => k b H2 R2 x2 (i b p)

/-! ### names, constants -/
/-- a local name -/
theorem vr (i : Nat) {n : Str} (hd_ : Γ[i]? = some (.d d) := by rfl) (hN : X.N[i]? = some n := by rfl) (hv : Vis X.env.scope n := by first | exact Or.inl rfl | exact Or.inr (Or.inl rfl) | exact Or.inr (Or.inr rfl))
    (h1 : (n == ("__debug__" : Str)) = false := by decide) (h2 : (n == ("__classdict__" : Str)) = false := by decide) : Ed X W Γ μ (.Name n pos) d := fun σ H R Q k => by
  obtain ⟨o, e1, v, e2, r⟩ := R.sl.at_ i _ hd_
  subst e2
  exact (pe_var hN hv h1 h2).w ⟨v, e1, k v H R XT.refl r⟩
theorem ed_c {v : V} (h : PE X e (tC v)) (r : ∀ H, Va X.K H v d) : Ed X W Γ μ e d := fun σ H R Q k => h.w (k v H R XT.refl (r _))
theorem ed_int {i : Int} {j p} : Ed X W Γ μ (.Constant (.int i) j p) (.int i) := ed_c pe_int fun _ => .int i
theorem ed_bl {i : Bool} {j p} : Ed X W Γ μ (.Constant (.bool i) j p) (.bool i) := ed_c pe_bl fun _ => .bl i
theorem ed_str {i : Str} {j p} : Ed X W Γ μ (.Constant (.str i) j p) (.str i) := ed_c pe_str fun _ => .str i
/-- a constant of the module -/
theorem ed_gstr {n z : Str} (hm : ∃ t, X.mg n = some (.str z t)) (hg : Gl X n := by rfl) (h1 : (n == ("__debug__" : Str)) = false := by decide) : Ed X W Γ μ (.Name n pos) (.str z) := by
  obtain ⟨t, hm⟩ := hm
  exact ed_c (pe_glob hg hm (v := .str z) ⟨t, rfl⟩ h1) fun _ => .str z
theorem ed_gint {n : Str} {z : Int} (hm : ∃ t, X.mg n = some (.int z t)) (hg : Gl X n := by rfl) (h1 : (n == ("__debug__" : Str)) = false := by decide) : Ed X W Γ μ (.Name n pos) (.int z) := by
  obtain ⟨t, hm⟩ := hm
  exact ed_c (pe_glob hg hm (v := .int z) ⟨t, rfl⟩ h1) fun _ => .int z

/-! ### two values -/
/-- on the data x and y, z comes -/
def rD (K : PySem.W.Frag) (x y z : PyData) : R2 := fun a b H Q => ∃ L : List Addr, (∀ l ∈ L, H l ≠ none) ∧ Va K (off L H) a x ∧ Va K (off L H) b y ∧ ∀ v H2, Same H H2 → Va K (off L H2) v z → Q v H2
def OpD (X : Cx) (f : Value → Value → Sem Value) (x y z : PyData) : Prop := OpR X f (rD X.K x y z)
theorem OpR.to {f : Value → Value → Sem Value} {r r' : R2} (h : OpR X f r) (i : ∀ a b H Q, r' a b H Q → r a b H Q) : OpR X f r' := fun pins s σ H x y v u Q I rx ry q => h pins s σ H x y v u Q I rx ry (i _ _ _ _ q)
theorem bin_ev {r : V → V → Hp → VK → Prop} (ha : Ev X W Γ μ a A) (hb : Ev X W Γ μ b B) (hz : ∀ x y, A x → B y → ∃ z, C z ∧ ∀ va vb H Q, rD X.K x y z va vb H Q → r va vb H Q) {σ : L2.St} {H : Hp} (R : Rep X.K W Γ μ σ H) {Q : VK}
    (k : ∀ v d H2, Rep X.K W Γ μ σ H2 → XT (hd W μ) H H2 → Va X.K (off (hd W μ) H2) v d → C d → Q v H2) :
    wE X a σ H fun va H1 => wE X b σ H1 fun vb H2 => r va vb H2 Q := by
  refine ha σ H R _ fun va x H1 R1 e1 r1 p1 => hb σ H1 R1 _ fun vb y H2 R2 e2 r2 p2 => ?_
  obtain ⟨z, pz, hr⟩ := hz x y p1 p2
  exact hr _ _ _ _ ⟨hd W μ, R2.ne, r1.up e2, r2, fun v H3 e3 r3 => k v z H3 (R2.same e3) ((e1.trans e2).trans (XT.same e3)) r3 pz⟩
def rAny (X : Cx) (f : Value → Value → Sem Value) : R2 := fun va vb H Q => ∃ x y z, OpD X f x y z ∧ rD X.K x y z va vb H Q
theorem rAny.ok {f : Value → Value → Sem Value} : OpR X f (rAny X f) := fun pins s σ H x y v u Q I rx ry ⟨_, _, _, o, q⟩ => o pins s σ H x y v u Q I rx ry q
def IxD (X : Cx) (x y z : PyData) : Prop := IxR X (rD X.K x y z)
def rAnyI (X : Cx) : R2 := fun va vb H Q => ∃ x y z, IxD X x y z ∧ rD X.K x y z va vb H Q
theorem rAnyI.ok : IxR X (rAnyI X) := fun e1 e2 pins s σ H x y v u Q I rx ry ⟨_, _, _, o, q⟩ hs => o e1 e2 pins s σ H x y v u Q I rx ry q hs
theorem ev_op {op : Operator} (ha : Ev X W Γ μ a A) (hb : Ev X W Γ μ b B) (hz : ∀ x y, A x → B y → ∃ z, C z ∧ OpD X (binaryOp op) x y z) : Ev X W Γ μ (.BinOp a op b pos) C := fun σ H R Q k => by
  refine (pe_op (rAny.ok (X := X)) wE.pe wE.pe).w ?_
  exact bin_ev (r := rAny X (binaryOp op)) ha hb (fun x y px py => (hz x y px py).imp fun z h => ⟨h.1, fun va vb H Q q => ⟨x, y, z, h.2, q⟩⟩) R k
theorem ed_op {op : Operator} (ha : Ed X W Γ μ a x) (hb : Ed X W Γ μ b y) (hz : OpD X (binaryOp op) x y z) : Ed X W Γ μ (.BinOp a op b pos) z :=
  (ev_op (C := fun w => w = z) ha.ev hb.ev fun _ _ e1 e2 => ⟨z, rfl, by rw [e1, e2]; exact hz⟩).ed
theorem ev_cmp {op : CmpOp} (ha : Ev X W Γ μ a A) (hb : Ev X W Γ μ b B) (hz : ∀ x y, A x → B y → ∃ z, C z ∧ OpD X (compareOp op) x y z) (hm : behindInMarks op b = false := by first | exact nomark _ | rfl) : Ev X W Γ μ (.Compare a [op] [b] pos) C := fun σ H R Q k => by
  refine (pe_cmpR (rAny.ok (X := X)) wE.pe wE.pe hm).w ?_
  exact bin_ev (r := rAny X (compareOp op)) ha hb (fun x y px py => (hz x y px py).imp fun z h => ⟨h.1, fun va vb H Q q => ⟨x, y, z, h.2, q⟩⟩) R k
theorem ed_cmp {op : CmpOp} (ha : Ed X W Γ μ a x) (hb : Ed X W Γ μ b y) (hz : OpD X (compareOp op) x y z) (hm : behindInMarks op b = false := by first | exact nomark _ | rfl) : Ed X W Γ μ (.Compare a [op] [b] pos) z :=
  (ev_cmp (C := fun w => w = z) ha.ev hb.ev (fun _ _ e1 e2 => ⟨z, rfl, by rw [e1, e2]; exact hz⟩) hm).ed
/-- a subscript -/
theorem ev_ix (ha : Ev X W Γ μ a A) (hb : Ev X W Γ μ b B) (hz : ∀ x y, A x → B y → ∃ z, C z ∧ IxD X x y z) (hs : PlainIx b := by exact fun _ _ => rfl) : Ev X W Γ μ (.Subscript a b pos) C := fun σ H R Q k => by
  refine (pe_ix (rAnyI.ok (X := X)) wE.pe wE.pe hs).w ?_
  exact bin_ev (r := rAnyI X) ha hb (fun x y px py => (hz x y px py).imp fun z h => ⟨h.1, fun va vb H Q q => ⟨x, y, z, h.2, q⟩⟩) R k
theorem ed_ix (ha : Ed X W Γ μ a x) (hb : Ed X W Γ μ b y) (hz : IxD X x y z) (hs : PlainIx b := by exact fun _ _ => rfl) : Ed X W Γ μ (.Subscript a b pos) z :=
  (ev_ix (C := fun w => w = z) ha.ev hb.ev (fun _ _ e1 e2 => ⟨z, rfl, by rw [e1, e2]; exact hz⟩) hs).ed

/-! ### tests -/
theorem et_val {k : Bool} (h : Ed X W Γ μ e (.bool k)) (he : ∀ whole, isTrue e X.env whole = (do let v ← whole; standAt e.pos; holding [v] (truthy v)) := by intro _; rfl) : EdT X W Γ μ e k := fun σ H R Q q => by
  refine (pt_val wE.pe he).w ?_
  refine h σ H R _ fun v H2 R2 e2 r => ?_
  cases r
  exact ⟨k, rfl, q H2 R2 e2⟩
end
section
variable {X : Cx} {W : Wd} {Γ : List DV} {μ : Mu} {e a b : Expr} {rest : List Expr} {pos : Pos} {x y z : PyData} {k l : Bool}
theorem tc_ev {e : Expr} {P : Bool → Prop} {A B : PyData → Prop} {op : CmpOp} (ha : Ev X W Γ μ a A) (hb : Ev X W Γ μ b B) (hz : ∀ x y, A x → B y → ∃ k, P k ∧ OpD X (compareOp op) x y (.bool k)) (hm : behindInMarks op b = false := by first | exact nomark _ | rfl) : EvT X W Γ μ (.Compare a [op] [b] pos) P := fun σ H R Q q => by
  refine (pt_cmpR (rAny.ok (X := X)) wE.pe wE.pe hm).w ?_
  refine bin_ev (r := rAny X (compareOp op)) (C := fun z => ∃ k, z = .bool k ∧ P k) ha hb (fun x y px py => ?_) R fun v d H2 R2 e2 r p => ?_
  · obtain ⟨k, pk, o⟩ := hz x y px py
    exact ⟨.bool k, ⟨k, rfl, pk⟩, fun va vb H Q q => ⟨x, y, _, o, q⟩⟩
  · obtain ⟨k, rfl, pk⟩ := p
    cases r
    exact ⟨k, rfl, q k H2 R2 e2 pk⟩
/-- a comparison as a test -/
theorem tc {op : CmpOp} (ha : Ed X W Γ μ a x) (hb : Ed X W Γ μ b y) (hz : OpD X (compareOp op) x y (.bool k)) (hm : behindInMarks op b = false := by first | exact nomark _ | rfl) : EdT X W Γ μ (.Compare a [op] [b] pos) k := fun σ H R Q q =>
  tc_ev (e := a) (P := fun z => z = k) ha.ev hb.ev (fun _ _ e1 e2 => ⟨k, rfl, by rw [e1, e2]; exact hz⟩) hm σ H R Q fun b' H2 R2 e2 p => p ▸ q H2 R2 e2
theorem t_not (h : EdT X W Γ μ a k) : EdT X W Γ μ (.UnaryOp .Not a pos) (!k) := fun σ H R Q q => (pt_not wT.pt).w (h σ H R _ fun H2 R2 e2 => q H2 R2 e2)
theorem tw_and1 (h : EdT X W Γ μ a k) : EdW X W Γ μ (.BoolOp .And [a] pos) k := fun σ H R Q q => (pw_and1 wT.pt).w (h σ H R Q q)
theorem tw_or1 (h : EdT X W Γ μ a k) : EdW X W Γ μ (.BoolOp .Or [a] pos) k := fun σ H R Q q => (pw_or1 wT.pt).w (h σ H R Q q)
theorem tw_and (h : EdT X W Γ μ a k) (h2 : k = true → EdW X W Γ μ (.BoolOp .And (b :: rest) pos) l) : EdW X W Γ μ (.BoolOp .And (a :: b :: rest) pos) (k && l) := fun σ H R Q q => (pw_and wT.pt wW.pw).w (h σ H R _ fun H2 R2 e2 => by
  cases k with
  | true => exact iteT (h2 rfl σ H2 R2 Q fun H3 R3 e3 => q H3 R3 (e2.trans e3))
  | false => exact iteF (q H2 R2 e2))
theorem tw_or (h : EdT X W Γ μ a k) (h2 : k = false → EdW X W Γ μ (.BoolOp .Or (b :: rest) pos) l) : EdW X W Γ μ (.BoolOp .Or (a :: b :: rest) pos) (k || l) := fun σ H R Q q => (pw_or wT.pt wW.pw).w (h σ H R _ fun H2 R2 e2 => by
  cases k with
  | true => exact iteT (q H2 R2 e2)
  | false => exact iteF (h2 rfl σ H2 R2 Q fun H3 R3 e3 => q H3 R3 (e2.trans e3)))
theorem EdW.t (h : EdW X W Γ μ e k) : EdT X W Γ μ e k := fun σ H R Q q => wW.pw.pt.w (h σ H R Q q)
theorem t_and (h : EdT X W Γ μ a k) (h2 : k = true → EdT X W Γ μ b l) : EdT X W Γ μ (.BoolOp .And [a, b] pos) (k && l) := (tw_and h fun e => tw_and1 (h2 e)).t
theorem t_or (h : EdT X W Γ μ a k) (h2 : k = false → EdT X W Γ μ b l) : EdT X W Γ μ (.BoolOp .Or [a, b] pos) (k || l) := (tw_or h fun e => tw_or1 (h2 e)).t
/-- with open answers -/
theorem tvw_and1 {P : Bool → Prop} (h : EvT X W Γ μ a P) : EvW X W Γ μ (.BoolOp .And [a] pos) P := fun σ H R Q q => (pw_and1 wT.pt).w (h σ H R Q q)
theorem tvw_and {A P : Bool → Prop} (h : EvT X W Γ μ a A) (h2 : A true → EvW X W Γ μ (.BoolOp .And (b :: rest) pos) P) (h3 : A false → P false) : EvW X W Γ μ (.BoolOp .And (a :: b :: rest) pos) P := fun σ H R Q q => (pw_and wT.pt wW.pw).w (h σ H R _ fun k H2 R2 e2 p => by
  cases k with
  | true => exact iteT (h2 p σ H2 R2 Q fun b H3 R3 e3 p3 => q b H3 R3 (e2.trans e3) p3)
  | false => exact iteF (q false H2 R2 e2 (h3 p)))
theorem EvW.t {P : Bool → Prop} (h : EvW X W Γ μ e P) : EvT X W Γ μ e P := fun σ H R Q q => wW.pw.pt.w (h σ H R Q q)
/-- .. as values -/
theorem ed_one {op} (h : Ed X W Γ μ a x) : Ed X W Γ μ (.BoolOp op [a] pos) x := fun σ H R Q q => (pe_one wE.pe).w (h σ H R Q q)
theorem ed_and (h : Ed X W Γ μ a (.bool k)) (h2 : k = true → Ed X W Γ μ (.BoolOp .And (b :: rest) pos) (.bool l)) : Ed X W Γ μ (.BoolOp .And (a :: b :: rest) pos) (.bool (k && l)) := fun σ H R Q q => (pe_and wE.pe wE.pe).w (h σ H R _ fun v H2 R2 e2 r => by
  cases r
  refine ⟨k, rfl, ?_⟩
  cases k with
  | true => exact iteT (h2 rfl σ H2 R2 Q fun v H3 R3 e3 r3 => q v H3 R3 (e2.trans e3) r3)
  | false => exact iteF (q _ H2 R2 e2 (.bl false)))
theorem ed_or (h : Ed X W Γ μ a (.bool k)) (h2 : k = false → Ed X W Γ μ (.BoolOp .Or (b :: rest) pos) (.bool l)) : Ed X W Γ μ (.BoolOp .Or (a :: b :: rest) pos) (.bool (k || l)) := fun σ H R Q q => (pe_or wE.pe wE.pe).w (h σ H R _ fun v H2 R2 e2 r => by
  cases r
  refine ⟨k, rfl, ?_⟩
  cases k with
  | true => exact iteT (q _ H2 R2 e2 (.bl true))
  | false => exact iteF (h2 rfl σ H2 R2 Q fun v H3 R3 e3 r3 => q v H3 R3 (e2.trans e3) r3))
theorem ed_not (h : Ed X W Γ μ a (.bool k)) : Ed X W Γ μ (.UnaryOp .Not a pos) (.bool (!k)) := fun σ H R Q q => (pe_not wE.pe).w (h σ H R _ fun v H2 R2 e2 r => by
  cases r
  exact ⟨k, rfl, q _ H2 R2 e2 (.bl _)⟩)
theorem ed_if {c : Expr} (h : EdT X W Γ μ c k) (h1 : k = true → Ed X W Γ μ a x) (h2 : k = false → Ed X W Γ μ b y) : Ed X W Γ μ (.IfExp c a b pos) (if k = true then x else y) := fun σ H R Q q => (pe_ifExp wT.pt wE.pe wE.pe).w (h σ H R _ fun H2 R2 e2 => by
  cases k with
  | true =>
    rw [if_pos rfl] at q
    exact iteT (h1 rfl σ H2 R2 Q fun v H3 R3 e3 r3 => q v H3 R3 (e2.trans e3) r3)
  | false =>
    rw [if_neg Bool.false_ne_true] at q
    exact iteF (h2 rfl σ H2 R2 Q fun v H3 R3 e3 r3 => q v H3 R3 (e2.trans e3) r3))
theorem ed_chain {c : Expr} {op op' : CmpOp} {w : PyData} (ha : Ed X W Γ μ a x) (hb : Ed X W Γ μ b y) (hc : k = true → Ed X W Γ μ c w) (hz : OpD X (compareOp op) x y (.bool k)) (hz' : OpD X (compareOp op') y w (.bool l)) (hm : lastMarks [op, op'] [b, c] = false := by with_unfolding_all rfl) :
    Ed X W Γ μ (.Compare a [op, op'] [b, c] pos) (.bool (k && l)) := fun σ H R Q q => (pe_chain hz hz' wE.pe wE.pe wE.pe hm).w (ha σ H R _ fun v H2 R2 e2 r2 => hb σ H2 R2 _ fun u H3 R3 e3 r3 => ⟨hd W μ, R3.ne, r2.up e3, r3, fun t H4 e4 r4 => by
  cases r4
  refine ⟨k, rfl, ?_⟩
  have R4 := R3.same e4
  cases k with
  | true =>
    refine iteT (hc rfl σ H4 R4 _ fun t H5 R5 e5 r5 => ⟨hd W μ, R5.ne, (r3.up (XT.same e4)).up e5, r5, fun t' H6 e6 r6 => q t' H6 (R5.same e6) ((((e2.trans e3).trans (XT.same e4)).trans e5).trans (XT.same e6)) r6⟩)
  | false => exact iteF (q _ H4 R4 ((e2.trans e3).trans (XT.same e4)) (.bl false))⟩)

theorem tc_chain {c : Expr} {op op' : CmpOp} {w : PyData} (ha : Ed X W Γ μ a x) (hb : Ed X W Γ μ b y) (hc : k = true → Ed X W Γ μ c w) (hz : OpD X (compareOp op) x y (.bool k)) (hz' : OpD X (compareOp op') y w (.bool l)) (hm : lastMarks [op, op'] [b, c] = false := by with_unfolding_all rfl) :
    EdT X W Γ μ (.Compare a [op, op'] [b, c] pos) (k && l) := fun σ H R Q q => (pt_chain hz hz' wE.pe wE.pe wE.pe hm).w (ha σ H R _ fun v H2 R2 e2 r2 => hb σ H2 R2 _ fun u H3 R3 e3 r3 => ⟨hd W μ, R3.ne, r2.up e3, r3, fun t H4 e4 r4 => by
  cases r4
  refine ⟨k, rfl, ?_⟩
  have R4 := R3.same e4
  cases k with
  | true =>
    refine iteT (hc rfl σ H4 R4 _ fun t H5 R5 e5 r5 => ⟨hd W μ, R5.ne, (r3.up (XT.same e4)).up e5, r5, fun t' H6 e6 r6 => ?_⟩)
    cases r6
    exact ⟨l, rfl, q H6 (R5.same e6) ((((e2.trans e3).trans (XT.same e4)).trans e5).trans (XT.same e6))⟩
  | false => exact iteF ⟨false, rfl, q H4 R4 ((e2.trans e3).trans (XT.same e4))⟩⟩)

/-! ### arguments, calls -/
theorem ea_nil : EdA X W Γ μ [] [] := fun σ H R Q q => pa_nil.w (q [] H R XT.refl .nil)
theorem ea_cons {es : List Expr} {ds : List PyData} (h : Ed X W Γ μ e x) (hr : EdA X W Γ μ es ds) (hs : starEach (e :: es) X.env = (false, eval e X.env) :: starEach es X.env := by rfl) : EdA X W Γ μ (e :: es) (x :: ds) := fun σ H R Q q =>
  (pa_cons wE.pe wA.pa hs).w (h σ H R _ fun v H2 R2 e2 r2 => hr σ H2 R2 _ fun vs H3 R3 e3 r3 => q _ H3 R3 (e2.trans e3) (.cons (r2.up e3) r3))
theorem eva_cons {es : List Expr} {A : PyData → Prop} {As : List PyData → Prop} (h : Ev X W Γ μ e A) (hr : EvA X W Γ μ es As) (hs : starEach (e :: es) X.env = (false, eval e X.env) :: starEach es X.env := by rfl) : EvA X W Γ μ (e :: es) (fun l => ∃ x r, l = x :: r ∧ A x ∧ As r) := fun σ H R Q q =>
  (pa_cons wE.pe wA.pa hs).w (h σ H R _ fun v d H2 R2 e2 r2 p2 => hr σ H2 R2 _ fun vs ds H3 R3 e3 r3 p3 => q _ _ H3 R3 (e2.trans e3) (.cons (r2.up e3) r3) ⟨_, _, rfl, p2, p3⟩)
theorem eva_nil : EvA X W Γ μ [] (fun l => l = []) := fun σ H R Q q => pa_nil.w (q [] [] H R XT.refl .nil rfl)
/-- a tuple, a list displayed -/
theorem ed_tup {es : List Expr} {ds : List PyData} {x1} (h : EdA X W Γ μ es ds) (hl : ds.length ≤ 1000) : Ed X W Γ μ (.Tuple es x1 pos) (.tuple ds) := fun σ H R Q q =>
  (pe_tup wA.pa).w (h σ H R _ fun vs H2 R2 e2 r2 => ⟨by rw [r2.length]; exact Nat.le_trans hl (by decide), fun p hp => by
    have s := same_new (o := .tup vs) hp
    exact q _ _ (R2.same s) (e2.trans (XT.same s)) (.tup (.inl (.inl (off_upd (new_out R2.ne hp)))) (r2.up (XT.same s)))⟩)
theorem ed_lst {es : List Expr} {ds : List PyData} (h : EdA X W Γ μ es ds) (hl : ds.length ≤ 1000) : Ed X W Γ μ (.List es pos) (.list ds) := fun σ H R Q q =>
  (pe_lst wA.pa).w (h σ H R _ fun vs H2 R2 e2 r2 => ⟨by rw [r2.length]; exact Nat.le_trans hl (by decide), fun p hp => by
    have s := same_new (o := .lst vs) hp
    exact q _ _ (R2.same s) (e2.trans (XT.same s)) (.lst (off_upd (new_out R2.ne hp)) (r2.up (XT.same s)))⟩)
/-- a built-in function on data -/
def rDc (K : PySem.W.Frag) (ds : List PyData) (z : PyData) : List V → Hp → VK → Prop := fun vs H Q => ∃ L : List Addr, (∀ l ∈ L, H l ≠ none) ∧ VaAll K (off L H) vs ds ∧ ∀ v H2, Same H H2 → Va K (off L H2) v z → Q v H2
def CallD (X : Cx) (f : Value) (ds : List PyData) (z : PyData) : Prop := CallR X f (rDc X.K ds z)
theorem CallR.to {f : Value} {r r' : List V → Hp → VK → Prop} (h : CallR X f r) (i : ∀ vs H Q, r' vs H Q → r vs H Q) : CallR X f r' := fun pins s σ H vs us Q I rv q => h pins s σ H vs us Q I rv (i _ _ _ q)
theorem ev_callB {n : Str} {id : String} {es : List Expr} {As : List PyData → Prop} {C : PyData → Prop} {p : Pos} (hm : X.mg n = none) (hv : bootBuiltins n = some (.builtin id)) (ha : EvA X W Γ μ (e :: es) As) (hz : ∀ ds, As ds → ∃ z, C z ∧ CallD X (.builtin id) ds z) (hg : Gl X n := by rfl)
    (hn : n ≠ "__name__" := by decide) (hdb : (n == ("__debug__" : Str)) = false := by decide)
    (he : starEach (e :: es) X.env = (false, eval e X.env) :: starEach es X.env := by rfl) (hpl : (backTo pos (starEach es X.env)).any (·.1) = false := by rfl) : Ev X W Γ μ (.Call (.Name n p) (e :: es) [] pos) C := fun σ H R Q q =>
  (pe_callB (r := fun vs H Q => ∃ ds z, CallD X (.builtin id) ds z ∧ rDc X.K ds z vs H Q) (fun pins s σ H vs us Q I rv ⟨_, _, o, q⟩ => o pins s σ H vs us Q I rv q) hg hm hv wA.pa hn hdb he hpl).w
    (ha σ H R _ fun vs ds H2 R2 e2 r2 p2 => by
      obtain ⟨z, pz, o⟩ := hz ds p2
      exact ⟨ds, z, o, hd W μ, R2.ne, r2, fun v H3 e3 r3 => q v z H3 (R2.same e3) (e2.trans (XT.same e3)) r3 pz⟩)
theorem ed_callB {n : Str} {id : String} {es : List Expr} {ds : List PyData} {p : Pos} (hm : X.mg n = none) (hv : bootBuiltins n = some (.builtin id)) (ha : EdA X W Γ μ (e :: es) ds) (hz : CallD X (.builtin id) ds z) (hg : Gl X n := by rfl)
    (hn : n ≠ "__name__" := by decide) (hdb : (n == ("__debug__" : Str)) = false := by decide)
    (he : starEach (e :: es) X.env = (false, eval e X.env) :: starEach es X.env := by rfl) (hpl : (backTo pos (starEach es X.env)).any (·.1) = false := by rfl) : Ed X W Γ μ (.Call (.Name n p) (e :: es) [] pos) z :=
  (ev_callB (C := fun w => w = z) hm hv (ha.ev (P := fun l => l = ds) rfl) (fun _ e => ⟨z, rfl, e ▸ hz⟩) hg hn hdb he hpl).ed
end
end HW
set_option maxHeartbeats 4000000
namespace HW
open PySem PySem.Spec PyProof.Rows L2
/-! ### a local object is hidden, and told again -/
section
variable {K : PySem.W.Frag} {H H' : Hp} {W W' : Wd} {Γ Γ' : List DV} {μ : Mu} {σ σ' : L2.St} {D : Addr} {m : MO}
def Wd.park (W : Wd) (μ : Mu) (D : Addr) (H : Hp) : Wd := ⟨off (μ.map (·.1)) H, D :: W.M, W.row⟩
theorem mem_park {a : Addr} : a ∈ hd (W.park μ D H) μ ↔ a ∈ hd W ((D, m) :: μ) := by
  unfold Wd.park hd
  simp only [List.mem_append, List.mem_cons, List.map_cons]
  constructor
  · rintro ((h | h) | h)
    · exact .inr (.inl h)
    · exact .inl h
    · exact .inr (.inr h)
  · rintro (h | h | h)
    · exact .inl (.inr h)
    · exact .inl (.inl h)
    · exact .inr h
theorem off_cong {L L' : List Addr} (h : ∀ a, a ∈ L ↔ a ∈ L') : off L H = off L' H := by
  funext a
  unfold off
  by_cases q : a ∈ L
  · rw [if_pos q, if_pos ((h a).mp q)]
  · rw [if_neg q, if_neg (fun z => q ((h a).mpr z))]
theorem Rep.isRow_M (wd : WdOk K W) {a : Addr} (h : W.isRow a) : a ∈ W.M := by
  obtain ⟨scr, ns, e⟩ := h
  exact (wd.row _ _ _ e).1
theorem Rep.park (R : Rep K W Γ ((D, m) :: μ) σ H) : Rep K (W.park μ D H) Γ μ σ H := by
  have hD : W.H0 D = none ∧ MOk K (off (hd W ((D, m) :: μ)) H) H D m := R.mu (D, m) List.mem_cons_self
  have nd : D ∉ μ.map (·.1) ∧ (μ.map (·.1)).Nodup := by
    have := R.nd
    rw [List.map_cons] at this
    exact List.nodup_cons.mp this
  have nmu : ∀ a, W.H0 a ≠ none → a ∉ μ.map (·.1) := fun a h q => by
    obtain ⟨p, hp, rfl⟩ := List.mem_map.mp q
    exact h (R.mu p (List.mem_cons_of_mem _ hp)).1
  have oc : off (hd W ((D, m) :: μ)) H = off (hd (W.park μ D H) μ) H := off_cong fun a => (mem_park (m := m)).symm
  refine ⟨⟨fun a ha => ?_, fun r scr ns q => ?_⟩, ⟨fun a o n q => (off_some q).2, R.fr.row⟩, oc ▸ R.sl, fun p hp => ⟨off_in (List.mem_map.mpr ⟨p, hp, rfl⟩), oc ▸ (R.mu p (List.mem_cons_of_mem _ hp)).2⟩, nd.2⟩
  · show off (μ.map (·.1)) H a ≠ none
    rcases List.mem_cons.mp ha with h | h
    · rw [h, off_out nd.1]
      exact hD.2.ne
    · rw [off_out (nmu a (R.wd.hid a h))]
      exact R.fr.dom (R.wd.hid a h)
  · obtain ⟨h1, h2, h3, h4⟩ := R.wd.row r scr ns q
    refine ⟨List.mem_cons_of_mem _ h1, SqL.up (fun o e => ?_) h2, h3, h4⟩
    show off (μ.map (·.1)) H scr = some o
    rw [off_out (nmu scr (by rw [e]; simp))]
    refine R.fr.keep scr o (fun ⟨s2, n2, z⟩ => ?_) e
    have q' : W.row = some (r, scr, ns) := q
    rw [q'] at z
    cases z
    exact h3 rfl
/-- what stood off the hidden objects stands -/
theorem park_xt (R : Rep K W Γ ((D, m) :: μ) σ H) (R' : Rep K (W.park μ D H) Γ' μ σ' H') : XT (hd W ((D, m) :: μ)) H H' := fun a o e => by
  obtain ⟨h1, h2⟩ := off_some e
  rw [off_out h1]
  refine R'.fr.keep a o (fun q => h1 ((mem_park (m := m)).mp (List.mem_append_left _ (Rep.isRow_M R'.wd q)))) ?_
  show off (μ.map (·.1)) H a = some o
  rw [off_out (fun q => h1 (List.mem_append_right _ (by rw [List.map_cons]; exact List.mem_cons_of_mem _ q)))]
  exact h2
theorem Rep.unpark (R : Rep K W Γ ((D, m) :: μ) σ H) (R' : Rep K (W.park μ D H) Γ' μ σ' H') : Rep K W Γ' ((D, m) :: μ) σ' H' := by
  have hD : W.H0 D = none ∧ MOk K (off (hd W ((D, m) :: μ)) H) H D m := R.mu (D, m) List.mem_cons_self
  have oc : off (hd (W.park μ D H) μ) H' = off (hd W ((D, m) :: μ)) H' := off_cong fun a => mem_park (m := m)
  have xt := park_xt R R'
  have nd : D ∉ μ.map (·.1) ∧ (μ.map (·.1)).Nodup := by
    have := R.nd
    rw [List.map_cons] at this
    exact List.nodup_cons.mp this
  have nrow : ¬ (W.park μ D H).isRow D := fun ⟨scr, ns, e⟩ => (R.wd.hid D (R.wd.row _ _ _ e).1) hD.1
  have keepD : ∀ o, H D = some o → H' D = some o := fun o e => R'.fr.keep D o nrow (by
    show off (μ.map (·.1)) H D = some o
    rw [off_out nd.1]
    exact e)
  have nmu : ∀ a, W.H0 a ≠ none → a ∉ μ.map (·.1) := fun a h q => by
    obtain ⟨p, hp, rfl⟩ := List.mem_map.mp q
    exact h (R.mu p (List.mem_cons_of_mem _ hp)).1
  refine ⟨R.wd, ⟨fun a o n q => ?_, R'.fr.row⟩, oc ▸ R'.sl, fun p hp => ?_, R.nd⟩
  · refine R'.fr.keep a o n ?_
    show off (μ.map (·.1)) H a = some o
    rw [off_out (nmu a (by rw [q]; simp))]
    exact R.fr.keep a o n q
  · rcases List.mem_cons.mp hp with h | h
    · rw [h]
      exact ⟨hD.1, hD.2.up xt keepD⟩
    · exact ⟨(R.mu p hp).1, oc ▸ (R'.mu p h).2⟩
theorem park_le (R : Rep K W Γ ((D, m) :: μ) σ H) : Wle W (W.park μ D H) := ⟨fun a h => List.mem_cons_of_mem _ h, rfl, fun a o n h => by
  show off (μ.map (·.1)) H a = some o
  rw [off_out fun q => by
    obtain ⟨p, hp, z⟩ := List.mem_map.mp q
    have := (R.mu p (List.mem_cons_of_mem _ hp)).1
    rw [z, h] at this
    cases this]
  exact R.fr.keep a o n h⟩
/-- a new local object -/
theorem Rep.born (R : Rep K W Γ μ σ H) {o : HO} (hp : H D = none) (hm : MOk K (off (hd W μ) H) (upd H D o) D m) : Rep K W Γ ((D, m) :: μ) σ (upd H D o) := by
  have s := same_new (o := o) hp
  have nD : D ∉ hd W μ := new_out R.ne hp
  have sub : Same (off (hd W μ) H) (off (hd W ((D, m) :: μ)) (upd H D o)) := fun a u e => by
    obtain ⟨h1, h2⟩ := off_some e
    have na : a ≠ D := fun q => by rw [q, hp] at h2; cases h2
    rw [off_out (fun q => by
      rcases List.mem_append.mp q with z | z
      · exact h1 (List.mem_append_left _ z)
      · rw [List.map_cons] at z
        rcases List.mem_cons.mp z with z | z
        · exact na z
        · exact h1 (List.mem_append_right _ z)), upd_ne na]
    exact h2
  have h0 : W.H0 D = none := by
    cases e : W.H0 D with
    | none => rfl
    | some u => exact absurd hp (R.fr.dom (by rw [e]; simp))
  refine ⟨R.wd, R.fr.same s, R.sl.up sub, fun p hp' => ?_, ?_⟩
  · rcases List.mem_cons.mp hp' with h | h
    · rw [h]
      exact ⟨h0, hm.up sub fun _ z => z⟩
    · exact ⟨(R.mu p h).1, (R.mu p h).2.up sub fun u e => s _ _ e⟩
  · rw [List.map_cons]
    exact List.nodup_cons.mpr ⟨fun q => nD (List.mem_append_right _ q), R.nd⟩
/-- a local object changes -/
theorem Rep.chg {j : Nat} {m' : MO} (R : Rep K W Γ μ σ H) {o : HO} (hj : μ[j]? = some (D, m)) (hm : MOk K (off (hd W μ) H) (upd H D o) D m') : Rep K W Γ (μ.set j (D, m')) σ (upd H D o) := by
  have hmem : (D, m) ∈ μ := List.mem_of_getElem? hj
  have h0 : W.H0 D = none := (R.mu _ hmem).1
  have keys : (μ.set j (D, m')).map (·.1) = μ.map (·.1) := by
    rw [List.map_set]
    obtain ⟨hl, he⟩ := List.getElem?_eq_some_iff.mp hj
    apply List.ext_getElem (by simp)
    intro i h1 h2
    by_cases q : i = j
    · subst q
      simp [he]
    · rw [List.getElem_set_ne (Ne.symm q)]
  have hh : hd W (μ.set j (D, m')) = hd W μ := by unfold hd; rw [keys]
  have inD : D ∈ hd W μ := List.mem_append_right _ (List.mem_map.mpr ⟨_, hmem, rfl⟩)
  have oe : off (hd W μ) (upd H D o) = off (hd W μ) H := by
    funext a
    unfold off
    by_cases q : a ∈ hd W μ
    · rw [if_pos q, if_pos q]
    · rw [if_neg q, if_neg q, upd_ne (fun (z : a = D) => q (by rw [z]; exact inD))]
  have nrow : ¬ W.isRow D := fun ⟨scr, ns, e⟩ => (R.wd.hid D (R.wd.row _ _ _ e).1) h0
  refine ⟨R.wd, ⟨fun a u n e => ?_, fun r scr ns e => ?_⟩, ?_, fun p hp => ?_, by rw [keys]; exact R.nd⟩
  · rw [upd_ne (fun z => by rw [z, h0] at e; cases e)]
    exact R.fr.keep a u n e
  · obtain ⟨i, s, q, e1, e2⟩ := R.fr.row r scr ns e
    refine ⟨i, s, q, ?_, e2⟩
    rw [upd_ne (fun (z : r = D) => nrow ⟨scr, ns, by rw [← z]; exact e⟩)]
    exact e1
  · rw [hh, oe]
    exact R.sl
  · rw [hh, oe]
    obtain ⟨i, hi⟩ := List.getElem?_of_mem hp
    by_cases q : i = j
    · subst q
      rw [List.getElem?_set_self (List.getElem?_eq_some_iff.mp hj).1] at hi
      cases hi
      exact ⟨h0, hm⟩
    · rw [List.getElem?_set_ne (Ne.symm q)] at hi
      have hp' : p ∈ μ := List.mem_of_getElem? hi
      have ne : p.1 ≠ D := fun z => by
        have n := R.nd
        have e1 : (μ.map (·.1))[i]? = some D := by rw [List.getElem?_map, hi]; exact congrArg some z
        have e2 : (μ.map (·.1))[j]? = some D := by rw [List.getElem?_map, hj]; rfl
        exact q (nd_ix n e1 e2)
      refine ⟨(R.mu p hp').1, (R.mu p hp').2.up (Same.refl _) fun u e => ?_⟩
      rw [upd_ne ne]
      exact e
end
/-! ### statements -/
/-- the state is one of Φ, in the world W -/
def StP (K : PySem.W.Frag) (W : Wd) (Φ : List DV → Mu → Prop) : L2.St → Hp → Prop := fun σ H => ∃ Γ μ, Φ Γ μ ∧ Rep K W Γ μ σ H
def Run (X : Cx) (W : Wd) (Γ : List DV) (μ : Mu) (sts : List Stmt) (D : Ends) : Prop := ∀ σ H, Rep X.K W Γ μ σ H → wSs X sts D σ H
/-- what a def hands back: data with P, all else as it was -/
def RetP (K : PySem.W.Frag) (W : Wd) (P : PyData → Prop) : VK := fun v H => Fr W H ∧ ∃ d, P d ∧ Va K (off W.M H) v d
section
variable {X : Cx} {W W0 : Wd} {Γ : List DV} {μ : Mu} {e c : Expr} {rest sts a b : List Stmt} {D : Ends} {d : PyData} {P : PyData → Prop} {pos p : Pos}
theorem run_nil (h : ∀ σ H, Rep X.K W Γ μ σ H → D.nx σ H) : Run X W Γ μ [] D := fun σ H R => pss_nil.w (h σ H R)
/-- x = e -/
theorem run_setP (i : Nat) {n : Str} (he : Ev X W Γ μ e P) (h : ∀ d, P d → Run X W (Γ.set i (.d d)) μ rest D) (nd : X.N.Nodup) (hN : X.N[i]? = some n := by rfl) (hx : Loc X.env.scope n := by first | exact Or.inl rfl | exact Or.inr rfl)
    (hs : swapsWith e (some (.Name n p)) pos.line X.env = pure false := by rfl) (hf : X.fn n = true ∨ X.env.scope.names.lookup n = some .local := by first | exact .inr rfl | exact .inl rfl) : Run X W Γ μ (.Assign [.Name n p] e pos :: rest) D := fun σ H R =>
  wSs_cons ((ps_set nd hN hx wE.pe hs hf).w (he σ H R _ fun v d H2 R2 e2 r p => h d p _ _ ⟨R2.wd, R2.fr, R2.sl.set i r, R2.mu, R2.nd⟩))
theorem run_set (i : Nat) {n : Str} (he : Ed X W Γ μ e d) (h : Run X W (Γ.set i (.d d)) μ rest D) (nd : X.N.Nodup) (hN : X.N[i]? = some n := by rfl) (hx : Loc X.env.scope n := by first | exact Or.inl rfl | exact Or.inr rfl)
    (hs : swapsWith e (some (.Name n p)) pos.line X.env = pure false := by rfl) (hf : X.fn n = true ∨ X.env.scope.names.lookup n = some .local := by first | exact .inr rfl | exact .inl rfl) : Run X W Γ μ (.Assign [.Name n p] e pos :: rest) D :=
  run_setP i he.ev (fun _ q => q ▸ h) nd hN hx hs hf
/-- x = [] : a local list -/
theorem run_newL (i : Nat) {n : Str} {p2 : Pos} (h : ∀ l, Run X W (Γ.set i (.r l)) ((l, .lst []) :: μ) rest D) (nd : X.N.Nodup) (hN : X.N[i]? = some n := by rfl) (hx : Loc X.env.scope n := by first | exact Or.inl rfl | exact Or.inr rfl)
    (hs : swapsWith (.List [] p2) (some (.Name n p)) pos.line X.env = pure false := by rfl) (hf : X.fn n = true ∨ X.env.scope.names.lookup n = some .local := by first | exact .inr rfl | exact .inl rfl) : Run X W Γ μ (.Assign [.Name n p] (.List [] p2) pos :: rest) D := fun σ H R =>
  wSs_cons ((ps_set nd hN hx (pe_lst pa_nil) hs hf).w ⟨Nat.zero_le _, fun l hl => h l _ _ (by
    have R1 := R.born (m := .lst []) (o := .lst []) hl ⟨[], upd_same, .nil⟩
    exact ⟨R1.wd, R1.fr, R1.sl.setr i, R1.mu, R1.nd⟩)⟩)
/-- l.append(e) -/
theorem run_appP (i j : Nat) {n : Str} {l : Addr} {ys : List PyData} {p1 p2 p3 : Pos} (he : Ev X W Γ μ e P) (hl : ys.length < 16777216) (h : ∀ d, P d → Run X W Γ (μ.set j (l, .lst (ys ++ [d]))) rest D)
    (hi : Γ[i]? = some (.r l) := by rfl) (hj : μ[j]? = some (l, .lst ys) := by rfl) (hN : X.N[i]? = some n := by rfl) (hv : Vis X.env.scope n := by first | exact Or.inl rfl | exact Or.inr (Or.inl rfl) | exact Or.inr (Or.inr rfl))
    (h1 : (n == ("__debug__" : Str)) = false := by decide) (h2 : (n == ("__classdict__" : Str)) = false := by decide)
    (hbase : attributeBase (.Name n p1) "append" X.env (eval (.Name n p1) X.env) = eval (.Name n p1) X.env := by rfl)
    (hfew : ((backTo p3 (starEach [e] X.env)).all (fun x => !x.1) && (backToKw p3 (keywordEach [] X.env)).all (fun x => x.1.isSome)
      && decide ([e].length + ([] : List Keyword).length + (if ([] : List Keyword).isEmpty then 0 else 1) < 30)) = true := by rfl)
    (hline : (p2.endLine == p3.line) = true := by rfl) (hs : starEach [e] X.env = (false, eval e X.env) :: starEach [] X.env := by rfl) (hplain : (backTo p3 (starEach [] X.env)).any (·.1) = false := by rfl)
    (hsw : swapsWith (.Call (.Attribute (.Name n p1) "append" p2) [e] [] p3) none pos.line X.env = pure false := by rfl) :
    Run X W Γ μ (.Expr (.Call (.Attribute (.Name n p1) "append" p2) [e] [] p3) pos :: rest) D := fun σ H R => by
  refine wSs_cons ((ps_expr (pe_bm PySem.F.plainAttrs_list PySem.F.slot_list_append PySem.F.type_list_append mt_append (pe_var hN hv h1 h2) (pa_cons wE.pe pa_nil hs) hbase hfew hline hs hplain) hsw).w ?_)
  obtain ⟨o, e1, e2⟩ := R.sl.at_ i _ hi
  have e2' : o = some (.ref l) := e2
  subst e2'
  have hmem : (l, MO.lst ys) ∈ μ := List.mem_of_getElem? hj
  obtain ⟨xs, hx, _⟩ := (R.mu _ hmem).2
  refine ⟨_, e1, .inl ⟨rfl, _, SqL.of hx⟩, ?_⟩
  refine he σ H R _ fun v d H2 R2 e2 r p => ?_
  obtain ⟨xs2, hx2, hv2⟩ := (R2.mu _ hmem).2
  refine ⟨l, xs2, v, rfl, rfl, hx2, by rw [hv2.length]; exact hl, ?_⟩
  exact h d p _ _ (R2.chg hj ⟨xs2 ++ [v], upd_same, hv2.app (.cons r .nil)⟩)
theorem run_app (i j : Nat) {n : Str} {l : Addr} {ys : List PyData} {p1 p2 p3 : Pos} (he : Ed X W Γ μ e d) (hl : ys.length < 16777216) (h : Run X W Γ (μ.set j (l, .lst (ys ++ [d]))) rest D)
    (hi : Γ[i]? = some (.r l) := by rfl) (hj : μ[j]? = some (l, .lst ys) := by rfl) (hN : X.N[i]? = some n := by rfl) (hv : Vis X.env.scope n := by first | exact Or.inl rfl | exact Or.inr (Or.inl rfl) | exact Or.inr (Or.inr rfl))
    (h1 : (n == ("__debug__" : Str)) = false := by decide) (h2 : (n == ("__classdict__" : Str)) = false := by decide)
    (hbase : attributeBase (.Name n p1) "append" X.env (eval (.Name n p1) X.env) = eval (.Name n p1) X.env := by rfl)
    (hfew : ((backTo p3 (starEach [e] X.env)).all (fun x => !x.1) && (backToKw p3 (keywordEach [] X.env)).all (fun x => x.1.isSome)
      && decide ([e].length + ([] : List Keyword).length + (if ([] : List Keyword).isEmpty then 0 else 1) < 30)) = true := by rfl)
    (hline : (p2.endLine == p3.line) = true := by rfl) (hs : starEach [e] X.env = (false, eval e X.env) :: starEach [] X.env := by rfl) (hplain : (backTo p3 (starEach [] X.env)).any (·.1) = false := by rfl)
    (hsw : swapsWith (.Call (.Attribute (.Name n p1) "append" p2) [e] [] p3) none pos.line X.env = pure false := by rfl) :
    Run X W Γ μ (.Expr (.Call (.Attribute (.Name n p1) "append" p2) [e] [] p3) pos :: rest) D :=
  run_appP i j he.ev hl (fun _ q => q ▸ h) hi hj hN hv h1 h2 hbase hfew hline hs hplain hsw
/-- a local list is from now on data -/
theorem Rep.freeze {K : PySem.W.Frag} {H : Hp} {σ : L2.St} {l : Addr} {ys : List PyData} (R : Rep K W Γ ((l, .lst ys) :: μ) σ H) : ∃ xs, H l = some (.lst xs) ∧ VaAll K (off (hd W μ) H) xs ys ∧ l ∉ hd W μ ∧ Slots K (off (hd W μ) H) σ Γ := by
  obtain ⟨h0, xs, hx, hv⟩ := R.mu _ List.mem_cons_self
  have sub : Same (off (hd W ((l, .lst ys) :: μ)) H) (off (hd W μ) H) := same_offs fun a ha => by
    rcases List.mem_append.mp ha with z | z
    · exact List.mem_append_left _ z
    · exact List.mem_append_right _ (by rw [List.map_cons]; exact List.mem_cons_of_mem _ z)
  have nd := R.nd
  rw [List.map_cons] at nd
  refine ⟨xs, hx, hv.up sub, fun q => ?_, R.sl.up sub⟩
  rcases List.mem_append.mp q with z | z
  · exact R.wd.hid l z h0
  · exact (List.nodup_cons.mp nd).1 z
/-- the i-th slot's local list becomes data -/
theorem run_fix (i : Nat) {l : Addr} {ys : List PyData} (h : Run X W (Γ.set i (.d (.list ys))) μ sts D) (hi : Γ[i]? = some (.r l) := by rfl) : Run X W Γ ((l, .lst ys) :: μ) sts D := fun σ H R => by
  obtain ⟨xs, hx, hv, nl, sl⟩ := R.freeze
  obtain ⟨o, e1, e2⟩ := R.sl.at_ i _ hi
  have e2' : o = some (.ref l) := e2
  subst e2'
  have s2 := sl.set i (Va.lst (off_out nl |>.trans hx) hv)
  have es : σ.set i (some (.ref l)) = σ := by
    apply List.ext_getElem? 
    intro k
    by_cases q : k = i
    · subst q
      have hl := (List.getElem?_eq_some_iff.mp e1).1
      rw [List.getElem?_set_self hl, e1]
    · rw [List.getElem?_set_ne (Ne.symm q)]
  rw [es] at s2
  have nd := R.nd
  rw [List.map_cons] at nd
  refine h σ H ⟨R.wd, R.fr, s2, fun p hp => ⟨(R.mu p (List.mem_cons_of_mem _ hp)).1, (R.mu p (List.mem_cons_of_mem _ hp)).2.up (same_offs fun a ha => ?_) fun _ z => z⟩, (List.nodup_cons.mp nd).2⟩
  rcases List.mem_append.mp ha with z | z
  · exact List.mem_append_left _ z
  · exact List.mem_append_right _ (by rw [List.map_cons]; exact List.mem_cons_of_mem _ z)
/-- return e -/
theorem run_retP (he : Ev X W Γ μ e P) (hD : ∀ v d H, P d → Fr W H → Va X.K (off W.M H) v d → D.rt v H) : Run X W Γ μ (.Return (some e) pos :: rest) D := fun σ H R =>
  wSs_cons ((ps_ret wE.pe).w (he σ H R _ fun v d H2 R2 e2 r p => hD v d H2 p R2.fr (r.up (same_offs fun a ha => List.mem_append_left _ ha))))
theorem run_ret {P : PyData → Prop} {nx bk ct : L2.St → Hp → Prop} (he : Ed X W Γ μ e d) (hp : P d) (hW : Wle W0 W := by first | exact Wle.refl | assumption) : Run X W Γ μ (.Return (some e) pos :: rest) ⟨nx, RetP X.K W0 P, bk, ct⟩ :=
  run_retP he.ev fun v d' H p f r => ⟨f.down hW, d', by rw [p]; exact hp, r.up (same_offs fun a ha => hW.m a ha)⟩
/-- return a local list -/
theorem run_retL {P : PyData → Prop} {nx bk ct : L2.St → Hp → Prop} (i : Nat) {n : Str} {l : Addr} {ys : List PyData} (hp : P (.list ys)) (hW : Wle W0 W := by first | exact Wle.refl | assumption)
    (hi : Γ[i]? = some (.r l) := by rfl) (hN : X.N[i]? = some n := by rfl) (hv : Vis X.env.scope n := by first | exact Or.inl rfl | exact Or.inr (Or.inl rfl) | exact Or.inr (Or.inr rfl))
    (h1 : (n == ("__debug__" : Str)) = false := by decide) (h2 : (n == ("__classdict__" : Str)) = false := by decide) (hl : i < Γ.length := by decide) : Run X W Γ ((l, .lst ys) :: μ) (.Return (some (.Name n p)) pos :: rest) ⟨nx, RetP X.K W0 P, bk, ct⟩ :=
  run_fix i (run_ret (P := P) (vr i (by rw [List.getElem?_set_self hl]) hN hv h1 h2) hp hW) hi
/-- if -/
theorem run_ifV {A : Bool → Prop} (hc : EvT X W Γ μ c A) (h1 : A true → Run X W Γ μ a { D with nx := wSs X rest D }) (h2 : A false → Run X W Γ μ b { D with nx := wSs X rest D }) : Run X W Γ μ (.If c a b pos :: rest) D := fun σ H R =>
  wSs_cons ((ps_if wT.pt wSs.ps wSs.ps).w (hc σ H R _ fun k H2 R2 e2 p => by
    cases k with
    | true => exact iteT (h1 p σ H2 R2)
    | false => exact iteF (h2 p σ H2 R2)))
theorem run_if {k : Bool} (hc : EdT X W Γ μ c k) (h1 : k = true → Run X W Γ μ a { D with nx := wSs X rest D }) (h2 : k = false → Run X W Γ μ b { D with nx := wSs X rest D }) : Run X W Γ μ (.If c a b pos :: rest) D :=
  run_ifV (hc.ev (P := fun z => z = k) rfl) (fun q => h1 q.symm) (fun q => h2 q.symm)
/-- the else that is not there: on with the rest -/
theorem run_skip (h : Run X W Γ μ rest D) : Run X W Γ μ [] { D with nx := wSs X rest D } := run_nil fun σ H R => h σ H R
/-- an expression alone -/
theorem run_exprP (he : Ev X W Γ μ e P) (h : ∀ d, P d → Run X W Γ μ rest D) (hs : swapsWith e none pos.line X.env = pure false := by rfl) : Run X W Γ μ (.Expr e pos :: rest) D := fun σ H R =>
  wSs_cons ((ps_expr wE.pe hs).w (he σ H R _ fun v d H2 R2 e2 r p => h d p σ H2 R2))
theorem run_expr (he : Ed X W Γ μ e d) (h : Run X W Γ μ rest D) (hs : swapsWith e none pos.line X.env = pure false := by rfl) : Run X W Γ μ (.Expr e pos :: rest) D := run_exprP he.ev (fun _ _ => h) hs
end
end HW
set_option maxHeartbeats 4000000
namespace HW
open PySem PySem.Spec PyProof.Rows L2
/-! ### walks -/
/-- J walks over the data ds, as long as the pool stands -/
structure WalkD (K : PySem.W.Frag) (pool : Hp) (J : It) (ds : List PyData) : Prop where
  go : ∀ (i : Nat) (H : Hp), i < ds.length → Same pool H → J.go i H
  yld : ∀ (i : Nat) (d : PyData) (H : Hp) (v : V) (H' : Hp) (L : List Addr), ds[i]? = some d → (∀ l ∈ L, H l ≠ none) → Same pool (off L H) → J.yld i H v H' → Same H H' ∧ Va K (off L H') v d
  stop : ∀ (H : Hp), Same pool H → J.stop ds.length H
def IterV (X : Cx) (W : Wd) (Γ : List DV) (μ : Mu) {α : Type} (tg iter : Expr) (enc : α → PyData) (P : List α → Prop) : Prop :=
  ∃ wi : TI, PI X tg iter wi ∧ ∀ σ H, Rep X.K W Γ μ σ H → ∀ R : It → Hp → Prop, (∀ xs J H1, P xs → Rep X.K W Γ μ σ H1 → XT (hd W μ) H H1 → WalkD X.K (off (hd W μ) H1) J (xs.map enc) → R J H1) → wi σ H R
/-- the target takes the data d: put d at its slots ks -/
structure TgR (K : PySem.W.Frag) (g : TG) (ok : PyData → Prop) (put : PyData → List DV → List DV) (ks : List Nat) : Prop where
  run : ∀ (L : List Addr) (v : V) (d : PyData) (σ : L2.St) (H : Hp) (Γ : List DV) (Q : L2.St → Hp → Prop), Va K (off L H) v d → ok d → Slots K (off L H) σ Γ →
    (∀ σ', Slots K (off L H) σ' (put d Γ) → σ'.length = σ.length → (∀ i, i ∉ ks → σ'[i]? = σ[i]?) → Q σ' H) → g v σ H Q
theorem tg_name {K : PySem.W.Frag} (k : Nat) : TgR K (gName k) (fun _ => True) (fun d Γ => Γ.set k (.d d)) [k] := ⟨fun L v d σ H Γ Q r _ s q => q _ (s.set k r) (List.length_set ..) fun i hi => List.getElem?_set_ne (fun e => hi (by rw [e]; exact List.mem_cons_self))⟩
theorem tg_pair {K : PySem.W.Frag} {g1 g2 : TG} {ok1 ok2 : PyData → Prop} {put1 put2 : PyData → List DV → List DV} {k1 k2 : List Nat} (h1 : TgR K g1 ok1 put1 k1) (h2 : TgR K g2 ok2 put2 k2) :
    TgR K (gTup K 2 (gCons g1 (gCons g2 gNil))) (fun d => ∃ x y, d = .tuple [x, y] ∧ ok1 x ∧ ok2 y) (fun d Γ => match d with
      | .tuple [x, y] => put2 y (put1 x Γ)
      | _ => Γ) (k1 ++ k2) := ⟨fun L v d σ H Γ Q r o s q => by
  obtain ⟨x, y, rfl, o1, o2⟩ := o
  cases r with
  | tup hs hv =>
    cases hv with
    | cons r1 hv =>
      cases hv with
      | cons r2 hv =>
        cases hv
        refine ⟨_, _, rfl, SqT.up same_off hs, rfl, _, _, rfl, ?_⟩
        refine h1.run L _ x σ H Γ _ r1 o1 s fun σ1 s1 l1 e1 => ?_
        refine ⟨_, _, rfl, ?_⟩
        refine h2.run L _ y σ1 H _ _ r2 o2 s1 fun σ2 s2 l2 e2 => ?_
        refine ⟨rfl, q σ2 s2 (l2.trans l1) fun i hi => ?_⟩
        rw [e2 i (fun z => hi (List.mem_append_right _ z)), e1 i (fun z => hi (List.mem_append_left _ z))]⟩

/-! ### comprehensions -/
def wipeD (vs : List Nat) (Γ : List DV) : List DV := match vs with
  | [] => Γ
  | v :: vs => (wipeD vs Γ).set v .no
theorem Slots.wipe {K : PySem.W.Frag} {H : Hp} {σ : L2.St} {Γ : List DV} (h : Slots K H σ Γ) : ∀ vs : List Nat, Slots K H (wipe σ vs) (wipeD vs Γ)
  | [] => h
  | v :: vs => (Slots.wipe h vs).no v
theorem wipe_get {σ : L2.St} {i : Nat} : ∀ {vs : List Nat}, (wipe σ vs)[i]? = if i ∈ vs then (if i < σ.length then some none else none) else σ[i]?
  | [] => by simp [L2.wipe]
  | v :: vs => by
    show ((wipe σ vs).set v none)[i]? = _
    by_cases q : i = v
    · subst q
      by_cases hl : i < σ.length
      · rw [List.getElem?_set_self (by rw [wipe_length]; exact hl), if_pos List.mem_cons_self, if_pos hl]
      · rw [if_pos List.mem_cons_self, if_neg hl]
        exact List.getElem?_eq_none (by rw [List.length_set, wipe_length]; omega)
    · rw [List.getElem?_set_ne (Ne.symm q), wipe_get]
      by_cases m : i ∈ vs
      · rw [if_pos m, if_pos (List.mem_cons_of_mem _ m)]
      · rw [if_neg m, if_neg (fun z => (List.mem_cons.mp z).elim q m)]
theorem wipe_eq {σ σ' : L2.St} {vs ks : List Nat} (hk : ∀ k ∈ ks, k ∈ vs) (hl : σ'.length = (wipe σ vs).length) (h : ∀ i, i ∉ ks → σ'[i]? = (wipe σ vs)[i]?) : wipe σ' vs = wipe σ vs := by
  apply List.ext_getElem?
  intro i
  rw [wipe_get, wipe_get]
  rw [wipe_length] at hl
  by_cases m : i ∈ vs
  · rw [if_pos m, if_pos m, hl]
  · rw [if_neg m, if_neg m, h i (fun z => m (hk i z)), wipe_get, if_neg m]
abbrev blkOf (X : Cx) (scope : Scope) (s : Shared) (H : Hp) (C : Addr) (cl : List (Str × Addr)) (fp : List Addr) : Cx := X.blk s H scope (compEnvC scope cl C X.env) fp
/-- e in whatever block -/
def wEb (X : Cx) (scope : Scope) (e : Expr) : TE := fun σ H Q => ∀ s H0 C cl fp, wE (blkOf X scope s H0 C cl fp) e σ H Q
theorem wEb.pe {X : Cx} {scope : Scope} {e : Expr} (s : Shared) (H : Hp) (C : Addr) (cl : List (Str × Addr)) (fp : List Addr) : PE (blkOf X scope s H C cl fp) e (wEb X scope e) := ⟨fun pins st _ _ _ I h => h s H C cl fp pins st I⟩
def wTb (X : Cx) (scope : Scope) (e : Expr) : TT := fun σ H Q => ∀ s H0 C cl fp, wT (blkOf X scope s H0 C cl fp) e σ H Q
theorem wTb.pt {X : Cx} {scope : Scope} {e : Expr} (s : Shared) (H : Hp) (C : Addr) (cl : List (Str × Addr)) (fp : List Addr) : PT (blkOf X scope s H C cl fp) e (wTb X scope e) := ⟨fun pins st _ _ _ I h => h s H C cl fp pins st I⟩
section
variable {X : Cx} {W : Wd} {Γ : List DV} {μ : Mu} {α : Type} {tg iter elt t : Expr} {ifs : List Expr} {scope : Scope} {own : List (Str × Nat)} {pos : Pos} {enc : α → PyData} {P : List α → Prop} {g : TG} {ok : PyData → Prop} {put : PyData → List DV → List DV} {ks : List Nat} {c : α → Bool} {E : α → PyData → Prop}
theorem psnoc {α β : Type} {F : α → β → Prop} {a : α} {b : β} : ∀ {l₁ : List α} {l₂ : List β}, Paired F l₁ l₂ → F a b → Paired F (l₁ ++ [a]) (l₂ ++ [b])
  | _, _, .nil, h => .cons h .nil
  | _, _, .cons r t, h => .cons r (psnoc t h)
theorem plen {α β : Type} {F : α → β → Prop} : ∀ {l₁ : List α} {l₂ : List β}, Paired F l₁ l₂ → l₁.length = l₂.length
  | _, _, .nil => rfl
  | _, _, .cons _ t => congrArg (· + 1) (plen t)
theorem take_succ_filter {xs : List α} {i : Nat} {x : α} (h : xs[i]? = some x) : (xs.take (i + 1)).filter c = (xs.take i).filter c ++ (if c x = true then [x] else []) := by
  rw [List.take_add_one, h]
  show (xs.take i ++ [x]).filter c = _
  rw [List.filter_append]
  by_cases q : c x = true
  · rw [if_pos q, List.filter_cons_of_pos q]; rfl
  · rw [if_neg q, List.filter_cons_of_neg q]; rfl
/-- the reading of a comprehension: a list whose items are E of the items kept -/
theorem lc_read {tt : TT} {wi : TI} (hi : ∀ σ H, Rep X.K W Γ μ σ H → ∀ R : It → Hp → Prop, (∀ xs J H1, P xs → Rep X.K W Γ μ σ H1 → XT (hd W μ) H H1 → WalkD X.K (off (hd W μ) H1) J (xs.map enc) → R J H1) → wi σ H R)
    (hg : TgR X.K g ok put ks) (hk : ∀ k ∈ ks, k ∈ own.map (·.2)) (hok : ∀ xs, P xs → ∀ x ∈ xs, ok (enc x)) (hz : ∀ xs, P xs → xs.length ≤ 16777216)
    (ht : ∀ xs, P xs → ∀ x ∈ xs, ∀ W1, Wle W W1 → ∀ σ H, Rep X.K W1 (put (enc x) (wipeD (own.map (·.2)) Γ)) μ σ H → ∀ Q : Bool → Hp → Prop, (∀ H2, Rep X.K W1 (put (enc x) (wipeD (own.map (·.2)) Γ)) μ σ H2 → Q (c x) H2) → tt σ H Q)
    (he : ∀ xs, P xs → ∀ x ∈ xs, c x = true → ∀ W1, Wle W W1 → ∀ s H C cl fp, Ev (blkOf X scope s H C cl fp) W1 (put (enc x) (wipeD (own.map (·.2)) Γ)) μ elt (E x))
    {σ : L2.St} {H : Hp} (R : Rep X.K W Γ μ σ H) {Q : VK} (q : ∀ xs ys v H2, P xs → Paired E (xs.filter c) ys → Rep X.K W Γ μ σ H2 → XT (hd W μ) H H2 → Va X.K (off (hd W μ) H2) v (.list ys) → Q v H2) :
    tLc wi g tt (wEb X scope elt) (own.map (·.2)) σ H Q := by
  refine hi σ H R _ fun xs J H1 px R1 e1 wk D hD => ?_
  -- the invariant
  let vs := own.map (·.2)
  let Pv : Nat → Hp → Prop := fun i H' => ∃ ys, Paired E ((xs.take i).filter c) ys ∧ Rep X.K (W.now μ H1) (wipeD vs Γ) ((D, .lst ys) :: μ) (wipe σ vs) H'
  have R1n := R1.now
  have Rw : Rep X.K (W.now μ H1) (wipeD vs Γ) μ (wipe σ vs) H1 := ⟨R1n.wd, R1n.fr, R1n.sl.wipe vs, R1n.mu, R1n.nd⟩
  have h0 : Pv 0 (upd H1 D (.lst [])) := ⟨[], by simp only [List.take_zero, List.filter_nil]; exact .nil, Rw.born hD ⟨[], upd_same, .nil⟩⟩
  have nDmu : ∀ {i H'}, Pv i H' → Same (off (hd W μ) H1) H' := fun ⟨ys, _, Rp⟩ a o e => by
    obtain ⟨h1, h2⟩ := off_some e
    refine Rp.fr.keep a o (fun z => h1 (List.mem_append_left _ (Rep.isRow_M Rp.wd z))) ?_
    show off (μ.map (·.1)) H1 a = some o
    rw [off_out (fun z => h1 (List.mem_append_right _ z))]
    exact h2
  refine ⟨fun i m H' => m = xs.length - i ∧ i ≤ xs.length ∧ Pv i H', ⟨xs.length, by simp, Nat.zero_le _, h0⟩, ?_⟩
  rintro i m H' ⟨rfl, hile, p⟩
  by_cases hlt : i < xs.length
  · refine .inr ⟨wk.go i H' (by simpa using hlt) (nDmu p), Pv (i + 1), fun H2 p' => ⟨xs.length - (i + 1), by omega, rfl, hlt, p'⟩, fun v H2 y => ?_⟩
    obtain ⟨ys, hys, Rp⟩ := p
    obtain ⟨x, hx⟩ : ∃ x, xs[i]? = some x := ⟨xs[i], by simp [hlt]⟩
    have xin : x ∈ xs := List.mem_of_getElem? hx
    have dx : (xs.map enc)[i]? = some (enc x) := by rw [List.getElem?_map, hx]; rfl
    -- the pool off the hidden objects
    have pool : Same (off (hd W μ) H1) (off (hd (W.now μ H1) ((D, .lst ys) :: μ)) H') := fun a o e => by
      obtain ⟨h1, h2⟩ := off_some e
      have na : a ≠ D := fun z => by rw [z, hD] at h2; cases h2
      rw [off_out (fun z => by
        rcases List.mem_append.mp z with z | z
        · exact h1 (List.mem_append_left _ z)
        · rw [List.map_cons] at z
          rcases List.mem_cons.mp z with z | z
          · exact na z
          · exact h1 (List.mem_append_right _ z))]
      exact nDmu ⟨ys, hys, Rp⟩ a o e
    obtain ⟨s2, r2⟩ := wk.yld i (enc x) H' v H2 _ dx Rp.ne pool y
    have Rp2 := Rp.same s2
    refine hg.run _ v (enc x) (wipe σ vs) H2 _ _ r2 (hok xs px x xin) Rp2.sl fun σ3 sl3 l3 u3 => ?_
    refine ⟨wipe_eq hk l3 u3, ?_⟩
    have R3 : Rep X.K (W.now μ H1) (put (enc x) (wipeD vs Γ)) ((D, .lst ys) :: μ) σ3 H2 := ⟨Rp2.wd, Rp2.fr, sl3, Rp2.mu, Rp2.nd⟩
    have le3 : Wle W ((W.now μ H1).park μ D H2) := R1.now_le.trans (park_le R3)
    have back : ∀ {H4 : Hp} {ys' : List PyData}, Rep X.K (W.now μ H1) (put (enc x) (wipeD vs Γ)) ((D, .lst ys') :: μ) σ3 H4 → XT (hd (W.now μ H1) ((D, .lst ys) :: μ)) H2 H4 → Rep X.K (W.now μ H1) (wipeD vs Γ) ((D, .lst ys') :: μ) (wipe σ vs) H4 := fun R4 x4 =>
      ⟨R4.wd, R4.fr, (Rp2.sl.up x4 : _), R4.mu, R4.nd⟩
    refine ht xs px x xin _ le3 σ3 H2 R3.park _ fun H4 R4 => ?_
    have x4 := park_xt R3 R4
    have R4' := R3.unpark R4
    by_cases hc : c x = true
    · rw [hc]
      refine iteT fun s H0 C cl fp => ?_
      refine he xs px x xin hc _ (R1.now_le.trans (park_le R4')) s H0 C cl fp σ3 H4 R4'.park _ fun v5 d5 H5 R5 x5 r5 p5 => ?_
      have x5' := park_xt R4' R5
      have R5' := R4'.unpark R5
      obtain ⟨acc, ha, hv⟩ := (R5'.mu _ List.mem_cons_self).2
      refine ⟨acc, ha, ?_, ys ++ [d5], ?_, ?_⟩
      · rw [hv.length, ← plen hys]
        have l1 : ((xs.take i).filter c).length ≤ (xs.take i).length := List.length_filter_le ..
        rw [List.length_take] at l1
        have l2 := hz xs px
        show _ < 16777216
        omega
      · rw [take_succ_filter hx, if_pos hc]
        exact psnoc hys p5
      · have oc : off (hd ((W.now μ H1).park μ D H4) μ) H5 = off (hd (W.now μ H1) ((D, .lst ys) :: μ)) H5 := off_cong fun a => mem_park
        have z := back R5' (x4.trans x5')
        exact z.chg (j := 0) (m' := .lst (ys ++ [d5])) rfl ⟨acc ++ [v5], upd_same, hv.app (.cons (oc ▸ r5) .nil)⟩
    · have hc' : c x = false := by simpa using hc
      rw [hc']
      refine iteF ⟨ys, ?_, back R4' x4⟩
      rw [take_succ_filter hx, if_neg hc, List.append_nil]
      exact hys
  · have e : i = xs.length := by omega
    subst e
    refine .inl ⟨by have := wk.stop H' (nDmu p); simpa using this, ?_⟩
    have sm := nDmu p
    obtain ⟨ys, hys, Rp⟩ := p
    rw [List.take_length] at hys
    obtain ⟨acc, ha, hv, nl, sl⟩ := Rp.freeze
    have up : XT (hd W μ) H1 H' := fun a o e => by
      rw [off_out (off_some e).1]
      exact sm a o e
    have le1 : Wle W (W.now μ H1) := R1.now_le
    refine q xs ys (.ref D) H' px hys ⟨R.wd, Rp.fr.down le1, R1.sl.up up, fun p hp => ⟨(R1.mu p hp).1, (Rp.mu p (List.mem_cons_of_mem _ hp)).2.up (same_offs fun a ha => ?_) fun _ z => z⟩, R.nd⟩ (e1.trans up) (.lst (off_out nl |>.trans ha) hv)
    rcases List.mem_append.mp ha with z | z
    · exact List.mem_append_left _ z
    · exact List.mem_append_right _ (by rw [List.map_cons]; exact List.mem_cons_of_mem _ z)
/-- a comprehension's judgement: the list's data with Z -/
structure LcEv (X : Cx) (W : Wd) (Γ : List DV) (μ : Mu) (elt tg iter : Expr) (ifs : List Expr) (scope : Scope) (Z : List PyData → Prop) : Prop where
  ex : ∃ (wi : TI) (g : TG) (tt : TT) (te : TE) (own : List (Str × Nat)), PI X tg iter wi ∧ BlkOk X.N X.env.scope scope own ∧ (∀ s H C cl fp, PG (blkOf X scope s H C cl fp) tg g) ∧ (∀ s H C cl fp, PTs (blkOf X scope s H C cl fp) ifs tt) ∧
    (∀ s H C cl fp, PE (blkOf X scope s H C cl fp) elt te) ∧ ∀ σ H, Rep X.K W Γ μ σ H → ∀ Q : VK, (∀ ys v H2, Z ys → Rep X.K W Γ μ σ H2 → XT (hd W μ) H H2 → Va X.K (off (hd W μ) H2) v (.list ys) → Q v H2) → tLc wi g tt te (own.map (·.2)) σ H Q
theorem LcEv.ev {Z : List PyData → Prop} (h : LcEv X W Γ μ elt tg iter ifs scope Z) (hN : X.N.Nodup) (hc : X.calm = true := by rfl) (hs : ∀ x, foldedSetIterable iter X.env x = pure x := by intro _; rfl) :
    Ev X W Γ μ (.ListComp elt [⟨tg, iter, ifs, 0⟩] scope pos) (fun z => ∃ ys, z = .list ys ∧ Z ys) := fun σ H R Q k => by
  obtain ⟨wi, g, tt, te, own, h1, h2, h3, h4, h5, h6⟩ := h.ex
  exact (pe_lc hc hN h1 h2 h3 h4 h5 hs).w (h6 σ H R Q fun ys v H2 z R2 x2 r => k v _ H2 R2 x2 r ⟨ys, rfl, z⟩)
theorem LcEv.ed {ys : List PyData} (h : LcEv X W Γ μ elt tg iter ifs scope (fun z => z = ys)) (hN : X.N.Nodup) (hc : X.calm = true := by rfl) (hs : ∀ x, foldedSetIterable iter X.env x = pure x := by intro _; rfl) :
    Ed X W Γ μ (.ListComp elt [⟨tg, iter, ifs, 0⟩] scope pos) (.list ys) := (h.ev (pos := pos) hN hc hs |>.imp (B := fun z => z = .list ys) fun d ⟨l, e1, e2⟩ => by rw [e1, e2]).ed
/-- builders: over any target, without a test -/
theorem lc0 (own : List (Str × Nat)) (hi : IterV X W Γ μ tg iter enc P) (hg : TgR X.K g ok put ks) (hpg : ∀ s H C cl fp, PG (blkOf X scope s H C cl fp) tg g) (hok : ∀ xs, P xs → ∀ x ∈ xs, ok (enc x)) (hz : ∀ xs, P xs → xs.length ≤ 16777216)
    (he : ∀ xs, P xs → ∀ x ∈ xs, ∀ W1, Wle W W1 → ∀ s H C cl fp, Ev (blkOf X scope s H C cl fp) W1 (put (enc x) (wipeD (own.map (·.2)) Γ)) μ elt (E x)) (hb : BlkOk X.N X.env.scope scope own := by exact blkOk_by (by kernel_rfl)) (hk : ∀ k ∈ ks, k ∈ own.map (·.2) := by decide) :
    LcEv X W Γ μ elt tg iter [] scope (fun ys => ∃ xs, P xs ∧ Paired E xs ys) := ⟨by
  obtain ⟨wi, h1, h2⟩ := hi
  refine ⟨wi, g, tYes, wEb X scope elt, own, h1, hb, hpg, fun _ _ _ _ _ => pts_nil, wEb.pe, fun σ H R Q k => ?_⟩
  refine lc_read (c := fun _ => true) (E := E) h2 hg hk hok hz (fun _ _ _ _ _ _ σ H R Q q => q H R) (fun xs px x hx _ W1 l s H C cl fp => he xs px x hx W1 l s H C cl fp) R fun xs ys v H2 px hp R2 x2 r => k ys v H2 ⟨xs, px, ?_⟩ R2 x2 r
  have e : xs.filter (fun _ => true) = xs := List.filter_eq_self.mpr fun _ _ => rfl
  rw [e] at hp
  exact hp⟩
/-- .. with one -/
theorem lc1 (own : List (Str × Nat)) (hi : IterV X W Γ μ tg iter enc P) (hg : TgR X.K g ok put ks) (hpg : ∀ s H C cl fp, PG (blkOf X scope s H C cl fp) tg g) (hok : ∀ xs, P xs → ∀ x ∈ xs, ok (enc x)) (hz : ∀ xs, P xs → xs.length ≤ 16777216)
    (ht : ∀ xs, P xs → ∀ x ∈ xs, ∀ W1, Wle W W1 → ∀ s H C cl fp, EdT (blkOf X scope s H C cl fp) W1 (put (enc x) (wipeD (own.map (·.2)) Γ)) μ t (c x))
    (he : ∀ xs, P xs → ∀ x ∈ xs, c x = true → ∀ W1, Wle W W1 → ∀ s H C cl fp, Ev (blkOf X scope s H C cl fp) W1 (put (enc x) (wipeD (own.map (·.2)) Γ)) μ elt (E x)) (hb : BlkOk X.N X.env.scope scope own := by exact blkOk_by (by kernel_rfl)) (hk : ∀ k ∈ ks, k ∈ own.map (·.2) := by decide) :
    LcEv X W Γ μ elt tg iter [t] scope (fun ys => ∃ xs, P xs ∧ Paired E (xs.filter c) ys) := ⟨by
  obtain ⟨wi, h1, h2⟩ := hi
  refine ⟨wi, g, wTb X scope t, wEb X scope elt, own, h1, hb, hpg, fun s H C cl fp => pts_one (wTb.pt s H C cl fp), wEb.pe, fun σ H R Q k => ?_⟩
  exact lc_read (c := c) (E := E) h2 hg hk hok hz (fun xs px x hx W1 l σ H R Q q s H0 C cl fp => ht xs px x hx W1 l s H0 C cl fp σ H R Q fun H2 R2 _ => q H2 R2) he R fun xs ys v H2 px hp R2 x2 r => k ys v H2 ⟨xs, px, hp⟩ R2 x2 r⟩
end
/-- the walked thing, told -/
abbrev IterD (X : Cx) (W : Wd) (Γ : List DV) (μ : Mu) {α : Type} (tg iter : Expr) (enc : α → PyData) (xs : List α) : Prop := IterV X W Γ μ tg iter enc (fun l => l = xs)
theorem paired_map {α : Type} {f : α → PyData} : ∀ {xs : List α} {ys : List PyData}, Paired (fun x y => y = f x) xs ys → ys = xs.map f
  | _, _, .nil => rfl
  | _, _, .cons r t => by rw [r, paired_map t]; rfl
section
variable {X : Cx} {W : Wd} {Γ : List DV} {μ : Mu} {α : Type} {tg iter elt t : Expr} {ifs : List Expr} {scope : Scope} {pos p : Pos} {enc : α → PyData} {xs : List α} {c : α → Bool} {f : α → PyData} {n : Str}
/-- [elt for n in iter] -/
theorem lcN0 (k : Nat) (hi : IterD X W Γ μ (.Name n p) iter enc xs) (hz : xs.length ≤ 16777216) (f : α → PyData)
    (he : ∀ x ∈ xs, ∀ W1, Wle W W1 → ∀ s H C cl fp, Ed (blkOf X scope s H C cl fp) W1 ((wipeD [k] Γ).set k (.d (enc x))) μ elt (f x)) (hN : X.N.Nodup) (hn : X.N[k]? = some n := by rfl)
    (hv : ∀ s H C cl fp, Loc (blkOf X scope s H C cl fp).env.scope n := by intro _ _ _ _ _; first | exact Or.inl rfl | exact Or.inr rfl) (hf : ∀ s H C cl fp, (blkOf X scope s H C cl fp).fn n = true ∨ (blkOf X scope s H C cl fp).env.scope.names.lookup n = some .local := by intro _ _ _ _ _; first | exact .inr rfl | exact .inl rfl) (hb : BlkOk X.N X.env.scope scope [(n, k)] := by exact blkOk_by (by kernel_rfl)) :
    LcEv X W Γ μ elt (.Name n p) iter [] scope (fun ys => ys = xs.map f) := by
  have h := lc0 (E := fun x y => y = f x) (elt := elt) (scope := scope) [(n, k)] hi (tg_name (K := X.K) k) (fun s H C cl fp => pg_name hN hn (hv s H C cl fp) (hf s H C cl fp)) (fun _ _ _ _ => trivial) (fun _ e => e ▸ hz) (fun _ e x hx W1 l s H C cl fp => (he x (e ▸ hx) W1 l s H C cl fp).ev) hb (by simp)
  obtain ⟨wi, g, tt, te, own, h1, h2, h3, h4, h5, h6⟩ := h.ex
  exact ⟨wi, g, tt, te, own, h1, h2, h3, h4, h5, fun σ H R Q k => h6 σ H R Q fun ys v H2 ⟨l, e, hp⟩ => k ys v H2 (by rw [← e]; exact paired_map hp)⟩
/-- [elt for n in iter if t] -/
theorem lcN1 (k : Nat) (hi : IterD X W Γ μ (.Name n p) iter enc xs) (hz : xs.length ≤ 16777216) (c : α → Bool) (f : α → PyData)
    (ht : ∀ x ∈ xs, ∀ W1, Wle W W1 → ∀ s H C cl fp, EdT (blkOf X scope s H C cl fp) W1 ((wipeD [k] Γ).set k (.d (enc x))) μ t (c x))
    (he : ∀ x ∈ xs, c x = true → ∀ W1, Wle W W1 → ∀ s H C cl fp, Ed (blkOf X scope s H C cl fp) W1 ((wipeD [k] Γ).set k (.d (enc x))) μ elt (f x)) (hN : X.N.Nodup) (hn : X.N[k]? = some n := by rfl)
    (hv : ∀ s H C cl fp, Loc (blkOf X scope s H C cl fp).env.scope n := by intro _ _ _ _ _; first | exact Or.inl rfl | exact Or.inr rfl) (hf : ∀ s H C cl fp, (blkOf X scope s H C cl fp).fn n = true ∨ (blkOf X scope s H C cl fp).env.scope.names.lookup n = some .local := by intro _ _ _ _ _; first | exact .inr rfl | exact .inl rfl) (hb : BlkOk X.N X.env.scope scope [(n, k)] := by exact blkOk_by (by kernel_rfl)) :
    LcEv X W Γ μ elt (.Name n p) iter [t] scope (fun ys => ys = (xs.filter c).map f) := by
  have h := lc1 (E := fun x y => y = f x) (c := c) (t := t) (elt := elt) (scope := scope) [(n, k)] hi (tg_name (K := X.K) k) (fun s H C cl fp => pg_name hN hn (hv s H C cl fp) (hf s H C cl fp)) (fun _ _ _ _ => trivial) (fun _ e => e ▸ hz) (fun _ e x hx W1 l s H C cl fp => ht x (e ▸ hx) W1 l s H C cl fp) (fun _ e x hx hc W1 l s H C cl fp => (he x (e ▸ hx) hc W1 l s H C cl fp).ev) hb (by simp)
  obtain ⟨wi, g, tt, te, own, h1, h2, h3, h4, h5, h6⟩ := h.ex
  exact ⟨wi, g, tt, te, own, h1, h2, h3, h4, h5, fun σ H R Q k => h6 σ H R Q fun ys v H2 ⟨l, e, hp⟩ => k ys v H2 (by rw [← e]; exact paired_map hp)⟩
end
end HW
set_option maxHeartbeats 4000000
namespace HW
open PySem PySem.Spec PyProof.Rows L2
section
variable {X : Cx} {W : Wd} {Γ : List DV} {μ : Mu} {α : Type} {tg iter e a b : Expr} {pos p : Pos} {enc : α → PyData} {P : List α → Prop} {xs : List α}
theorem IterV.imp {Q' : List α → Prop} (h : IterV X W Γ μ tg iter enc P) (i : ∀ xs, P xs → Q' xs) : IterV X W Γ μ tg iter enc Q' := by
  obtain ⟨wi, h1, h2⟩ := h
  exact ⟨wi, h1, fun σ H R R' k => h2 σ H R R' fun xs J H1 px => k xs J H1 (i xs px)⟩
theorem walk_list {K : PySem.W.Frag} {pool : Hp} {a : Addr} {vs : List V} {ds : List PyData} (h : pool a = some (.lst vs)) (hv : VaAll K pool vs ds) : WalkD K pool (Itl K a) ds where
  go := fun i H hi s => by
    have hl : i < vs.length := by rw [hv.length]; exact hi
    exact ⟨vs, vs[i], SqL.of (s a _ h), by simp [hl]⟩
  yld := fun i d H v H' L hd _ s y => by
    obtain ⟨rfl, y⟩ := y
    refine ⟨Same.refl _, ?_⟩
    obtain ⟨v2, e, r⟩ := hv.at hd
    have := y vs (SqL.of ((off_some (s a _ h)).2))
    rw [e] at this
    cases this
    exact r.up s
  stop := fun H s => ⟨vs, SqL.of (s a _ h), by rw [hv.length]; exact Nat.le_refl _⟩
theorem it_listV (h : Ev X W Γ μ iter (fun z => ∃ xs, z = .list (xs.map enc) ∧ P xs)) : IterV X W Γ μ tg iter enc P := ⟨_, pi_list wE.pe, fun σ H R R' k => h σ H R _ fun v d H1 R1 e1 r ⟨xs, e, px⟩ => by
  subst e
  cases r with
  | lst ha hv => exact ⟨_, rfl, ⟨_, SqL.of (off_some ha).2⟩, k xs _ H1 px R1 e1 (walk_list ha hv)⟩⟩
theorem it_list {ds : List PyData} (h : Ed X W Γ μ iter (.list ds)) (e : ds = xs.map enc := by rfl) : IterD X W Γ μ tg iter enc xs := it_listV (h.evP ⟨xs, by rw [e], rfl⟩)
/-- a sign as a text -/
abbrev sg (c : Nat) : PyData := .str ⟨#[c]⟩
theorem it_strV {P : List Nat → Prop} (h : Ev X W Γ μ iter (fun z => ∃ cs : List Nat, z = .str ⟨cs.toArray⟩ ∧ P cs)) : IterV X W Γ μ tg iter sg P := ⟨_, pi_str wE.pe, fun σ H R R' k => h σ H R _ fun v d H1 R1 e1 r ⟨cs, e, px⟩ => by
  subst e
  cases r
  refine ⟨_, rfl, k cs _ H1 px R1 e1 ⟨fun i H hi s => ?_, fun i d H v H' L hd _ s y => ?_, fun H s => ?_⟩⟩
  · show i < cs.toArray.size
    simpa using hi
  · obtain ⟨rfl, c, hc, rfl⟩ := y
    refine ⟨Same.refl _, ?_⟩
    have hc' : cs[i]? = some c := by simpa using hc
    rw [List.getElem?_map, hc'] at hd
    cases hd
    exact .str _
  · show cs.toArray.size ≤ _
    simp⟩
theorem it_str {cs : List Nat} {x : Str} (h : Ed X W Γ μ iter (.str x)) (e : x = ⟨cs.toArray⟩ := by rfl) : IterD X W Γ μ tg iter sg cs := it_strV (h.evP ⟨cs, by rw [e], rfl⟩)
/-- range(n), range(a, b) -/
abbrev nn (i : Nat) : PyData := .int (i : Int)
theorem walk_range {K : PySem.W.Frag} {pool : Hp} {lo : Int} {n : Nat} : WalkD K pool (Itr lo n) ((List.range n).map fun (i : Nat) => PyData.int (lo + (i : Int))) where
  go := fun i H hi s => by show i < n; simpa using hi
  yld := fun i d H v H' L hd _ s y => by
    obtain ⟨rfl, rfl⟩ := y
    refine ⟨Same.refl _, ?_⟩
    rw [List.getElem?_map] at hd
    obtain ⟨j, hj, rfl⟩ := Option.map_eq_some_iff.mp hd
    have hl : i < n := by
      have := (List.getElem?_eq_some_iff.mp hj).1
      simpa using this
    rw [List.getElem?_range hl] at hj
    cases hj
    exact .int _
  stop := fun H s => by show n ≤ _; simp
theorem it_rangeV {P : Nat → Prop} (h : EvA X W Γ μ [a] (fun ds => ∃ n : Int, ds = [.int n] ∧ -(2 ^ 62) ≤ n ∧ n < 2 ^ 62 ∧ P n.toNat)) (hm : X.mg "range" = none) (hg : Gl X "range" := by rfl) (hs : starEach [a] X.env = [(false, eval a X.env)] := by rfl) :
    IterV X W Γ μ tg (.Call (.Name "range" p) [a] [] pos) (fun i : Nat => PyData.int ((0 : Int) + (i : Int))) (fun l => ∃ n, l = List.range n ∧ P n) := ⟨_, pi_range1 hg hm wA.pa hs, fun σ H R R' k => h σ H R _ fun vs ds H1 R1 e1 r ⟨n, e, h1, h2, pn⟩ => by
  subst e
  cases r with
  | cons r rr =>
    cases rr
    cases r
    exact ⟨n, rfl, h1, h2, k _ _ H1 ⟨_, rfl, pn⟩ R1 e1 walk_range⟩⟩
theorem it_range {n : Nat} {z : Int} (h : Ed X W Γ μ a (.int z)) (hm : X.mg "range" = none) (e : z.toNat = n := by omega) (hz : -1000000000 ≤ z ∧ z ≤ 1000000000 := by omega) (hg : Gl X "range" := by rfl) (hs : starEach [a] X.env = [(false, eval a X.env)] := by rfl) :
    IterD X W Γ μ tg (.Call (.Name "range" p) [a] [] pos) nn (List.range n) := by
  have := it_rangeV (tg := tg) (p := p) (pos := pos) (P := fun m => m = n) ((ea_cons h ea_nil (by rw [hs]; rfl)).ev ⟨z, rfl, by omega, by omega, e⟩) hm hg hs
  obtain ⟨wi, h1, h2⟩ := this
  refine ⟨wi, h1, fun σ H R R' k => h2 σ H R R' fun xs J H1 px R1 e1 wk => ?_⟩
  obtain ⟨m, e, e3⟩ := px
  subst e
  subst e3
  refine k _ J H1 rfl R1 e1 ?_
  have e : (fun i : Nat => PyData.int ((0 : Int) + (i : Int))) = nn := by funext i; show PyData.int _ = PyData.int _; rw [Int.zero_add]
  rw [e] at wk
  exact wk
end
/-! ### for -/
section
variable {X : Cx} {W : Wd} {Γ : List DV} {μ : Mu} {α : Type} {tg iter : Expr} {body rest : List Stmt} {pos p : Pos} {enc : α → PyData} {P : List α → Prop} {g : TG} {ok : PyData → Prop} {put : PyData → List DV → List DV} {ks : List Nat} {D : Ends}
theorem Rep.wdown {K : PySem.W.Frag} {W W' : Wd} {Γ : List DV} {μ : Mu} {σ : L2.St} {H : Hp} (l : Wle W W') (ok : WdOk K W) (R : Rep K W' Γ μ σ H) : Rep K W Γ μ σ H := by
  refine Rep.down l ok (fun p hp => ?_) R
  cases e : W.H0 p.1 with
  | none => rfl
  | some o =>
    have h := (R.mu p hp).1
    by_cases q : W.isRow p.1
    · have hM := l.m _ (Rep.isRow_M ok q)
      exact absurd h (R.wd.hid _ hM)
    · rw [l.keep _ o q e] at h
      cases h
theorem run_forG (hi : IterV X W Γ μ tg iter enc P) (hg : TgR X.K g ok put ks) (hpg : PG X tg g) (hok : ∀ xs, P xs → ∀ x ∈ xs, ok (enc x)) (J : List α → Nat → List DV → Mu → Prop) (h0 : ∀ xs, P xs → J xs 0 Γ μ)
    (hs : ∀ xs, P xs → ∀ W1, Wle W W1 → ∀ i x Γ' μ', xs[i]? = some x → J xs i Γ' μ' → Run X W1 (put (enc x) Γ') μ' body { D with nx := StP X.K W1 (J xs (i + 1)), ct := StP X.K W1 (J xs (i + 1)), bk := wSs X rest D })
    (hd' : ∀ xs, P xs → ∀ Γ' μ', J xs xs.length Γ' μ' → Run X W Γ' μ' rest D) (hp : PassesOwn (model X.prog X.w) X.A X.env X.xe := by exact PassesOwn.never) (hc : X.calm = true := by rfl) (hf : ∀ x, foldedSetIterable iter X.env x = pure x := by intro _; rfl) :
    Run X W Γ μ (.For tg iter body [] pos :: rest) D := fun σ H R => by
  obtain ⟨wi, h1, h2⟩ := hi
  refine wSs_cons ((ps_for hp hc h1 hpg wSs.ps hf).w ?_)
  refine h2 σ H R _ fun xs J' H1 px R1 e1 wk => ?_
  have le1 : Wle W (W.now μ H1) := R1.now_le
  refine ⟨fun i m σ H => m = xs.length - i ∧ i ≤ xs.length ∧ StP X.K (W.now μ H1) (J xs i) σ H, ⟨xs.length, by simp, Nat.zero_le _, Γ, μ, h0 xs px, R1.now⟩, ?_⟩
  rintro i m σ' H' ⟨rfl, hile, Γ', μ', j, R'⟩
  have pool : Same (off (hd W μ) H1) (off (hd (W.now μ H1) μ') H') := fun a o e => by
    obtain ⟨h1, h2⟩ := off_some e
    have z : (W.now μ H1).H0 a = some o := by
      show off (μ.map (·.1)) H1 a = some o
      rw [off_out (fun z => h1 (List.mem_append_right _ z))]
      exact h2
    rw [off_out (fun q => by
      rcases List.mem_append.mp q with q | q
      · exact h1 (List.mem_append_left _ q)
      · obtain ⟨p, hp, rfl⟩ := List.mem_map.mp q
        rw [(R'.mu p hp).1] at z
        cases z)]
    exact R'.fr.keep a o (fun q => h1 (List.mem_append_left _ (Rep.isRow_M R1.wd q))) z
  have pool0 : Same (off (hd W μ) H1) H' := fun a o e => (off_some (pool a o e)).2
  by_cases hlt : i < xs.length
  · refine .inr ⟨wk.go i H' (by simpa using hlt) pool0, StP X.K (W.now μ H1) (J xs (i + 1)), fun σ2 H2 q => ⟨xs.length - (i + 1), by omega, rfl, hlt, q⟩, fun v H2 y => ?_⟩
    obtain ⟨x, hx⟩ : ∃ x, xs[i]? = some x := ⟨xs[i], by simp [hlt]⟩
    obtain ⟨s2, r2⟩ := wk.yld i (enc x) H' v H2 _ (by rw [List.getElem?_map, hx]; rfl) R'.ne pool y
    have R2 := R'.same s2
    refine hg.run _ v (enc x) σ' H2 _ _ r2 (hok xs px x (List.mem_of_getElem? hx)) R2.sl fun σ3 sl3 _ _ => ?_
    exact hs xs px _ le1 i x Γ' μ' hx j σ3 H2 ⟨R2.wd, R2.fr, sl3, R2.mu, R2.nd⟩
  · have e : i = xs.length := by omega
    subst e
    refine .inl ⟨by have := wk.stop H' pool0; simpa using this, ?_⟩
    exact hd' xs px Γ' μ' j σ' H' (R'.wdown le1 R.wd)
/-- for n in iter -/
theorem run_for {xs : List α} {n : Str} (k : Nat) (hi : IterD X W Γ μ (.Name n p) iter enc xs) (J : Nat → List DV → Mu → Prop) (h0 : J 0 Γ μ)
    (hs : ∀ W1, Wle W W1 → ∀ i x Γ' μ', xs[i]? = some x → J i Γ' μ' → Run X W1 (Γ'.set k (.d (enc x))) μ' body { D with nx := StP X.K W1 (J (i + 1)), ct := StP X.K W1 (J (i + 1)), bk := wSs X rest D })
    (hd' : ∀ Γ' μ', J xs.length Γ' μ' → Run X W Γ' μ' rest D) (hN : X.N.Nodup) (hn : X.N[k]? = some n := by rfl) (hx : Loc X.env.scope n := by first | exact Or.inl rfl | exact Or.inr rfl) (hff : X.fn n = true ∨ X.env.scope.names.lookup n = some .local := by first | exact .inr rfl | exact .inl rfl)
    (hp : PassesOwn (model X.prog X.w) X.A X.env X.xe := by exact PassesOwn.never) (hc : X.calm = true := by rfl) (hf : ∀ x, foldedSetIterable iter X.env x = pure x := by intro _; rfl) :
    Run X W Γ μ (.For (.Name n p) iter body [] pos :: rest) D :=
  run_forG hi (tg_name k) (pg_name hN hn hx hff) (fun _ _ _ _ => trivial) (fun _ => J) (fun _ _ => h0) (fun _ e W1 l i x Γ' μ' h j => hs W1 l i x Γ' μ' (e ▸ h) j) (fun _ e Γ' μ' j => hd' Γ' μ' (e ▸ j)) hp hc hf
/-- the end of a turn -/
theorem run_turn {Φ : List DV → Mu → Prop} (hD : D.nx = StP X.K W Φ := by rfl) (h : Φ Γ μ) : Run X W Γ μ [] D := run_nil fun σ H R => by
  rw [hD]
  exact ⟨Γ, μ, h, R⟩
end
/-! ### defs -/
/-- a def of data: R tells what comes -/
def spR (K : PySem.W.Frag) (R : List PyData → PyData → Prop) : Sp := fun vs H Q _ => ∃ (L : List Addr) (ds : List PyData) (d : PyData), (∀ a ∈ L, H a ≠ none) ∧ VaAll K (off L H) vs ds ∧ R ds d ∧ ∀ v H', Same H H' → Va K (off L H') v d → Q v H'
/-- a def that draws from the row r (its first argument) -/
def spW (K : PySem.W.Frag) (pre : List PyData → Prop) (post : List PyData → PyData → Prop) : Sp := fun vs H Q _ => ∃ (M : List Addr) (r scr : Addr) (ns : List Int) (ws : List V) (ds : List PyData), vs = .ref r :: ws ∧ (∀ a ∈ M, H a ≠ none) ∧ r ∈ M ∧
  RowC H r scr ∧ SqL K H scr (ns.map V.int) ∧ scr ≠ r ∧ ns.length ≤ 63 ∧ VaAll K (off M H) ws ds ∧ pre ds ∧ ∀ v H' d, post ds d → (∀ a o, a ≠ r → H a = some o → H' a = some o) → RowC H' r scr → Va K (off M H') v d → Q v H'
/-- a def of the text, ready to be called -/
structure Fd (P : Program) (w : World) (K : PySem.W.Frag) (mg : Str → Option Value) (base : Heap) (k : Nat) (x : Str) (ps : List Str) (sp : Sp) : Prop where
  ex : ∃ (f : Addr) (fd : FuncData), FnOk P w K mg base CX0 k f fd ps sp ∧ mg x = some (.ref f) ∧ PySem.W.keepIn K (.ref f) = true ∧ Binds K fd ps []
section
variable {P : Program} {w : World} {K : PySem.W.Frag} {mg : Str → Option Value} {base : Heap} {x qual : Str} {params : Arguments} {body : List Stmt} {scope : Scope} {f : Addr} {fd : FuncData} {N ps : List Str} {k : Nat}
theorem slots_start {H : Hp} : ∀ {vs : List V} {ds : List PyData} (m : Nat), VaAll K H vs ds → Slots K H (vs.map some ++ List.replicate m none) (ds.map .d ++ List.replicate m .no) := fun {vs ds} m h => by
  refine ⟨by simp [h.length], fun i dv q => ?_⟩
  by_cases hl : i < ds.length
  · rw [List.getElem?_append_left (by simpa using hl), List.getElem?_map] at q
    obtain ⟨d, hd, rfl⟩ := Option.map_eq_some_iff.mp q
    obtain ⟨v, hv, r⟩ := h.at hd
    refine ⟨some v, ?_, v, rfl, r⟩
    rw [List.getElem?_append_left (by rw [List.length_map, h.length]; exact hl), List.getElem?_map, hv]
    rfl
  · rw [List.getElem?_append_right (by simp; omega), List.length_map] at q
    have hm : i - ds.length < m := by
      have := (List.getElem?_eq_some_iff.mp q).1
      simpa using this
    rw [List.getElem?_replicate, if_pos hm] at q
    cases q
    refine ⟨none, ?_, trivial⟩
    rw [List.getElem?_append_right (by simp [h.length]; omega), List.length_map, h.length, List.getElem?_replicate, if_pos hm]
theorem fd_pure (F : FunD K x qual params body scope [] [] f fd) (S : FnScope N ps scope) (R : List PyData → PyData → Prop) (hlen : ∀ ds d, R ds d → ds.length = ps.length)
    (h : ∀ (cdv : Value) (A : Around) (outer : List Env) (s : Shared) (H : Hp) (E : XK), Room k (A.deeper (envOfC qual scope s.heap.objs.size f cdv)) → ∀ (W : Wd) (ds : List PyData) (d : PyData), W.row = none → R ds d →
      Run (cxOf CX0 P w K mg base N qual scope f cdv A outer s H E).nox W (ds.map .d ++ List.replicate (N.length - ps.length) .no) [] body { nx := fun _ H' => RetP K W (fun z => z = d) .non H', rt := RetP K W (fun z => z = d) }) :
    FnOk P w K mg base CX0 (k + 1) f fd ps (spR K R) := by
  refine F.ok S (fun vs H Q E ⟨L, ds, d, _, hv, r, _⟩ => by rw [hv.length]; exact hlen ds d r) fun cdv A outer s H vs Q E hr ⟨L, ds, d, hL, hv, r, q⟩ => ?_
  refine ⟨_, PSs.nox wSs.ps, ?_⟩
  let W : Wd := ⟨H, L, none⟩
  have ok : WdOk K W := ⟨hL, fun _ _ _ e => nomatch e⟩
  have nr : ∀ a, ¬ W.isRow a := fun a ⟨_, _, e⟩ => nomatch e
  have sl : Slots K (off (hd W []) H) (start N vs) (ds.map .d ++ List.replicate (N.length - ps.length) .no) := by
    show Slots K (off (L ++ []) H) (vs.map some ++ List.replicate (N.length - vs.length) none) _
    rw [List.append_nil, hv.length, hlen ds d r]
    exact slots_start _ hv
  have ret : ∀ v H', RetP K W (fun z => z = d) v H' → Q v H' := fun v H' ⟨fr, d', e, hv'⟩ => q v H' (fun a o e => fr.keep a o (nr a) e) (e ▸ hv')
  intro pins st I
  have z := h cdv A outer s H E hr W ds d rfl r (start N vs) H ⟨ok, ⟨fun _ _ _ e => e, fun _ _ _ e => nomatch e⟩, sl, fun _ z => (nomatch z), List.nodup_nil⟩ pins st I
  refine wpAny_mono z (fun fl s' hq => ?_) fun _ _ z => z
  cases fl with
  | next =>
    obtain ⟨σ', H', I', q'⟩ := hq
    exact ⟨σ', H', I', ret _ _ q'⟩
  | brk => exact hq
  | cont => exact hq
  | ret u =>
    obtain ⟨v, σ', H', I', r', q'⟩ := hq
    exact ⟨v, σ', H', I', r', ret _ _ q'⟩
theorem Fd.mono {j : Nat} {sp : Sp} (F : Fd P w K mg base j x ps sp) (h : j ≤ k) : Fd P w K mg base k x ps sp := by
  obtain ⟨f, fd, h1, h2⟩ := F.ex
  exact ⟨f, fd, h1.mono h, h2⟩
end
/-! ### calls of defs -/
section
variable {X : Cx} {W : Wd} {Γ : List DV} {μ : Mu} {e : Expr} {es : List Expr} {pos p : Pos} {x : Str} {ps : List Str} {k : Nat} {d : PyData} {ds : List PyData}
theorem ev_call {R : List PyData → PyData → Prop} {A : List PyData → Prop} {B : PyData → Prop} (F : Fd X.prog X.w X.K X.mg X.base k x ps (spR X.K R)) (hr : Room k X.A) (ha : EvA X W Γ μ (e :: es) A) (hR : ∀ ds, A ds → ∃ d, R ds d ∧ B d) (hg : Gl X x := by rfl)
    (hdb : (x == ("__debug__" : Str)) = false := by decide) (he : starEach (e :: es) X.env = (false, eval e X.env) :: starEach es X.env := by rfl) (hpl : (backTo pos (starEach es X.env)).any (·.1) = false := by rfl) : Ev X W Γ μ (.Call (.Name x p) (e :: es) [] pos) B := fun σ H R Q q => by
  obtain ⟨f, fd, h1, h2, h3, h4⟩ := F.ex
  refine (pe_call h1 hr hg h2 h3 h4 .nil pass0 wA.pa hdb he hpl).w (ha σ H R _ fun vs ds H2 R2 e2 r2 pa => ?_)
  obtain ⟨d, hd, pb⟩ := hR ds pa
  refine ⟨HW.hd W μ, ds, d, R2.ne, by rw [List.append_nil]; exact r2, hd, fun v H3 s3 r3 => q v d H3 (R2.same s3) (e2.trans (XT.same s3)) r3 pb⟩
theorem ed_call {R : List PyData → PyData → Prop} (F : Fd X.prog X.w X.K X.mg X.base k x ps (spR X.K R)) (hr : Room k X.A) (ha : EdA X W Γ μ (e :: es) ds) (hR : R ds d) (hg : Gl X x := by rfl)
    (hdb : (x == ("__debug__" : Str)) = false := by decide) (he : starEach (e :: es) X.env = (false, eval e X.env) :: starEach es X.env := by rfl) (hpl : (backTo pos (starEach es X.env)).any (·.1) = false := by rfl) : Ed X W Γ μ (.Call (.Name x p) (e :: es) [] pos) d :=
  (ev_call (B := fun z => z = d) F hr (ha.ev (P := fun l => l = ds) rfl) (fun _ e => ⟨d, e ▸ hR, rfl⟩) hg hdb he hpl).ed
/-- f(row, ..), f a def that draws -/
theorem ev_draw {pre : List PyData → Prop} {post : List PyData → PyData → Prop} {A : List PyData → Prop} {n : Str} {p2 : Pos} {r scr : Addr} {ns : List Int} (F : Fd X.prog X.w X.K X.mg X.base k x ps (spW X.K pre post)) (hr : Room k X.A) (hrow : W.row = some (r, scr, ns)) (i : Nat) (ha : EvA X W Γ μ es A) (hR : ∀ ds, A ds → pre ds)
    (hi : Γ[i]? = some (.r r) := by rfl) (hN : X.N[i]? = some n := by rfl) (hv : Vis X.env.scope n := by first | exact Or.inl rfl | exact Or.inr (Or.inl rfl) | exact Or.inr (Or.inr rfl))
    (h1 : (n == ("__debug__" : Str)) = false := by decide) (h2 : (n == ("__classdict__" : Str)) = false := by decide) (hg : Gl X x := by rfl)
    (hdb : (x == ("__debug__" : Str)) = false := by decide) (he : starEach (.Name n p2 :: es) X.env = (false, eval (.Name n p2) X.env) :: starEach es X.env := by rfl) (hpl : (backTo pos (starEach es X.env)).any (·.1) = false := by rfl) :
    Ev X W Γ μ (.Call (.Name x p) (.Name n p2 :: es) [] pos) (fun d => ∃ ds, A ds ∧ post ds d) := fun σ H R Q q => by
  obtain ⟨f, fd, g1, g2, g3, g4⟩ := F.ex
  refine (pe_call g1 hr hg g2 g3 g4 .nil pass0 (pa_cons (pe_var hN hv h1 h2) wA.pa he) hdb he hpl).w ?_
  obtain ⟨o, e1, e2⟩ := R.sl.at_ i _ hi
  have e2' : o = some (.ref r) := e2
  subst e2'
  refine ⟨_, e1, ha σ H R _ fun vs ds H2 R2 e2 r2 pa => ?_⟩
  obtain ⟨w1, w2, w3, w4⟩ := R2.wd.row r scr ns hrow
  have isr : W.isRow r := ⟨scr, ns, hrow⟩
  have sq : SqL X.K H2 scr (ns.map V.int) := SqL.up (fun o e => R2.fr.keep scr o (fun ⟨s2, n2, z⟩ => by
    rw [hrow] at z
    cases z
    exact w3 rfl) e) w2
  refine ⟨hd W μ, r, scr, ns, vs, ds, by rw [List.append_nil], R2.ne, List.mem_append_left _ w1, R2.fr.row r scr ns hrow, sq, w3, w4, r2, hR ds pa, fun v H3 d pd keep rc r3 => ?_⟩
  have nor : ∀ a, ¬ W.isRow a → a ≠ r := fun a n z => n (z ▸ isr)
  have xt : XT (hd W μ) H2 H3 := fun a o e => by
    obtain ⟨h1, h2⟩ := off_some e
    rw [off_out h1]
    exact keep a o (fun z => h1 (List.mem_append_left _ (z ▸ w1))) h2
  have R3 : Rep X.K W Γ μ σ H3 := ⟨R2.wd, ⟨fun a o n e => keep a o (nor a n) (R2.fr.keep a o n e), fun r' s' n' e => by
    rw [hrow] at e
    cases e
    exact rc⟩, R2.sl.up xt, fun p hp => ⟨(R2.mu p hp).1, (R2.mu p hp).2.up xt fun o e => keep _ o (fun z => by
      have := (R2.mu p hp).1
      rw [z] at this
      exact R2.wd.hid r w1 this) e⟩, R2.nd⟩
  exact q v d H3 R3 (e2.trans xt) r3 ⟨ds, pa, pd⟩
end
end HW
set_option maxHeartbeats 4000000
namespace HW
open PySem PySem.Spec PyProof.Rows L2
open SX (S)
section
variable {X : Cx}
theorem IxR.to {r r' : R2} (h : IxR X r) (i : ∀ a b H Q, r' a b H Q → r a b H Q) : IxR X r' := fun e1 e2 pins s σ H x y v u Q I rx ry q hs => h e1 e2 pins s σ H x y v u Q I rx ry (i _ _ _ _ q) hs
theorem MtR.to {id : String} {r r' : V → List V → Hp → VK → Prop} (h : MtR X id r) (i : ∀ x vs H Q, r' x vs H Q → r x vs H Q) : MtR X id r' := fun pins s σ H x xs v us Q I rx rv q => h pins s σ H x xs v us Q I rx rv (i _ _ _ _ q)
/-! ### numbers -/
variable {i j : Int}
theorem o_add : OpD X (binaryOp .Add) (.int i) (.int j) (.int (i + j)) := OpR.to op_add fun a b H Q ⟨L, _, ha, hb, k⟩ => by cases ha; cases hb; exact ⟨i, j, rfl, rfl, k _ _ (Same.refl _) (.int _)⟩
theorem o_sub : OpD X (binaryOp .Sub) (.int i) (.int j) (.int (i - j)) := OpR.to op_sub fun a b H Q ⟨L, _, ha, hb, k⟩ => by cases ha; cases hb; exact ⟨i, j, rfl, rfl, k _ _ (Same.refl _) (.int _)⟩
theorem o_div (h : CDiv i j) : OpD X (binaryOp .FloorDiv) (.int i) (.int j) (.int (i / j)) := OpR.to op_fdiv fun a b H Q ⟨L, _, ha, hb, k⟩ => by cases ha; cases hb; exact ⟨i, j, rfl, rfl, h, k _ _ (Same.refl _) (.int _)⟩
theorem c_lt : OpD X (compareOp .Lt) (.int i) (.int j) (.bool (decide (i < j))) := OpR.to op_lt fun a b H Q ⟨L, _, ha, hb, k⟩ => by cases ha; cases hb; exact ⟨i, j, rfl, rfl, k _ _ (Same.refl _) (.bl _)⟩
theorem c_le : OpD X (compareOp .LtE) (.int i) (.int j) (.bool (decide (i ≤ j))) := OpR.to op_le fun a b H Q ⟨L, _, ha, hb, k⟩ => by cases ha; cases hb; exact ⟨i, j, rfl, rfl, k _ _ (Same.refl _) (.bl _)⟩
theorem c_gt : OpD X (compareOp .Gt) (.int i) (.int j) (.bool (decide (j < i))) := OpR.to op_gt fun a b H Q ⟨L, _, ha, hb, k⟩ => by cases ha; cases hb; exact ⟨i, j, rfl, rfl, k _ _ (Same.refl _) (.bl _)⟩
theorem c_eqI : OpD X (compareOp .Eq) (.int i) (.int j) (.bool (decide (i = j))) := OpR.to op_eq fun a b H Q ⟨L, _, ha, hb, k⟩ => by
  cases ha; cases hb
  refine ⟨rfl, ?_⟩
  rw [dec_int, Bool.beq_eq_decide_eq]
  exact k _ _ (Same.refl _) (.bl _)
theorem c_neI : OpD X (compareOp .NotEq) (.int i) (.int j) (.bool (!decide (i = j))) := OpR.to op_ne fun a b H Q ⟨L, _, ha, hb, k⟩ => by
  cases ha; cases hb
  refine ⟨rfl, ?_⟩
  rw [dec_int, Bool.beq_eq_decide_eq]
  exact k _ _ (Same.refl _) (.bl _)
/-! ### any data -/
theorem c_eqD {x y : PyData} (hu : X.A.units + 64 < cLine) (hx : SeqAt.shaped x = true) (hy : SeqAt.shaped y = true) : OpD X (compareOp .Eq) x y (.bool (PyData.eqv x y)) := OpR.to (op_eqD hu) fun a b H Q ⟨L, _, ha, hb, k⟩ =>
  ⟨x, y, (ha.up same_off).dp (nod_of_lay (SeqAt.canLay_of_shaped hx)), (hb.up same_off).dp (nod_of_lay (SeqAt.canLay_of_shaped hy)), hx, hy, k _ _ (Same.refl _) (.bl _)⟩
theorem c_neD {x y : PyData} (hu : X.A.units + 64 < cLine) (hx : SeqAt.shaped x = true) (hy : SeqAt.shaped y = true) : OpD X (compareOp .NotEq) x y (.bool (!PyData.eqv x y)) := OpR.to (op_neD hu) fun a b H Q ⟨L, _, ha, hb, k⟩ =>
  ⟨x, y, (ha.up same_off).dp (nod_of_lay (SeqAt.canLay_of_shaped hx)), (hb.up same_off).dp (nod_of_lay (SeqAt.canLay_of_shaped hy)), hx, hy, k _ _ (Same.refl _) (.bl _)⟩
/-! ### texts -/
variable {l m : List Nat}
theorem S_eq {a b : List Nat} : decide (V.str (S a) = V.str (S b)) = decide (a = b) := by rw [dec_str, SX.S_beq_eq]
theorem c_eqS : OpD X (compareOp .Eq) (.str (S l)) (.str (S m)) (.bool (decide (l = m))) := OpR.to op_eq fun a b H Q ⟨L, _, ha, hb, k⟩ => by
  cases ha; cases hb
  refine ⟨rfl, ?_⟩
  rw [S_eq]
  exact k _ _ (Same.refl _) (.bl _)
theorem o_adds (h : l.length + m.length ≤ 16777216) : OpD X (binaryOp .Add) (.str (S l)) (.str (S m)) (.str (S (l ++ m))) := OpR.to op_add_str fun a b H Q ⟨L, _, ha, hb, k⟩ => by
  cases ha; cases hb
  refine ⟨_, _, rfl, rfl, by rw [SX.S_len, SX.S_len]; exact h, ?_⟩
  rw [SX.S_cat]
  exact k _ _ (Same.refl _) (.str _)
/-- one sign in a text -/
theorem c_inS {c : Nat} : OpD X (compareOp .In) (sg c) (.str (S m)) (.bool (decide (c ∈ m))) := OpR.to op_in_sign fun a b H Q ⟨L, _, ha, hb, k⟩ => by
  cases ha; cases hb
  exact ⟨c, S m, rfl, rfl, k _ _ (Same.refl _) (.bl _)⟩
theorem at_nat {α : Type} {l : List α} {i : Int} {n : Nat} {c : α} (e : i = (n : Int)) (h : l[n]? = some c) : atI l i = some c := by
  rw [e]
  have hl := (List.getElem?_eq_some_iff.mp h).1
  unfold atI ixN
  rw [if_pos (Int.natCast_nonneg n), if_pos (by omega)]
  simpa using h
theorem i_str {c : Nat} {n : Nat} (hl : l.length ≤ 16777216) (hc : l[n]? = some c) (e : i = (n : Int) := by rfl) : IxD X (.str (S l)) (.int i) (sg c) := IxR.to ix_str fun a b H Q ⟨L, _, ha, hb, k⟩ => by
  cases ha; cases hb
  exact ⟨S l, i, c, rfl, rfl, by rw [SX.S_len]; exact hl, at_nat e hc, k _ _ (Same.refl _) (.str _)⟩
/-- s[-1] -/
theorem at_last {α : Type} {l : List α} {c : α} (h : l.getLast? = some c) : atI l (-1) = some c := by
  have hl : l ≠ [] := by rintro rfl; simp at h
  have hp : 0 < l.length := List.length_pos_iff.mpr hl
  unfold atI ixN
  rw [if_neg (by decide), if_pos (by omega)]
  have e : ((-1 : Int) + (l.length : Int)).toNat = l.length - 1 := by omega
  show l[((-1 : Int) + (l.length : Int)).toNat]? = some c
  rw [e, ← h, List.getLast?_eq_getElem?]
theorem i_strL {c : Nat} (hl : l.length ≤ 16777216) (hc : l.getLast? = some c) : IxD X (.str (S l)) (.int (-1)) (sg c) := IxR.to ix_str fun a b H Q ⟨L, _, ha, hb, k⟩ => by
  cases ha; cases hb
  exact ⟨S l, -1, c, rfl, rfl, by rw [SX.S_len]; exact hl, at_last hc, k _ _ (Same.refl _) (.str _)⟩
theorem c_lenS (h : l.length ≤ 16777216) : CallD X (.builtin "len") [.str (S l)] (nn l.length) := CallR.to call_len_str fun vs H Q ⟨L, _, hv, k⟩ => by
  cases hv with
  | cons h1 h2 =>
    cases h2; cases h1
    refine ⟨_, rfl, by rw [SX.S_len]; exact h, ?_⟩
    rw [SX.S_len]
    exact k _ _ (Same.refl _) (.int _)
/-! ### lists, tuples -/
variable {ds es : List PyData} {d : PyData}
theorem c_lenL : CallD X (.builtin "len") [.list ds] (nn ds.length) := CallR.to call_len_seq fun vs H Q ⟨L, _, hv, k⟩ => by
  cases hv with
  | cons h1 h2 =>
    cases h2
    cases h1 with
    | lst ha hs => exact ⟨_, _, rfl, .inl (SqL.of (off_some ha).2), by rw [hs.length]; exact k _ _ (Same.refl _) (.int _)⟩
theorem i_list {n : Nat} (hd : ds[n]? = some d) (e : i = (n : Int) := by rfl) : IxD X (.list ds) (.int i) d := IxR.to ix_list fun a b H Q ⟨L, _, ha, hb, k⟩ => by
  cases hb
  cases ha with
  | lst ha hs =>
    obtain ⟨v, hv, r⟩ := hs.at hd
    exact ⟨_, _, i, v, rfl, rfl, SqL.of (off_some ha).2, at_nat e hv, k _ _ (Same.refl _) r⟩
theorem i_tup {n : Nat} (hd : ds[n]? = some d) (e : i = (n : Int) := by rfl) : IxD X (.tuple ds) (.int i) d := IxR.to ix_tup fun a b H Q ⟨L, _, ha, hb, k⟩ => by
  cases hb
  cases ha with
  | tup ha hs =>
    obtain ⟨v, hv, r⟩ := hs.at hd
    exact ⟨_, _, i, v, rfl, rfl, SqT.up same_off ha, at_nat e hv, k _ _ (Same.refl _) r⟩
theorem i_listL (hd : ds.getLast? = some d) : IxD X (.list ds) (.int (-1)) d := IxR.to ix_list fun a b H Q ⟨L, _, ha, hb, k⟩ => by
  cases hb
  cases ha with
  | lst ha hs =>
    have e : ds[ds.length - 1]? = some d := by rw [← List.getLast?_eq_getElem?]; exact hd
    obtain ⟨v, hv, r⟩ := hs.at e
    refine ⟨_, _, -1, v, rfl, rfl, SqL.of (off_some ha).2, at_last (by rw [List.getLast?_eq_getElem?, hs.length]; exact hv), k _ _ (Same.refl _) r⟩
theorem c_all {bs : List Bool} (hc : X.calm = true) : CallD X (.builtin "all") [.list (bs.map .bool)] (.bool (bs.all id)) := CallR.to (cr_all hc) fun vs H Q ⟨L, _, hv, k⟩ => by
  cases hv with
  | cons h1 h2 =>
    cases h2
    cases h1 with
    | lst ha hs => exact ⟨_, bs, rfl, by rw [← hs.bls]; exact SqL.of (off_some ha).2, k _ _ (Same.refl _) (.bl _)⟩
theorem c_any {bs : List Bool} (hc : X.calm = true) : CallD X (.builtin "any") [.list (bs.map .bool)] (.bool (bs.any id)) := CallR.to (cr_any hc) fun vs H Q ⟨L, _, hv, k⟩ => by
  cases hv with
  | cons h1 h2 =>
    cases h2
    cases h1 with
    | lst ha hs => exact ⟨_, bs, rfl, by rw [← hs.bls]; exact SqL.of (off_some ha).2, k _ _ (Same.refl _) (.bl _)⟩
end
/-! ### methods of texts: sep.join -/
section
variable {X : Cx} {W : Wd} {Γ : List DV} {μ : Mu} {e o : Expr} {pos apos p : Pos} {l : List Nat} {ws : List (List Nat)}
theorem flat_join : ∀ ws : List (List Nat), TL.joinL [] ws = ws.flatten
  | [] => rfl
  | [w] => by simp [TL.joinL]
  | w :: v :: r => by
    have ih := flat_join (v :: r)
    rw [List.flatten_cons, ← ih]
    simp [TL.joinL]
theorem vaAll_S {K : PySem.W.Frag} {H : Hp} {vs : List V} (h : VaAll K H vs (ws.map fun w => PyData.str (S w))) : vs = (ws.map S).map V.str := by
  have e : (ws.map fun w => PyData.str (S w)) = (ws.map S).map PyData.str := by rw [List.map_map]; rfl
  rw [e] at h
  exact h.strs
theorem ev_join {Ws : List (List Nat) → Prop} (ho : Ed X W Γ μ o (.str (S []))) (he : Ev X W Γ μ e (fun z => ∃ ws : List (List Nat), z = .list (ws.map fun w => .str (S w)) ∧ Ws ws)) (hz : ∀ ws, Ws ws → (ws.map List.length).sum ≤ 16777216)
    (hs : starEach [e] X.env = [(false, eval e X.env)] := by rfl) (hbase : attributeBase o "join" X.env (eval o X.env) = eval o X.env := by rfl) (hline : (apos.endLine == pos.line) = true := by rfl) :
    Ev X W Γ μ (.Call (.Attribute o "join" apos) [e] [] pos) (fun z => ∃ ws, z = .str (S ws.flatten) ∧ Ws ws) := fun σ H R Q q => by
  refine (pe_join wE.pe wE.pe hs hbase hline).w (ho σ H R _ fun v H2 R2 e2 r2 => ?_)
  cases r2
  refine ⟨⟨_, rfl⟩, he σ H2 R2 _ fun v d H3 R3 e3 r3 ⟨ws, ed, pw⟩ => ?_⟩
  subst ed
  cases r3 with
  | lst ha hv =>
    have ev := vaAll_S hv
    refine ⟨S [], _, ws.map S, rfl, rfl, .inl (by rw [← ev]; exact SqL.of (off_some ha).2), ?_, ?_⟩
    · rw [List.map_map]
      have z := hz ws pw
      have e1 : (ws.map ((fun x : Str => x.length) ∘ S)) = ws.map List.length := List.map_congr_left fun w _ => SX.S_len w
      rw [e1, SX.S_len]
      simpa using z
    · rw [SX.join_S, flat_join]
      exact q _ _ H3 R3 (e2.trans e3) (.str _) ⟨ws, rfl, pw⟩
/-! ### slices -/
theorem po_int {lo : Expr} {z : Int} (h : Ed X W Γ μ lo (.int z)) : ∀ σ H, Rep X.K W Γ μ σ H → ∀ Q : Option Int → Hp → Prop, (∀ H2, Rep X.K W Γ μ σ H2 → XT (hd W μ) H H2 → Q (some z) H2) → tPart (wE X lo) σ H Q := fun σ H R Q q => h σ H R _ fun v H2 R2 e2 r => by
  cases r
  exact ⟨z, rfl, q H2 R2 e2⟩
/-- a part of a slice -/
def EdO (X : Cx) (W : Wd) (Γ : List DV) (μ : Mu) (e : Option Expr) (o : Option Int) : Prop := ∃ t, PO X e t ∧ ∀ σ H, Rep X.K W Γ μ σ H → ∀ Q : Option Int → Hp → Prop, (∀ H2, Rep X.K W Γ μ σ H2 → XT (hd W μ) H H2 → Q o H2) → t σ H Q
theorem so_none : EdO X W Γ μ none none := ⟨_, po_none, fun σ H R Q q => q H R XT.refl⟩
theorem so_some {z : Int} (h : Ed X W Γ μ e (.int z)) : EdO X W Γ μ (some e) (some z) := ⟨_, po_some wE.pe, po_int h⟩
/-- a slice by values -/
def rDs (K : PySem.W.Frag) (d : PyData) (lo hi : Option Int) (z : PyData) : V → Option Int → Option Int → Hp → VK → Prop := fun v l h H Q => l = lo ∧ h = hi ∧ ∃ L : List Addr, (∀ a ∈ L, H a ≠ none) ∧ Va K (off L H) v d ∧ ∀ v' H2, Same H H2 → Va K (off L H2) v' z → Q v' H2
def SlD (X : Cx) (d : PyData) (lo hi : Option Int) (z : PyData) : Prop := L2.SlR X (rDs X.K d lo hi z)
theorem SlR.to {r r' : V → Option Int → Option Int → Hp → VK → Prop} (h : L2.SlR X r) (i : ∀ x l u H Q, r' x l u H Q → r x l u H Q) : L2.SlR X r' := fun pins s σ H x v vl vu lo hi sl Q I rx hs pl pu q => h pins s σ H x v vl vu lo hi sl Q I rx hs pl pu (i _ _ _ _ _ q)
theorem ed_sl {a : Expr} {lo hi : Option Expr} {l u : Option Int} {d z : PyData} {p2 : Pos} (ha : Ed X W Γ μ a d) (hl : EdO X W Γ μ lo l) (hu : EdO X W Γ μ hi u) (hs : SlD X d l u z) : Ed X W Γ μ (.Subscript a (.Slice lo hi none p2) pos) z := fun σ H R Q q => by
  obtain ⟨tl, l1, l2⟩ := hl
  obtain ⟨tu, u1, u2⟩ := hu
  refine (pe_slice (r := rDs X.K d l u z) hs wE.pe l1 u1).w (ha σ H R _ fun v H2 R2 e2 r2 => l2 σ H2 R2 _ fun H3 R3 e3 => u2 σ H3 R3 _ fun H4 R4 e4 => ?_)
  exact ⟨rfl, rfl, hd W μ, R4.ne, (r2.up e3).up e4, fun v' H5 s5 r5 => q v' H5 (R4.same s5) (((e2.trans e3).trans e4).trans (XT.same s5)) r5⟩
end
section
variable {X : Cx} {l : List Nat} {ds : List PyData} {n m : Nat}
theorem s_str {lo hi : Option Int} (h : l.length ≤ 16777216) : SlD X (.str (S l)) lo hi (.str (S ((l.drop (HT.sIx l.length 0 lo)).take (HT.sIx l.length l.length hi - HT.sIx l.length 0 lo)))) := SlR.to sl_str fun v l' u H Q ⟨e1, e2, L, hL, hv, k⟩ => by
  subst e1 e2
  cases hv
  refine ⟨_, rfl, by rw [SX.S_len]; exact h, ?_⟩
  unfold cutS
  rw [SX.S_len]
  exact k _ _ (Same.refl _) (.str _)
theorem s_strT (n : Nat) {z : Int} (hl : l.length ≤ 16777216) (e : z = (n : Int) := by rfl) : SlD X (.str (S l)) none (some z) (.str (S (l.take n))) := by
  have h := s_str (X := X) (l := l) (lo := none) (hi := some z) hl
  subst e
  rw [HT.sIx_none, HT.sIx_nat, List.drop_zero, Nat.sub_zero] at h
  have e2 : l.take (min n l.length) = l.take n := by
    rw [Nat.min_def]
    split
    · rfl
    · rw [List.take_of_length_le (by omega), List.take_of_length_le (by omega)]
  rw [e2] at h
  exact h
end
/-! ### isinstance -/
def tyD : PyData → String
  | .none => "NoneType"
  | .bool _ => "bool"
  | .int _ => "int"
  | .str _ => "str"
  | .list _ => "list"
  | .tuple _ => "tuple"
  | .dict _ => "dict"
def isPtr : PyData → Bool
  | .dict (_ :: _) => true
  | _ => false
theorem va_ty {K : PySem.W.Frag} {H : Hp} {L : List Addr} {v : V} {d : PyData} (h : Va K (off L H) v d) (hp : isPtr d = false) : TyX K H v (.type (tyD d)) := by
  cases h with
  | non => exact .base .non
  | bl b => exact .base (.bl b)
  | int i => exact .base (.int i)
  | str x => exact .base (.str x)
  | lst ha _ => exact .base (.lst (off_some ha).2)
  | tup ha _ =>
    rcases SqT.up same_off ha with (h | ⟨o, h⟩) | ⟨o, its, n, hk, hc, _⟩
    · exact .base (.tup h)
    · exact .fTuple h
    · exact .kTuple hk hc
  | dct ha => exact .base (.dK (off_some ha).2)
  | ptr a => cases hp
  | dcf _ _ _ => cases hp
  | dtf _ _ _ => cases hp
section
variable {X : Cx} {W : Wd} {Γ : List DV} {μ : Mu} {e : Expr} {d : PyData} {pos p p2 : Pos} {b : Bool}
theorem ed_isi {T : String} {n : Str} (he : Ed X W Γ μ e d) (hm : X.mg "isinstance" = none) (hmT : X.mg n = none) (hv : bootBuiltins n = some (.type T)) (hk : ∀ K, PySem.W.kitOne K (.type (tyD d)) (.type T) = some b := by intro K; rfl) (hp : isPtr d = false := by first | rfl | assumption) (hg : Gl X "isinstance" := by rfl) (hgT : Gl X n := by rfl)
    (hn : n ≠ "__name__" := by decide) (hdb : (n == ("__debug__" : Str)) = false := by decide)
    (hs : starEach [e, .Name n p2] X.env = (false, eval e X.env) :: starEach [.Name n p2] X.env := by rfl) (hs2 : starEach [.Name n p2] X.env = (false, eval (.Name n p2) X.env) :: starEach [] X.env := by rfl) (hpl : (backTo pos (starEach [.Name n p2] X.env)).any (·.1) = false := by rfl) :
    Ed X W Γ μ (.Call (.Name "isinstance" p) [e, .Name n p2] [] pos) (.bool b) := fun σ H R Q q => by
  refine (pe_callB call_isi hg hm boot_isinstance (pa_cons wE.pe (pa_cons (pe_bltn (v := .ty T) hgT hmT hv rfl hn hdb) pa_nil hs2) hs) (by decide) (by decide) hs hpl).w (he σ H R _ fun v H2 R2 e2 r2 => ?_)
  exact ⟨v, .ty T, _, _, b, rfl, .ty T, va_ty r2 hp, hk _, q _ H2 R2 e2 (.bl b)⟩
end
end HW
set_option maxHeartbeats 4000000
namespace HW
open PySem PySem.Spec PyProof.Rows L2
open SX (S)
/-! ### what is gone through, in one shape -/
inductive Sc where
  | txt (x : Str) | lst (a : Addr) | tup (a : Addr)
def Sc.v : Sc → V
  | .txt x => .str x
  | .lst a => .ref a
  | .tup a => .ref a
def signsV (x : Str) : List V := x.cps.toList.map fun c => .str ⟨#[c]⟩
def Sc.xs (K : PySem.W.Frag) (H : Hp) : Sc → List V → Prop
  | .txt x, xs => xs = signsV x
  | .lst a, xs => SqL K H a xs
  | .tup a, xs => SqT K H a xs
def Sc.fp : Sc → List Addr
  | .txt _ => []
  | .lst a => [a]
  | .tup a => [a]
def Sc.it : Sc → Tok → Addr → Nat → Heap → Prop
  | .txt x, t, it, i, h => h.IsStrIter it (strIterType x) x t i
  | .lst a, _, it, i, h => h.IsListIter it a i
  | .tup a, _, it, i, h => h.IsTupleIter it a i
theorem Sc.at {k : Sc} {t : Tok} {it : Addr} {i : Nat} {h h' : Heap} (s : k.it t it i h) (e : ∀ o, h.get? it = some o → h'.get? it = some o) : k.it t it i h' := by
  cases k with
  | txt x => let ⟨o, ho, r⟩ := s; exact ⟨o, e o ho, r⟩
  | lst a => exact Heap.IsListIter.at s e
  | tup a => exact Heap.IsTupleIter.at s e
theorem Sc.obj {k : Sc} {t : Tok} {it : Addr} {i : Nat} {h : Heap} (s : k.it t it i h) : ∃ o, h.get? it = some o ∧ ∀ v, o.data ≠ .cell v := by
  cases k with
  | txt x => obtain ⟨o, e, c, d⟩ := s; exact ⟨o, e, fun v z => by rw [d] at z; cases z⟩
  | lst a => obtain ⟨o, e, c, d⟩ := s; exact ⟨o, e, fun v z => by rw [d] at z; cases z⟩
  | tup a => obtain ⟨o, e, c, d⟩ := s; exact ⟨o, e, fun v z => by rw [d] at z; cases z⟩
theorem sc_draws {X : Cx} {pins : List (Addr × Obj)} {σ : L2.St} {H : Hp} {s : Shared} {k : Sc} {xs : List V} {t : Tok} {it : Addr} {i : Nat} (I : Inv X pins σ H s) (hc : X.calm = true) (hx : k.xs X.K H xs) (st : k.it t it i s.heap) (hne : ∀ a ∈ k.fp, a ≠ it) :
    ∃ (n : Nat) (P : Nat → Value → Prop) (St : Nat → Heap → Prop), Draws X.prog X.w X.A.in1 it (it :: k.fp) n P St ∧ St i s.heap ∧ n = xs.length ∧ (∀ j v, P j v → ∃ x, xs[j]? = some x ∧ RelV x v) ∧ ∀ j h, St j h → k.it t it j h := by
  have hh : X.A.in1.handled = none := I.ok.hd hc
  cases k with
  | txt x =>
    have e : xs = signsV x := hx
    subst e
    have D := Draws.text (prog := X.prog) (w := X.w) (A := X.A.in1) hh it x t
    refine ⟨_, _, _, D, st, by simp [signsV], fun j v ⟨c, u, h1, h2⟩ => ⟨.str ⟨#[c]⟩, ?_, u, h2⟩, fun j h q => q⟩
    simp [signsV, h1]
  | lst a =>
    obtain ⟨its, rv, p, _⟩ := I.list (show SqL X.K H a xs from hx)
    have D := Draws.list (prog := X.prog) (w := X.w) (A := X.A.in1) hh it a (hne a (by simp [Sc.fp])) its.toArray
    refine ⟨_, _, _, D, ⟨st, p.isList⟩, by simp [rv.length], fun j v hv => ?_, fun j h q => q.1⟩
    have hv' : its[j]? = some v := by simpa using hv
    have hl : j < xs.length := by
      have := (List.getElem?_eq_some_iff.mp hv').1
      rw [rv.length]
      exact this
    have hxj : xs[j]? = some xs[j] := List.getElem?_eq_getElem hl
    obtain ⟨u, hu, ru⟩ := rv.get hxj
    rw [hv'] at hu
    cases hu
    exact ⟨_, hxj, ru⟩
  | tup a =>
    obtain ⟨its, rv, p, _⟩ := I.tuple (show SqT X.K H a xs from hx)
    have D := Draws.tuple (prog := X.prog) (w := X.w) (A := X.A.in1) hh it a (hne a (by simp [Sc.fp])) its.toArray
    refine ⟨_, _, _, D, ⟨st, p⟩, by simp [rv.length], fun j v hv => ?_, fun j h q => q.1⟩
    have hv' : its[j]? = some v := by simpa using hv
    have hl : j < xs.length := by
      have := (List.getElem?_eq_some_iff.mp hv').1
      rw [rv.length]
      exact this
    have hxj : xs[j]? = some xs[j] := List.getElem?_eq_getElem hl
    obtain ⟨u, hu, ru⟩ := rv.get hxj
    rw [hv'] at hu
    cases hu
    exact ⟨_, hxj, ru⟩
theorem Sc.inj {X : Cx} {pins : List (Addr × Obj)} {σ : L2.St} {H : Hp} {s : Shared} {k : Sc} {xs ys : List V} (I : Inv X pins σ H s) (h : k.xs X.K H xs) (h' : k.xs X.K H ys) : xs = ys := by
  cases k with
  | txt x => exact Eq.trans (show xs = signsV x from h) (show ys = signsV x from h').symm
  | lst a => exact I.list_inj h h'
  | tup a => exact I.tuple_inj h h'
/-! ### zip -/
/-! ### enumerate -/
def IteS (K : PySem.W.Frag) (a : Sc) : It :=
  ⟨fun i H => ∃ (xs : List V), a.xs K H xs ∧ i < xs.length, fun i H v H' => ∃ T x, v = .ref T ∧ H T = none ∧ H' = upd H T (.tup [.int (i : Nat), x]) ∧ ∀ xs, a.xs K H xs → xs[i]? = some x, fun i H => ∃ xs : List V, a.xs K H xs ∧ i = xs.length⟩
theorem turn_enumS {P : Program} {w : World} {K : PySem.W.Frag} {elts : List Expr} {kk : Nat} {tpos : Pos} {a : Sc} {N : Nat} (t : Tok) (ha : ∀ x ∈ a.fp, x < N) :
    Turn P w K (.Tuple elts kk tpos) (IteS K a) [N + 1, N] (N + 1) (fun i h => (∃ old, IsEnum h (N + 1) N ((i : Nat) : Int) old) ∧ a.it t N i h) where
  mem := by simp
  obj := fun i h st b hb => by
    obtain ⟨⟨old, he⟩, h1⟩ := st
    have e' : b = N + 1 ∨ b = N := by simpa using hb
    rcases e' with z | z
    · rw [z]; exact ⟨_, he, fun v q => nomatch q⟩
    · rw [z]; exact Sc.obj h1
  keep := fun i h h' st k => let ⟨⟨old, he⟩, hi⟩ := st; ⟨⟨old, k (N + 1) (by simp) _ he⟩, Sc.at hi (k N (by simp))⟩
  item := by
    intro X hP hw hK hc i pins s σ H E I hf st hg
    subst hP hw hK
    obtain ⟨⟨old, he⟩, hit⟩ := st
    obtain ⟨xs, hq, hx⟩ := hg
    obtain ⟨n1, P1, St1, D1, s1, e1, p1, b1⟩ := sc_draws I hc hq hit (fun x m => Nat.ne_of_lt (ha x m))
    have hel : N + 1 < s.heap.objs.size := Heap.lt_size he
    have hef : N + 1 ∉ N :: a.fp := fun m => by
      rcases List.mem_cons.mp m with z | z
      · exact Nat.succ_ne_self _ z
      · exact absurd (ha _ z) (by have : ¬ (N + 1 < N) := by omega
                                  exact this)
    refine wpAny_pyNext_enum_itemC D1 he s1 (by omega) (Nat.succ_ne_self _) hef fun x h' tk hp ho st' hT hsz hk => ?_
    refine ⟨_, rfl, wpAny_letOwnedTupleGo_enum (s := { s with heap := h', toks := tk + 1 }) ho fun h'' he' sb => ?_⟩
    obtain ⟨v1, g1, r1⟩ := p1 i x hp
    have hT2 : h''.get? s.heap.objs.size = some { cls := .type "tuple", data := .seq #[.int i tk, x] } := (sb.2 _ (Nat.ne_of_gt hel)).trans hT
    have new : ObjOk X.prog X.w (upd H s.heap.objs.size (.tup [.int (i : Nat), v1])) h'' s.heap.objs.size (.tup [.int (i : Nat), v1]) :=
      ⟨by show 2 ≤ sizeLine; decide, [.int i tk, x], .cons ⟨_, rfl⟩ (.cons r1 .nil), ⟨_, hT2, rfl, _, rfl⟩⟩
    have I1 : Inv X pins σ (upd H s.heap.objs.size (.tup [.int (i : Nat), v1])) { s with heap := h'', toks := tk + 1 } :=
      I.turnedNew (ch := [N + 1, N]) (fun b ob hb q => (sb.2 b (fun z => hb (by simp [z]))).trans (hk b ob (fun z => hb (by simp [z])) (fun z => hb (by simp [z])) q)) hf (Nat.le_refl _) new
    refine ⟨.ref s.heap.objs.size, _, I1, rfl, ⟨_, v1, rfl, I.hok.fresh (Nat.le_refl _), rfl, fun ys hy => by rw [Sc.inj I hy hq]; exact g1⟩, ⟨⟨x, ?_⟩, Sc.at (b1 _ _ st') fun o q => (sb.2 N (Ne.symm (Nat.succ_ne_self N))).trans q⟩, fun b hb => ?_⟩
    · have e1 : ((i + 1 : Nat) : Int) = (i : Int) + 1 := by omega
      rw [e1]; exact he'
    · have hb' : b < s.heap.objs.size := by
        have e' : b = N + 1 ∨ b = N := by simpa using hb
        rcases e' with z | z
        · rw [z]; exact hel
        · rw [z]; exact Nat.lt_trans (Nat.lt_succ_self _) hel
      rw [upd_ne (Nat.ne_of_lt hb')]
      exact (hf b hb).1
  done := by
    intro X hP hw hK hc i pins s σ H E I hf st hg
    subst hP hw hK
    obtain ⟨⟨old, he⟩, hit⟩ := st
    obtain ⟨xs, hq, hx⟩ := hg
    obtain ⟨n1, P1, St1, D1, s1, e1, p1, b1⟩ := sc_draws I hc hq hit (fun x m => Nat.ne_of_lt (ha x m))
    obtain ⟨f0, f1, f2, f3, f4, f5⟩ := hf N (by simp)
    have e : i = n1 := by omega
    subst e
    exact wpAny_pyNext_enum_endD D1 he s1 fun h' eb => ⟨rfl, I.turned (t' := s.toks) (fun b o hb q => eb b o hb q) f0 f1 f3 f4 f5⟩
  self := fun A i s Q E st h => let ⟨⟨_, he⟩, _⟩ := st; wpAny_pyIter_enum he h
def iEnumS (K : PySem.W.Frag) (ta : TA) : TI := fun σ H R => ta σ H fun vs H1 => ∃ a xs, vs = [Sc.v a] ∧ (∀ t, a ≠ .tup t) ∧ a.xs K H1 xs ∧ R (IteS K a) H1
theorem pi_enumS {X : Cx} {e : Expr} {ta : TA} {p pos tpos : Pos} {elts : List Expr} {kk : Nat} (hg : Gl X "enumerate") (hm : X.mg "enumerate" = none) (ha : PA X [e] ta) (hs : starEach [e] X.env = [(false, eval e X.env)] := by rfl) :
    PI X (.Tuple elts kk tpos) (.Call (.Name "enumerate" p) [e] [] pos) (iEnumS X.K ta) := by
  refine ⟨fun pins s σ H R I h => ?_⟩
  refine Call_ (ld_blt I hg hm boot_enumerate (PyProof.Rows.callWith_type1 (thn (ha.run pos pins s σ H _ I h) fun us s1 ⟨vs, H1, I1, r1, q1⟩ => ?_) hs rfl))
  obtain ⟨a, xs, ex, nt, hq, q⟩ := q1
  subst ex
  have fin : ∀ (h' : Heap) (t : Tok), (∀ x ∈ a.fp, x < s1.heap.objs.size) → IsEnum h' (s1.heap.objs.size + 1) s1.heap.objs.size 0 .none → a.it t s1.heap.objs.size 0 h' → (∀ b o, s1.heap.get? b = some o → h'.get? b = some o) →
      PIE X pins σ (.Tuple elts kk tpos) R (.ref (s1.heap.objs.size + 1)) { s1 with heap := h' } := fun h' t hfp he hit hk => by
    have I2 : Inv X pins σ H1 { s1 with heap := h' } := I1.kept (t' := s1.toks) hk
    refine ⟨s1.heap.objs.size + 1, [s1.heap.objs.size + 1, s1.heap.objs.size], _, _, H1, rfl, I2, turn_enumS t hfp, ⟨⟨.none, he⟩, hit⟩, fun b hb => ?_, q⟩
    have e' : b = s1.heap.objs.size + 1 ∨ b = s1.heap.objs.size := by simpa using hb
    have hle : s1.heap.objs.size ≤ b := by
      rcases e' with z | z
      · rw [z]; exact Nat.le_add_right _ _
      · rw [z]; exact Nat.le_refl _
    exact I1.fpOk hle (I1.hok.fresh hle)
  cases r1 with
  | cons r rr =>
    cases rr
    cases a with
    | txt x =>
      obtain ⟨t, rfl⟩ := r
      exact call_enumerate_str fun h' he hit hsz hk => wpAny_pyIter_enum he (fin h' t (by intro b hb; simp [Sc.fp] at hb) he hit hk)
    | lst a =>
      obtain ⟨its, rv, p', hz⟩ := I1.list (show SqL X.K H1 a xs from hq)
      cases r
      refine call_enumerate_list p'.isList fun h' he hit hsz hk => wpAny_pyIter_enum he (fin h' 0 (fun b hb => ?_) he hit hk)
      have e : b = a := by simpa [Sc.fp] using hb
      rw [e]
      exact p'.lt
    | tup a => exact absurd rfl (nt a)

/-! ### over data -/
/-- the items of data -/
def itemsD : PyData → Option (List PyData)
  | .str x => some (x.cps.toList.map sg)
  | .list ds => some ds
  | .tuple ds => some ds
  | _ => none
theorem va_signs {K : PySem.W.Frag} {H : Hp} : ∀ cs : List Nat, VaAll K H (cs.map fun c => V.str ⟨#[c]⟩) (cs.map sg)
  | [] => .nil
  | c :: cs => .cons (.str _) (va_signs cs)
theorem va_sc {K : PySem.W.Frag} {pool : Hp} {v : V} {d : PyData} {ds : List PyData} (h : Va K pool v d) (e : itemsD d = some ds) : ∃ (a : Sc) (xs : List V), v = a.v ∧ (∀ H, Same pool H → a.xs K H xs) ∧ VaAll K pool xs ds ∧ ((∀ t, d ≠ .tuple t) → ∀ t, a ≠ .tup t) := by
  cases h with
  | str x => cases e; exact ⟨.txt x, _, rfl, fun _ _ => rfl, va_signs _, fun _ _ => (nomatch ·)⟩
  | lst ha hs => cases e; exact ⟨.lst _, _, rfl, fun H s => SqL.of (s _ _ ha), hs, fun _ _ => (nomatch ·)⟩
  | tup ha hs => cases e; exact ⟨.tup _, _, rfl, fun H s => SqT.up s ha, hs, fun n _ => absurd rfl (n _)⟩
  | non => cases e
  | bl b => cases e
  | int i => cases e
  | dct ha => cases e
  | ptr a => cases e
  | dcf _ _ _ => cases e
  | dtf _ _ _ => cases e
/-- a pair -/
abbrev pr2 (x y : PyData) : PyData := .tuple [x, y]
theorem sc_get {K : PySem.W.Frag} {L : List Addr} {pool H : Hp} {a : Sc} {xs : List V} {ds : List PyData} {i : Nat} {d : PyData} {v : V} (hx : ∀ H, Same pool H → a.xs K H xs) (hv : VaAll K pool xs ds) (s : Same pool (off L H)) (hd : ds[i]? = some d) (y : ∀ ys, a.xs K H ys → ys[i]? = some v) : Va K (off L H) v d := by
  obtain ⟨v2, e, r⟩ := hv.at hd
  have := y xs (hx H (fun b o q => (off_some (s b o q)).2))
  rw [e] at this
  cases this
  exact r.up s
theorem walk_enumS {K : PySem.W.Frag} {pool : Hp} {a : Sc} {xs : List V} {ds : List PyData} (hx : ∀ H, Same pool H → a.xs K H xs) (hv : VaAll K pool xs ds) : WalkD K pool (IteS K a) (ds.mapIdx fun i d => pr2 (nn i) d) where
  go := fun i H hi s => ⟨xs, hx H s, by rw [hv.length]; simpa using hi⟩
  yld := fun i d H v H' L hd hL s y => by
    obtain ⟨T, x, rfl, hT, rfl, y⟩ := y
    have sm := same_new (o := .tup [.int (i : Nat), x]) hT
    refine ⟨sm, ?_⟩
    rw [List.getElem?_mapIdx] at hd
    obtain ⟨d1, h1, rfl⟩ := Option.map_eq_some_iff.mp hd
    have r := sc_get hx hv s h1 y
    exact .tup (.inl (.inl (off_upd (new_out hL hT)))) (.cons (.int _) (.cons (r.up (XT.same sm)) .nil))
  stop := fun H s => ⟨xs, hx H s, by rw [hv.length]; simp⟩
section
variable {X : Cx} {W : Wd} {Γ : List DV} {μ : Mu} {α β : Type} {a b : Expr} {pos p tpos : Pos} {elts : List Expr} {kk : Nat} {d d2 : PyData} {enc : α → PyData} {enc2 : β → PyData} {xs : List α} {ys : List β}
/-- enumerate(text), enumerate(list): pairs of place and item -/
theorem it_enum (h : Ed X W Γ μ a d) (hm : X.mg "enumerate" = none) (e : itemsD d = some (xs.map enc)) (hd : ∀ t, d ≠ .tuple t := by intro _; nofun) (hg : Gl X "enumerate" := by rfl) (hs : starEach [a] X.env = [(false, eval a X.env)] := by rfl) :
    IterD X W Γ μ (.Tuple elts kk tpos) (.Call (.Name "enumerate" p) [a] [] pos) (fun q : Nat × α => pr2 (nn q.1) (enc q.2)) (xs.mapIdx Prod.mk) := ⟨_, pi_enumS hg hm wA.pa hs, fun σ H R R' k => (ea_cons h ea_nil (by rw [hs]; rfl)) σ H R _ fun vs H1 R1 e1 r => by
  cases r with
  | cons r rr =>
    cases rr
    obtain ⟨sc, vs, rfl, h1, h2, h3⟩ := va_sc r e
    refine ⟨sc, vs, rfl, h3 hd, h1 H1 same_off, k _ _ H1 rfl R1 e1 ?_⟩
    have z := walk_enumS h1 h2
    have e : ((xs.map enc).mapIdx fun i d => pr2 (nn i) d) = (xs.mapIdx Prod.mk).map fun q : Nat × α => pr2 (nn q.1) (enc q.2) := by
      apply List.ext_getElem?
      intro i
      simp only [List.getElem?_mapIdx, List.getElem?_map, Option.map_map]
      rfl
    rw [e] at z
    exact z⟩
end
end HW
set_option maxHeartbeats 4000000
namespace HW
open PySem PySem.Spec PyProof.Rows L2
open SX (S)
/-! ### the distinct items, as they are first met -/
section
variable {α : Type} [DecidableEq α]
def uqS (acc : List α) (k : α) : List α := if k ∈ acc then acc else acc ++ [k]
def uq (ks : List α) : List α := ks.foldl uqS []
theorem uq_snoc (ks : List α) (k : α) : uq (ks ++ [k]) = uqS (uq ks) k := by unfold uq; rw [List.foldl_append]; rfl
theorem mem_uqS {acc : List α} {k x : α} : x ∈ uqS acc k ↔ x ∈ acc ∨ x = k := by
  unfold uqS
  by_cases h : k ∈ acc
  · rw [if_pos h]
    exact ⟨.inl, fun q => q.elim id fun e => e ▸ h⟩
  · rw [if_neg h, List.mem_append, List.mem_singleton]
theorem mem_foldl_uqS {x : α} : ∀ {ks acc : List α}, x ∈ ks.foldl uqS acc ↔ x ∈ acc ∨ x ∈ ks
  | [], acc => by simp
  | k :: ks, acc => by
    rw [List.foldl_cons, mem_foldl_uqS, mem_uqS, List.mem_cons, or_assoc]
theorem mem_uq {x : α} {ks : List α} : x ∈ uq ks ↔ x ∈ ks := by unfold uq; rw [mem_foldl_uqS]; simp
theorem nodup_uqS {acc : List α} {k : α} (h : acc.Nodup) : (uqS acc k).Nodup := by
  unfold uqS
  by_cases q : k ∈ acc
  · rw [if_pos q]; exact h
  · rw [if_neg q]
    exact List.nodup_append.mpr ⟨h, by simp, fun a ha b hb => by rw [List.mem_singleton] at hb; rintro rfl; exact q (hb ▸ ha)⟩
theorem nodup_foldl_uqS : ∀ {ks acc : List α}, acc.Nodup → (ks.foldl uqS acc).Nodup
  | [], _, h => h
  | k :: ks, _, h => nodup_foldl_uqS (ks := ks) (nodup_uqS h)
theorem nodup_uq (ks : List α) : (uq ks).Nodup := nodup_foldl_uqS List.nodup_nil
theorem len_foldl_uqS : ∀ (ks acc : List α), (ks.foldl uqS acc).length ≤ acc.length + ks.length
  | [], acc => Nat.le_refl _
  | k :: ks, acc => by
    rw [List.foldl_cons]
    have h := len_foldl_uqS ks (uqS acc k)
    have h2 : (uqS acc k).length ≤ acc.length + 1 := by
      unfold uqS
      split
      · omega
      · simp
    rw [List.length_cons]
    omega
theorem len_uq (ks : List α) : (uq ks).length ≤ ks.length := by
  have h := len_foldl_uqS ks []
  simpa [uq] using h
theorem foldl_uqS_nodup : ∀ {ks acc : List α}, (acc ++ ks).Nodup → ks.foldl uqS acc = acc ++ ks
  | [], acc, _ => by simp
  | k :: ks, acc, h => by
    have hk : k ∉ acc := fun q => (List.nodup_append.mp h).2.2 k q k List.mem_cons_self rfl
    rw [List.foldl_cons]
    have e : uqS acc k = acc ++ [k] := if_neg hk
    rw [e, foldl_uqS_nodup (by rw [List.append_assoc]; exact h), List.append_assoc]
    rfl
theorem uq_nodup {ks : List α} (h : ks.Nodup) : uq ks = ks := by
  have := foldl_uqS_nodup (ks := ks) (acc := []) (by simpa using h)
  simpa [uq] using this
theorem uq_len_iff {ks : List α} : (uq ks).length = ks.length ↔ ks.Nodup := by
  constructor
  · intro h
    -- count strictly falls at a repeated item
    have key : ∀ (ks acc : List α), acc.Nodup → (ks.foldl uqS acc).length = acc.length + ks.length → (acc ++ ks).Nodup := by
      intro ks
      induction ks with
      | nil => intro acc ha _; simpa using ha
      | cons k ks ih =>
        intro acc ha e
        rw [List.foldl_cons] at e
        by_cases q : k ∈ acc
        · have e2 : uqS acc k = acc := if_pos q
          rw [e2] at e
          have := len_foldl_uqS ks acc
          rw [List.length_cons] at e
          omega
        · have e2 : uqS acc k = acc ++ [k] := if_neg q
          rw [e2] at e
          have z := ih (acc ++ [k]) (by rw [← e2]; exact nodup_uqS ha) (by rw [e]; simp; omega)
          rw [List.append_assoc] at z
          exact z
    have z := key ks [] List.nodup_nil (by simpa [uq] using h)
    simpa using z
  · intro h
    rw [uq_nodup h]
end
/-! ### set(list) of keys of one kind -/
section
variable {prog : Program} {w : World} {K : Type} [DecidableEq K] {knd : KeyKind prog w K} {A : Around} {R : Result → Shared → Prop} {I : Addr} {fp wr : List Addr} {G : Array GenState → Array GenState → Prop} {n : Nat} {P : Nat → Value → Prop} {St : Nat → Shared → Prop}
theorem set_congr {h : Heap} {a : Addr} {S S' : K → Bool} {n n' : Nat} (hS : h.SetOf knd a S n) (e : ∀ k, S k = S' k) (en : n = n') : h.SetOf knd a S' n' := by
  have : S = S' := funext e
  subst this; subst en; exact hS
theorem set_loop (W : WalksS prog w A.in1 I fp wr G n P St) (S : Addr) (hSf : S ∉ fp) (ks : List K) (hn : ks.length = n) (hb : n + 1 < scanBound)
    (hval : ∀ i v, P i v → ∃ k, ks[i]? = some k ∧ knd.is k v = true ∧ v.scannable = true) :
    ∀ (k i : Nat) (s : Shared), n - i = k → i ≤ n → St i s →
      s.heap.SetOf knd S (fun k' => decide (k' ∈ ks.take i)) (uq (ks.take i)).length →
      (∀ s', Moved (S :: wr) G s s' → s'.heap.SetOf knd S (fun k' => decide (k' ∈ ks)) (uq ks).length → R (.ok (.ret .none)) s') →
      codeAny (model prog w) A (.builtin "set.update.loop" ⟨[.ref S, .ref I], []⟩) R s := by
  have hSw : S ∉ wr := fun h => hSf (W.sub _ h)
  have hsub : ∀ b ∈ wr, b ∈ S :: wr := fun b hb => List.mem_cons_of_mem _ hb
  intro k
  induction k with
  | zero =>
    intro i s hk hi hst hS hR
    have hin : i = n := by omega
    subst hin
    refine codeAny_builtin PyProof.Rows.F.entry_set_update_loop ?_
    rw [Around.under_plainId PyProof.Rows.F.plain_set_update_loop _]
    show wpAny _ A.in1 (pyNext (.ref I) >>= _) _ _ s
    refine wpAny_bind (W.done s _ _ hst fun s' hm => ?_)
    show wpAny _ A.in1 (ret Value.none) _ _ s'
    rw [← hn, List.take_length] at hS
    exact wpAny_pure (hR s' (hm.mono hsub) (by
      obtain ⟨o, es, ep, t, ho, rest⟩ := hS
      exact ⟨o, es, ep, t, hm.heap S _ hSw ho, rest⟩))
  | succ k ih =>
    intro i s hk hi hst hS hR
    have hlt : i < n := by omega
    refine codeAny_builtin PyProof.Rows.F.entry_set_update_loop ?_
    rw [Around.under_plainId PyProof.Rows.F.plain_set_update_loop _]
    show wpAny _ A.in1 (pyNext (.ref I) >>= _) _ _ s
    refine wpAny_bind (W.item i s _ _ hlt hst fun v s' hP hst' hm => ?_)
    obtain ⟨q, hq, his, hsc⟩ := hval i v hP
    have hS' : s'.heap.SetOf knd S (fun k' => decide (k' ∈ ks.take i)) (uq (ks.take i)).length := by
      obtain ⟨o, es, ep, tb, ho, rest⟩ := hS
      exact ⟨o, es, ep, tb, hm.heap S _ hSw ho, rest⟩
    show wpAny _ A.in1 (holding [v] (setAdd S v) >>= _) _ _ s'
    refine wpAny_bind (wpAny_holding ?_)
    unfold setAdd
    refine wpAny_holding ?_
    refine wpAny_bind (knd.pyHash (k := q) his ?_)
    have hroom : (uq (ks.take i)).length + 1 < scanBound := by
      have h1 := len_uq (ks.take i)
      have h2 : (ks.take i).length ≤ i := by simp; omega
      omega
    refine wpAny_setAddHashed_of (knd := knd) (s := { s' with toks := s'.toks + 1 }) his hsc hS' hroom fun h' hsb hS2 => ?_
    have et : ks.take (i + 1) = ks.take i ++ [q] := by
      rw [List.take_add_one, hq]
      rfl
    have hSi : h'.SetOf knd S (fun k' => decide (k' ∈ ks.take (i + 1))) (uq (ks.take (i + 1))).length := by
      refine set_congr hS2 (fun k' => ?_) ?_
      · rw [et]
        simp only [List.mem_append, List.mem_singleton]
        by_cases h1 : k' ∈ ks.take i <;> by_cases h2 : k' = q <;> simp [h1, h2]
      · rw [et, uq_snoc]
        unfold uqS
        by_cases h1 : q ∈ ks.take i
        · rw [if_pos (decide_eq_true h1), if_pos (mem_uq.mpr h1)]
        · rw [if_neg (by simpa using h1), if_neg (fun z => h1 (mem_uq.mp z)), List.length_append]
          rfl
    refine wpAny_pure ⟨plainId_quiet PyProof.Rows.F.plain_set_update_loop _, ih (i + 1) _ (by omega) hlt (W.frame _ s' _ _ hst' (Nat.le_succ _) fun b hb o e => ?_) hSi fun s'' hm'' hS'' => ?_⟩
    · rw [hsb.2 b (fun h : b = S => hSf (by rw [← h]; exact hb))]; exact e
    · refine hR s'' (Moved.trans W.gtrans ((hm.mono hsub).then_heap (Nat.le_succ _) fun b o hb e => ?_) hm'') hS''
      rw [hsb.2 b (fun h : b = S => hb (by rw [h]; exact List.mem_cons_self))]; exact e
end
section
variable {prog : Program} {w : World} {K : Type} [DecidableEq K] {knd : KeyKind prog w K} {A : Around} {E : Value → Shared → Prop} {s : Shared}
set_option maxHeartbeats 3200000 in
theorem call_setK {l : Addr} {items : Array Value} {ks : List K} {Q : Value → Shared → Prop}
    (hh : A.handled = none) (hl : s.heap.IsList l items) (hsz : ks.length = items.size) (hval : ∀ (i : Nat) (v : Value), items[i]? = some v → ∃ k, ks[i]? = some k ∧ knd.is k v = true ∧ v.scannable = true) (hb : items.size + 1 < scanBound)
    (h : ∀ (h' : Heap) (tk : Nat), h'.SetOf knd s.heap.objs.size (fun k' => decide (k' ∈ ks)) (uq ks).length →
      (∀ b o, b < s.heap.objs.size → s.heap.get? b = some o → h'.get? b = some o) → Q (.ref s.heap.objs.size) { s with heap := h', toks := tk }) :
    wpAny (model prog w) A (call (.type "set") [.ref l]) Q E s := by
  obtain ⟨c, tl, hmro⟩ := PySem.F.called_set.mro
  have hmade := PySem.F.called_set.made
  have hsub := PySem.F.called_set.sub
  refine wpAny_call (codeAny_of_tree ?_)
  show wpAny _ _ (callAny (.type "set") _) _ _ _
  refine wpAny_pure ⟨Code.quiet_builtin _ (by decide +kernel), codeAny_builtin PySem.F.entry_type_call ?_⟩
  rw [Around.under_plain (weight_type_call_type "set" [.ref l] []) rfl]
  have h1 := PySem.F.called_set.notType
  have h2 := PySem.F.called_set.canCreate
  have hct := PySem.F.typeCall_set_1 (.ref l)
  repeat (any_goals (first | assumption | wp_step))
  refine codeAny_mono (code_set_new_1 (.ref l) (E := E) (Q₁ := fun obj s₁ => ∃ led : Bool, obj = .ref s.heap.objs.size ∧ s₁ = { s with heap := s.heap.push { cls := .type "set", dict := none, data := .set #[] 0 (.fresh 0 0 led) } }) fun led => ⟨led, rfl, rfl⟩) fun r s₁ hr => ?_
  cases r with
  | error e => exact hr
  | ok fl =>
    cases fl with
    | ret obj =>
      obtain ⟨led, rfl, rfl⟩ := hr
      have hS : (s.heap.push { cls := .type "set", dict := none, data := .set #[] 0 (.fresh 0 0 led) }).get? s.heap.objs.size = some { cls := .type "set", dict := none, data := .set #[] 0 (.fresh 0 0 led) } := Heap.get?_push_size _ rfl
      have hT : Shared.TypeIs { s with heap := s.heap.push { cls := .type "set", dict := none, data := .set #[] 0 (.fresh 0 0 led) } } (.ref s.heap.objs.size) "set" := ⟨_, hS, rfl⟩
      have hli := PySem.F.called_set.init.lookup
      have hbi := PySem.F.called_set.init.bind (.ref s.heap.objs.size)
      repeat (any_goals (first | assumption | wp_step))
      refine codeAny_mono (codeAny_call_builtin (R := wants (fun r s₂ => r = .none ∧ ∃ h' tk, s₂ = { s with heap := h', toks := tk } ∧
          h'.SetOf knd s.heap.objs.size (fun k' => decide (k' ∈ ks)) (uq ks).length ∧
          (∀ b o, b < s.heap.objs.size → s.heap.get? b = some o → h'.get? b = some o)) E) PySem.F.called_set.init.plain PySem.F.entry_set_init (check_set_init_1 hT ?_)) fun r₂ s₂ hr₂ => ?_
      · obtain ⟨ol, hol, hcl, nl, hdl⟩ := hl
        obtain ⟨ocls, odict, odata, oslots⟩ := ol
        simp only at hcl hdl
        subst hcl; subst hdl
        have hol' : (s.heap.push { cls := .type "set", dict := none, data := .set #[] 0 (.fresh 0 0 led) }).get? l = some { cls := .type "list", dict := odict, data := .seq items nl, slots := oslots } := Heap.get?_push_of_some _ hol
        have hsls := PySem.F.sub_list_set
        have hslf := PySem.F.sub_list_frozenset
        have hne : (Value.type "list" == Value.type "dict") = false := by decide
        have hl1 : (s.heap.push { cls := .type "set", dict := none, data := .set #[] 0 (.fresh 0 0 led) }).IsList l items := ⟨_, hol', rfl, nl, rfl⟩
        unfold Builtin.«set.__init__» noKeywords Builtin.Frozenset.updateFrom
        generalize hPI : pyIter = PI
        wp_walk
        subst hPI
        refine wpAny_pyIter_list hl1 ?_
        refine wpAny_bind (wpAny_runValue ?_)
        have hlS : l < s.heap.objs.size := Heap.lt_size hol
        have hh3 : A.in1.in1.in1.handled = none := by simp [hh]
        have hneI : l ≠ (s.heap.push { cls := .type "set", dict := none, data := .set #[] 0 (.fresh 0 0 led) }).objs.size := by
          rw [Heap.size_push]; exact Nat.ne_of_lt (Nat.lt_succ_of_lt hlS)
        have hSf : s.heap.objs.size ∉ [(s.heap.push { cls := .type "set", dict := none, data := .set #[] 0 (.fresh 0 0 led) }).objs.size, l] := by
          rw [Heap.size_push]; simp only [List.mem_cons, List.mem_singleton, List.not_mem_nil, or_false, not_or]
          exact ⟨Nat.ne_of_lt (Nat.lt_succ_self _), Nat.ne_of_gt hlS⟩
        refine set_loop (knd := knd) ((Walks.list hh3 _ l hneI items).toS) s.heap.objs.size
          hSf ks hsz hb hval (items.size - 0) 0 _ (by omega) (Nat.zero_le _)
          ⟨⟨_, Heap.get?_push_size _ rfl, rfl, rfl⟩, (hl1.push _)⟩ ?hS0 ?hR
        case hS0 =>
          have hget : ((s.heap.push { cls := .type "set", dict := none, data := .set #[] 0 (.fresh 0 0 led) }).push { cls := .type "list_iterator", data := .fields #[.ref l, .int 0 0] }).get? s.heap.objs.size
              = some { cls := .type "set", dict := none, data := .set #[] 0 (.fresh 0 0 led) } := Heap.get?_push_of_some _ hS
          exact set_congr ((PyProof.Rows.setObjOf_fresh (knd := knd) led).setOf hget (by unfold scanBound; omega)) (fun k => by simp) rfl
        case hR =>
          intro s' hm hS'
          obtain ⟨h', g', d', tk', os'⟩ := s'
          have eg : g' = s.gens := hm.gens
          have ed : d' = s.drawn := hm.drawn
          have eo : os' = s.os := hm.os
          subst eg; subst ed; subst eo
          show wpAny _ _ _ _ _ _
          refine wpAny_pure ?_
          show wpAny _ _ (ret Value.none) _ _ _
          refine wpAny_pure ⟨rfl, h', tk', rfl, hS', fun b o hb e => ?_⟩
          have hb1 : b ≠ s.heap.objs.size := Nat.ne_of_lt hb
          have hb2 : b ≠ (s.heap.push { cls := .type "set", dict := none, data := .set #[] 0 (.fresh 0 0 led) }).objs.size := by
            rw [Heap.size_push]; exact Nat.ne_of_lt (Nat.lt_succ_of_lt hb)
          exact hm.heap b o (by simp only [List.mem_cons, List.mem_singleton, List.not_mem_nil, or_false, not_or]; exact ⟨hb1, hb2⟩) (Heap.get?_push_of_some _ (Heap.get?_push_of_some _ e))
      · cases r₂ with
        | error e => exact hr₂
        | ok fl₂ =>
          cases fl₂ with
          | ret r =>
            obtain ⟨rfl, h', tk, rfl, hS', hk'⟩ := hr₂
            repeat (any_goals (first | assumption | wp_step))
            exact h _ _ hS' hk'
          | _ => exact hr₂.elim
    | _ => exact hr.elim
end
/-! ### len(set(texts)) -/
def tLenSetS (K : PySem.W.Frag) (ta : TE) : TE := fun σ H Q => ta σ H fun x H1 => ∃ (l : Addr) (ws : List Str), x = .ref l ∧ SqL K H1 l (ws.map V.str) ∧ ws.length ≤ 4000 ∧ Q (.int ((uq ws).length : Nat)) H1
theorem pe_lenSetS {X : Cx} {a : Expr} {ta : TE} {p p2 q pos : Pos} (hg : Gl X "len") (hm : X.mg "len" = none) (hg2 : Gl X "set") (hm2 : X.mg "set" = none) (ha : PE X a ta) (hc : X.calm = true)
    (na : starEach [a] X.env = (false, eval a X.env) :: starEach [] X.env := by rfl) : PE X (.Call (.Name "len" p) [.Call (.Name "set" p2) [a] [] q] [] pos) (tLenSetS X.K ta) := by
  refine ⟨fun pins s σ H Q I h => ?_⟩
  refine Call_ (ld_blt I hg hm boot_len ?_)
  refine PyProof.Rows.callWith_builtin1 (PyProof.Rows.args_cons ?_ rfl) rfl rfl
  refine Call_ (ld_blt I hg2 hm2 boot_set ?_)
  refine PyProof.Rows.callWith_type1 (PyProof.Rows.args_cons (thn (ha.run pins s σ H _ I h) fun v s1 ⟨x, H1, I1, r1, q1⟩ => PyProof.Rows.args_nil ?_) na) na rfl
  obtain ⟨l, ws, rfl, hq, hl, q1⟩ := q1
  cases r1
  obtain ⟨its, r, pl, hz⟩ := I1.list hq
  have hlen : ws.length = its.toArray.size := by rw [List.size_toArray, ← r.length, List.length_map]
  refine call_setK (knd := PySem.strKind X.prog X.w) (ks := ws) (I1.ok.hd hc) pl.isList hlen (fun i v hv => ?_) (by rw [← hlen]; unfold scanBound; omega) fun h' tk hS hk => ?_
  · have hv' : its[i]? = some v := by simpa using hv
    have hli : i < ws.length := by
      have := (List.getElem?_eq_some_iff.mp hv').1
      rw [hlen, List.size_toArray]
      exact this
    have hw : ws[i]? = some ws[i] := List.getElem?_eq_getElem hli
    have hx : (ws.map V.str)[i]? = some (.str ws[i]) := by rw [List.getElem?_map, hw]; rfl
    obtain ⟨u, hu, ru⟩ := r.get hx
    rw [hv'] at hu
    cases hu
    obtain ⟨t, rfl⟩ := ru
    exact ⟨_, hw, strKind_is _ _ _ _, rfl⟩
  refine PyProof.Rows.args_nil ?_
  have hu := len_uq ws
  obtain ⟨o, es, ep, t, ho, hex, hd, _, _, _, hf, hn⟩ := hS
  have I2 : Inv X pins σ H1 { s1 with heap := h', toks := tk } := I1.kept fun b o e => hk b o (Heap.lt_size e) e
  exact call_len_set ho hex hd hf (by rw [hn] <;> omega) ⟨.int (uq ws).length, H1, I2.tok _, ⟨_, by rw [hn]⟩, q1⟩
section
variable {X : Cx} {W : Wd} {Γ : List DV} {μ : Mu} {a : Expr} {p p2 q pos : Pos} {ds : List PyData} {ws : List (List Nat)}
theorem S_inj {a b : List Nat} (h : S a = S b) : a = b := by
  have e : decide (V.str (S a) = V.str (S b)) = decide (a = b) := S_eq
  rw [h] at e
  simpa using e
theorem mem_S {w : List Nat} {ws : List (List Nat)} : S w ∈ ws.map S ↔ w ∈ ws := by
  rw [List.mem_map]
  constructor
  · rintro ⟨v, hv, e⟩
    rw [← S_inj e]
    exact hv
  · exact fun h => ⟨w, h, rfl⟩
theorem uq_S (ws : List (List Nat)) : (uq (ws.map S)).length = (uq ws).length := by
  have key : ∀ (ws acc : List (List Nat)), (ws.map S).foldl uqS (acc.map S) = (ws.foldl uqS acc).map S := by
    intro ws
    induction ws with
    | nil => intro acc; rfl
    | cons w ws ih =>
      intro acc
      rw [List.map_cons, List.foldl_cons, List.foldl_cons]
      have e : uqS (acc.map S) (S w) = (uqS acc w).map S := by
        unfold uqS
        by_cases h : w ∈ acc
        · rw [if_pos h, if_pos (mem_S.mpr h)]
        · rw [if_neg h, if_neg (fun z => h (mem_S.mp z)), List.map_append]
          rfl
      rw [e, ih]
  have e := key ws []
  unfold uq
  rw [show ([] : List Str) = ([] : List (List Nat)).map S from rfl, e, List.length_map]
/-- len(set(texts)) -/
theorem ed_lenSet (ha : Ed X W Γ μ a (.list ds)) (hm : X.mg "len" = none) (hm2 : X.mg "set" = none) (hc : X.calm = true) (e : ds = ws.map fun w => .str (S w)) (hl : ws.length ≤ 4000) (hg : Gl X "len" := by rfl) (hg2 : Gl X "set" := by rfl)
    (na : starEach [a] X.env = (false, eval a X.env) :: starEach [] X.env := by rfl) : Ed X W Γ μ (.Call (.Name "len" p) [.Call (.Name "set" p2) [a] [] q] [] pos) (nn (uq ws).length) := fun σ H R Q k => by
  refine (pe_lenSetS hg hm hg2 hm2 wE.pe hc na).w (ha σ H R _ fun v H2 R2 e2 r2 => ?_)
  subst e
  cases r2 with
  | lst hl' hv =>
    have ev := vaAll_S hv
    refine ⟨_, ws.map S, rfl, by rw [← ev]; exact SqL.of (off_some hl').2, by simpa using hl, ?_⟩
    rw [uq_S]
    exact k _ H2 R2 e2 (.int _)
end
end HW
set_option maxHeartbeats 4000000
namespace HW
open PySem PySem.Spec PyProof.Rows L2
open SX (S)
section
variable {X : Cx} {W W0 : Wd} {Γ : List DV} {μ : Mu} {a : Expr} {i : Str} {pos : Pos}
theorem ed_S {p : Pos} {j} (l : List Nat) (e : i = S l := by decide +kernel) : Ed X W Γ μ (.Constant (.str i) j p) (.str (S l)) := e ▸ ed_str
theorem ed_gS {n z : Str} (l : List Nat) (hm : ∃ t, X.mg n = some (.str z t)) (e : z = S l := by decide +kernel) (hg : Gl X n := by rfl) (h1 : (n == ("__debug__" : Str)) = false := by decide) : Ed X W Γ μ (.Name n pos) (.str (S l)) := e ▸ ed_gstr hm hg h1
theorem run_end {P : PyData → Prop} {rt : VK} {bk ct : L2.St → Hp → Prop} (hp : P .none) (hW : Wle W0 W := by first | exact Wle.refl | assumption) : Run X W Γ μ [] ⟨fun _ H' => RetP X.K W0 P .non H', rt, bk, ct⟩ := run_nil fun σ H R => ⟨R.fr.down hW, .none, hp, .non⟩
theorem ed_neg {z : Int} (h : Ed X W Γ μ a (.int z)) : Ed X W Γ μ (.UnaryOp .USub a pos) (.int (-z)) := fun σ H R Q q => (pe_un un_neg wE.pe).w (h σ H R _ fun v H2 R2 e2 r => by
  cases r
  exact ⟨z, rfl, q _ H2 R2 e2 (.int _)⟩)
end
section
variable {X : Cx} {l : List Nat} {ds es : List PyData}
/-! ### tuples -/
theorem o_catT (h : ds.length + es.length ≤ 16777216) : OpD X (binaryOp .Add) (.tuple ds) (.tuple es) (.tuple (ds ++ es)) := OpR.to op_catA fun a b H Q ⟨L, hL, ha, hb, k⟩ => by
  cases ha with
  | tup ha hs =>
    cases hb with
    | tup hb ht =>
      refine ⟨_, _, _, _, rfl, rfl, SqT.up same_off ha, SqT.up same_off hb, by rw [hs.length, ht.length]; exact h, fun e => ?_, fun _ e => ?_, fun _ _ p hp => ?_⟩
      · subst e
        cases hs
        exact k _ _ (Same.refl _) (.tup hb ht)
      · subst e
        cases ht
        rw [List.append_nil] at k
        exact k _ _ (Same.refl _) (.tup ha hs)
      · exact k _ _ (same_new hp) (.tup (.inl (.inl (off_upd (new_out hL hp)))) ((hs.app ht).up (XT.same (same_new hp))))
end
end HW
set_option maxHeartbeats 4000000
namespace HW
open PySem PySem.Spec PyProof.Rows L2
open SX (S)
section
variable {X : Cx} {W : Wd} {Γ : List DV} {μ : Mu} {α : Type} {iter elt t : Expr} {scope : Scope} {pos p1 p2 tpos : Pos} {kk : Nat} {e1 e2 : α → PyData} {xs : List α} {n1 n2 : Str}
/-- [elt for n1, n2 in iter] -/
theorem lcP0 (k1 k2 : Nat) (hi : IterD X W Γ μ (.Tuple [.Name n1 p1, .Name n2 p2] kk tpos) iter (fun x => pr2 (e1 x) (e2 x)) xs) (hz : xs.length ≤ 16777216) (f : α → PyData)
    (he : ∀ x ∈ xs, ∀ W1, Wle W W1 → ∀ s H C cl fp, Ed (blkOf X scope s H C cl fp) W1 (((wipeD [k1, k2] Γ).set k1 (.d (e1 x))).set k2 (.d (e2 x))) μ elt (f x)) (hN : X.N.Nodup) (hn1 : X.N[k1]? = some n1 := by rfl) (hn2 : X.N[k2]? = some n2 := by rfl)
    (hv1 : ∀ s H C cl fp, Loc (blkOf X scope s H C cl fp).env.scope n1 := by intro _ _ _ _ _; first | exact Or.inl rfl | exact Or.inr rfl) (hf1 : ∀ s H C cl fp, (blkOf X scope s H C cl fp).fn n1 = true ∨ (blkOf X scope s H C cl fp).env.scope.names.lookup n1 = some .local := by intro _ _ _ _ _; first | exact .inr rfl | exact .inl rfl)
    (hv2 : ∀ s H C cl fp, Loc (blkOf X scope s H C cl fp).env.scope n2 := by intro _ _ _ _ _; first | exact Or.inl rfl | exact Or.inr rfl) (hf2 : ∀ s H C cl fp, (blkOf X scope s H C cl fp).fn n2 = true ∨ (blkOf X scope s H C cl fp).env.scope.names.lookup n2 = some .local := by intro _ _ _ _ _; first | exact .inr rfl | exact .inl rfl)
    (hcm : ∀ s H C cl fp, (blkOf X scope s H C cl fp).calm = true := by intro _ _ _ _ _; rfl)
    (hb : BlkOk X.N X.env.scope scope [(n1, k1), (n2, k2)] := by exact blkOk_by (by kernel_rfl)) :
    LcEv X W Γ μ elt (.Tuple [.Name n1 p1, .Name n2 p2] kk tpos) iter [] scope (fun ys => ys = xs.map f) := by
  have h := lc0 (E := fun x y => y = f x) (elt := elt) (scope := scope) [(n1, k1), (n2, k2)] hi (tg_pair (tg_name (K := X.K) k1) (tg_name k2))
    (fun s H C cl fp => pg_tup (hcm s H C cl fp) (pgs_cons (pg_name hN hn1 (hv1 s H C cl fp) (hf1 s H C cl fp)) (pgs_cons (pg_name hN hn2 (hv2 s H C cl fp) (hf2 s H C cl fp)) pgs_nil))) (fun _ _ x _ => ⟨e1 x, e2 x, rfl, trivial, trivial⟩) (fun _ e => e ▸ hz) (fun _ e x hx W1 l s H C cl fp => (he x (e ▸ hx) W1 l s H C cl fp).ev) hb (by simp)
  obtain ⟨wi, g, tt, te, own, h1, h2, h3, h4, h5, h6⟩ := h.ex
  exact ⟨wi, g, tt, te, own, h1, h2, h3, h4, h5, fun σ H R Q k => h6 σ H R Q fun ys v H2 ⟨l, e, hp⟩ => k ys v H2 (by rw [← e]; exact paired_map hp)⟩
/-- [elt for n1, n2 in iter if t] -/
theorem lcP1 (k1 k2 : Nat) (hi : IterD X W Γ μ (.Tuple [.Name n1 p1, .Name n2 p2] kk tpos) iter (fun x => pr2 (e1 x) (e2 x)) xs) (hz : xs.length ≤ 16777216) (c : α → Bool) (f : α → PyData)
    (ht : ∀ x ∈ xs, ∀ W1, Wle W W1 → ∀ s H C cl fp, EdT (blkOf X scope s H C cl fp) W1 (((wipeD [k1, k2] Γ).set k1 (.d (e1 x))).set k2 (.d (e2 x))) μ t (c x))
    (he : ∀ x ∈ xs, c x = true → ∀ W1, Wle W W1 → ∀ s H C cl fp, Ed (blkOf X scope s H C cl fp) W1 (((wipeD [k1, k2] Γ).set k1 (.d (e1 x))).set k2 (.d (e2 x))) μ elt (f x)) (hN : X.N.Nodup) (hn1 : X.N[k1]? = some n1 := by rfl) (hn2 : X.N[k2]? = some n2 := by rfl)
    (hv1 : ∀ s H C cl fp, Loc (blkOf X scope s H C cl fp).env.scope n1 := by intro _ _ _ _ _; first | exact Or.inl rfl | exact Or.inr rfl) (hf1 : ∀ s H C cl fp, (blkOf X scope s H C cl fp).fn n1 = true ∨ (blkOf X scope s H C cl fp).env.scope.names.lookup n1 = some .local := by intro _ _ _ _ _; first | exact .inr rfl | exact .inl rfl)
    (hv2 : ∀ s H C cl fp, Loc (blkOf X scope s H C cl fp).env.scope n2 := by intro _ _ _ _ _; first | exact Or.inl rfl | exact Or.inr rfl) (hf2 : ∀ s H C cl fp, (blkOf X scope s H C cl fp).fn n2 = true ∨ (blkOf X scope s H C cl fp).env.scope.names.lookup n2 = some .local := by intro _ _ _ _ _; first | exact .inr rfl | exact .inl rfl)
    (hcm : ∀ s H C cl fp, (blkOf X scope s H C cl fp).calm = true := by intro _ _ _ _ _; rfl)
    (hb : BlkOk X.N X.env.scope scope [(n1, k1), (n2, k2)] := by exact blkOk_by (by kernel_rfl)) :
    LcEv X W Γ μ elt (.Tuple [.Name n1 p1, .Name n2 p2] kk tpos) iter [t] scope (fun ys => ys = (xs.filter c).map f) := by
  have h := lc1 (E := fun x y => y = f x) (c := c) (t := t) (elt := elt) (scope := scope) [(n1, k1), (n2, k2)] hi (tg_pair (tg_name (K := X.K) k1) (tg_name k2))
    (fun s H C cl fp => pg_tup (hcm s H C cl fp) (pgs_cons (pg_name hN hn1 (hv1 s H C cl fp) (hf1 s H C cl fp)) (pgs_cons (pg_name hN hn2 (hv2 s H C cl fp) (hf2 s H C cl fp)) pgs_nil))) (fun _ _ x _ => ⟨e1 x, e2 x, rfl, trivial, trivial⟩) (fun _ e => e ▸ hz)
    (fun _ e x hx W1 l s H C cl fp => ht x (e ▸ hx) W1 l s H C cl fp) (fun _ e x hx hc W1 l s H C cl fp => (he x (e ▸ hx) hc W1 l s H C cl fp).ev) hb (by simp)
  obtain ⟨wi, g, tt, te, own, h1, h2, h3, h4, h5, h6⟩ := h.ex
  exact ⟨wi, g, tt, te, own, h1, h2, h3, h4, h5, fun σ H R Q k => h6 σ H R Q fun ys v H2 ⟨l, e, hp⟩ => k ys v H2 (by rw [← e]; exact paired_map hp)⟩
end
end HW
set_option maxHeartbeats 4000000
namespace HW
open PySem PySem.Spec PyProof.Rows L2
open SX (S)
section
variable {X : Cx} {W : Wd} {Γ : List DV} {μ : Mu} {α : Type} {iter elt t : Expr} {scope : Scope} {pos p : Pos} {enc : α → PyData} {n : Str} {P : List α → Prop} {E : α → PyData → Prop}
end
section
variable {X : Cx} {W : Wd} {Γ : List DV} {μ : Mu} {e o : Expr} {pos apos : Pos}
theorem sg_flat (cs : List Nat) : (cs.map fun c => [c]).flatten = cs := by
  induction cs with
  | nil => rfl
  | cons a r ih => rw [List.map_cons, List.flatten_cons, ih]; rfl
theorem sg_sum (cs : List Nat) : ((cs.map fun c => [c]).map List.length).sum = cs.length := by
  induction cs with
  | nil => rfl
  | cons a r ih => rw [List.map_cons, List.map_cons, List.sum_cons, ih, List.length_cons, Nat.add_comm]; rfl
/-- "".join of signs -/
theorem ev_joinC {Ws : List Nat → Prop} (ho : Ed X W Γ μ o (.str (S []))) (he : Ev X W Γ μ e (fun z => ∃ cs : List Nat, z = .list (cs.map sg) ∧ Ws cs)) (hz : ∀ cs, Ws cs → cs.length ≤ 16777216)
    (hs : starEach [e] X.env = [(false, eval e X.env)] := by rfl) (hbase : attributeBase o "join" X.env (eval o X.env) = eval o X.env := by rfl) (hline : (apos.endLine == pos.line) = true := by rfl) :
    Ev X W Γ μ (.Call (.Attribute o "join" apos) [e] [] pos) (fun z => ∃ cs, z = .str (S cs) ∧ Ws cs) :=
  (ev_join (Ws := fun ws => ∃ cs : List Nat, ws = cs.map (fun c => [c]) ∧ Ws cs) ho (he.imp fun d ⟨cs, e1, e2⟩ => ⟨cs.map fun c => [c], by rw [e1, List.map_map]; rfl, cs, rfl, e2⟩) (fun ws ⟨cs, e1, e2⟩ => by rw [e1, sg_sum]; exact hz cs e2) hs hbase hline).imp fun d ⟨ws, e1, cs, e2, e3⟩ => ⟨cs, by rw [e1, e2, sg_flat], e3⟩
theorem ed_joinC (cs : List Nat) {ds : List PyData} (ho : Ed X W Γ μ o (.str (S []))) (he : Ed X W Γ μ e (.list ds)) (hd : ds = cs.map sg) (hz : cs.length ≤ 16777216)
    (hs : starEach [e] X.env = [(false, eval e X.env)] := by rfl) (hbase : attributeBase o "join" X.env (eval o X.env) = eval o X.env := by rfl) (hline : (apos.endLine == pos.line) = true := by rfl) :
    Ed X W Γ μ (.Call (.Attribute o "join" apos) [e] [] pos) (.str (S cs)) :=
  (ev_joinC (Ws := fun z => z = cs) ho (he.evP ⟨cs, by rw [hd], rfl⟩) (fun _ q => q ▸ hz) hs hbase hline |>.imp (B := fun z => z = .str (S cs)) fun d ⟨w, e1, e2⟩ => by rw [e1, e2]).ed
end
/-! ### to forget -/
def wk : List DV → List DV → Prop
  | [], [] => True
  | a :: as, b :: bs => (b = .no ∨ b = a) ∧ wk as bs
  | _, _ => False
theorem wk.at : ∀ {Γ Γ' : List DV}, wk Γ Γ' → Γ.length = Γ'.length ∧ ∀ (i : Nat) (dv : DV), Γ'[i]? = some dv → dv = .no ∨ Γ[i]? = some dv
  | [], [], _ => ⟨rfl, fun i dv h => by simp at h⟩
  | a :: as, b :: bs, h => by
    obtain ⟨h1, h2⟩ := wk.at h.2
    refine ⟨by rw [List.length_cons, List.length_cons, h1], fun i dv e => ?_⟩
    cases i with
    | zero =>
      cases e
      exact h.1.imp id fun q => by rw [q]; rfl
    | succ i => exact h2 i dv (by simpa using e)
theorem Slots.weak {K : PySem.W.Frag} {H : Hp} {σ : L2.St} {Γ Γ' : List DV} (s : Slots K H σ Γ) (h : wk Γ Γ') : Slots K H σ Γ' := by
  obtain ⟨h1, h2⟩ := wk.at h
  refine ⟨s.len.trans h1, fun i dv e => ?_⟩
  rcases h2 i dv e with q | q
  · subst q
    have hl : i < σ.length := by
      rw [s.len, h1]
      exact (List.getElem?_eq_some_iff.mp e).1
    exact ⟨σ[i], List.getElem?_eq_getElem hl, trivial⟩
  · exact s.at_ i dv q
section
variable {X : Cx} {W : Wd} {Γ Γ' : List DV} {μ : Mu} {sts : List Stmt} {D : Ends}
theorem run_weak (h : Run X W Γ' μ sts D) (w : wk Γ Γ') : Run X W Γ μ sts D := fun σ H R => h σ H ⟨R.wd, R.fr, R.sl.weak w, R.mu, R.nd⟩
/-- the end of a turn, the state forgotten down to Γ' -/
theorem run_turnW {Φ : List DV → Mu → Prop} (Γ' : List DV) (w : wk Γ Γ') (h : Φ Γ' μ) (hD : D.nx = StP X.K W Φ := by rfl) : Run X W Γ μ [] D := run_weak (run_turn hD h) w
end
/-! ### a law's beginning: its row of draws -/
def tLst2 (K : PySem.W.Frag) (t : TA) : TE := fun σ H Q => t σ H fun xs H1 => xs.length ≤ sizeLine ∧ ∀ p, H1 p = none → (∀ a ys, SqL K H1 a ys → a ≠ p) → Q (.ref p) (upd H1 p (.lst xs))
/-- a list displayed: it is none of the lists that are there -/
theorem pe_lst2 {X : Cx} {es : List Expr} {t : TA} {pos : Pos} (h : PA X es t) : PE X (.List es pos) (tLst2 X.K t) := by
  refine ⟨fun pins s σ H Q I hq => wpAny_List_spliced (thn (h.run pos pins s σ H _ I hq) fun us s1 ⟨xs, H1, I1, r, z, q⟩ => ⟨by rw [← r.length]; exact z, ?_⟩)⟩
  refine ⟨.ref s1.heap.objs.size, _, I1.laid (t' := s1.toks) (o := .lst xs) (fun b u e => Heap.get?_push_of_some _ e) (Nat.le_refl _) ⟨z, us, 0, r, Heap.get?_push_size _ rfl⟩, rfl, q _ (I1.hok.fresh (Nat.le_refl _)) fun a ys hl => ?_⟩
  obtain ⟨its, _, pl, _⟩ := I1.list hl
  exact Nat.ne_of_lt pl.lt
/-- a law: the script at a, True comes -/
def spLaw (K : PySem.W.Frag) : Sp := fun vs H Q _ => ∃ (a : Addr) (ns : List Int), vs = [.ref a] ∧ ns.length ≤ 63 ∧ SqL K H a (ns.map V.int) ∧ ∀ H', Q (.bl true) H'
section
variable {P : Program} {w : World} {K : PySem.W.Frag} {mg : Str → Option Value} {base : Heap} {qual : Str} {params : Arguments} {rest : List Stmt} {scope : Scope} {f : Addr} {fd : FuncData} {N : List Str} {k : Nat} {p0 p1 p2 p3 p4 p5 p6 : Pos} {j1 j2 j3 : Nat} {sd : Int}
theorem fd_law {body : List Stmt} (F : FunD K "law" qual params body scope [] [] f fd) (S : FnScope N ["_law_script"] scope) (hN : N = ("_law_script" : Str) :: ("_law_row" : Str) :: N.drop 2)
    (hb : body = .Assign [.Name "_law_row" p0] (.List [.Name "_law_script" p1, .Constant (.int 0) j1 p2, .Constant (.int sd) j2 p3, .Constant (.int 0) j3 p4] p5) p6 :: rest)
    (hx : ∀ (cdv : Value) (A : Around) (outer : List Env) (s : Shared) (H : Hp) (E : XK), Loc (cxOf CX0 P w K mg base N qual scope f cdv A outer s H E).nox.env.scope "_law_row" := by intro _ _ _ _ _ _; first | exact Or.inl rfl | exact Or.inr rfl)
    (hv : ∀ (cdv : Value) (A : Around) (outer : List Env) (s : Shared) (H : Hp) (E : XK), Vis (cxOf CX0 P w K mg base N qual scope f cdv A outer s H E).nox.env.scope "_law_script" := by intro _ _ _ _ _ _; first | exact Or.inl rfl | exact Or.inr (Or.inl rfl) | exact Or.inr (Or.inr rfl))
    (hs : ∀ (cdv : Value) (A : Around) (outer : List Env) (s : Shared) (H : Hp) (E : XK), swapsWith (.List [.Name "_law_script" p1, .Constant (.int 0) j1 p2, .Constant (.int sd) j2 p3, .Constant (.int 0) j3 p4] p5) (some (.Name "_law_row" p0)) p6.line (cxOf CX0 P w K mg base N qual scope f cdv A outer s H E).nox.env = pure false := by intro _ _ _ _ _ _; rfl)
    (hf : ∀ (cdv : Value) (A : Around) (outer : List Env) (s : Shared) (H : Hp) (E : XK), (cxOf CX0 P w K mg base N qual scope f cdv A outer s H E).nox.fn "_law_row" = true ∨ (cxOf CX0 P w K mg base N qual scope f cdv A outer s H E).nox.env.scope.names.lookup ("_law_row" : Str) = some .local := by intro _ _ _ _ _ _; first | exact .inr rfl | exact .inl rfl)
    (h : ∀ (cdv : Value) (A : Around) (outer : List Env) (s : Shared) (H : Hp) (E : XK), Room k (A.deeper (envOfC qual scope s.heap.objs.size f cdv)) → ∀ (W : Wd) (r scr : Addr) (ns : List Int), W.row = some (r, scr, ns) →
      Run (cxOf CX0 P w K mg base N qual scope f cdv A outer s H E).nox W (.no :: .r r :: List.replicate (N.length - 2) .no) [] rest { nx := fun _ H' => RetP K W (fun z => z = .bool true) .non H', rt := RetP K W (fun z => z = .bool true) }) :
    FnOk P w K mg base CX0 (k + 1) f fd ["_law_script"] (spLaw K) := by
  refine F.ok S (fun vs H Q E ⟨a, ns, e, _⟩ => by rw [e]; rfl) fun cdv A outer s H vs Q E hr ⟨a, ns, e, hns, hl, q⟩ => ?_
  subst e
  refine ⟨_, PSs.nox wSs.ps, ?_⟩
  rw [hb]
  have hN0 : N[0]? = some ("_law_script" : Str) := by rw [hN]; rfl
  have hN1 : N[1]? = some ("_law_row" : Str) := by rw [hN]; rfl
  refine wSs_cons ((ps_set (i := 1) S.nd hN1 (hx cdv A outer s H E) (pe_lst2 (pa_cons (pe_var (i := 0) hN0 (hv cdv A outer s H E)) (pa_cons pe_int (pa_cons pe_int (pa_cons pe_int pa_nil))))) (hs cdv A outer s H E) (hf cdv A outer s H E)).w ?_)
  have hst : start N [.ref a] = some (.ref a) :: none :: List.replicate (N.length - 2) none := by
    rw [hN]
    show some (V.ref a) :: List.replicate _ none = _
    simp [List.replicate_succ]
  rw [hst]
  refine ⟨_, rfl, Nat.le_of_ble_eq_true rfl, fun r hr' hfr => ?_⟩
  have har : a ≠ r := hfr a _ hl
  let row : HO := .lst [.ref a, .int 0, .int sd, .int 0]
  let W : Wd := ⟨upd H r row, [r], some (r, a, ns)⟩
  have hW : upd H r row r = some row := upd_same
  have ok : WdOk K W := ⟨fun b hb => by
    rw [List.mem_singleton.mp hb]
    show upd H r row r ≠ none
    rw [hW]
    simp, fun r' s' n' e => by
    cases e
    exact ⟨List.mem_cons_self, SqL.up (fun o e => by show upd H r row a = some o; rw [upd_ne har]; exact e) hl, har, hns⟩⟩
  have sl : Slots K (off (hd W []) (upd H r row)) (some (.ref a) :: some (.ref r) :: List.replicate (N.length - 2) none) (.no :: .r r :: List.replicate (N.length - 2) .no) := by
    refine ⟨by simp, fun i dv e => ?_⟩
    match i, e with
    | 0, e => cases e; exact ⟨_, rfl, trivial⟩
    | 1, e => cases e; exact ⟨_, rfl, rfl⟩
    | i + 2, e =>
      have e' : (List.replicate (N.length - 2) DV.no)[i]? = some dv := e
      rw [List.getElem?_replicate] at e'
      split at e'
      · rename_i hi
        cases e'
        refine ⟨none, ?_, trivial⟩
        show (List.replicate (N.length - 2) (none : Option V))[i]? = some none
        rw [List.getElem?_replicate, if_pos hi]
      · cases e'
  have ret : ∀ v H', RetP K W (fun z => z = .bool true) v H' → Q v H' := fun v H' ⟨fr, d', e, hv'⟩ => by
    subst e
    cases hv'
    exact q H'
  have z := h cdv A outer s H E hr W r a ns rfl _ _ ⟨ok, ⟨fun _ _ _ e => e, fun r' s' n' e => by cases e; exact ⟨0, sd, 0, hW, Int.le_refl _⟩⟩, sl, fun _ z => (nomatch z), List.nodup_nil⟩
  intro pins st I
  refine wpAny_mono (z pins st I) (fun fl s' hq => ?_) fun _ _ z => z
  cases fl with
  | next =>
    obtain ⟨σ', H', I', q'⟩ := hq
    exact ⟨σ', H', I', ret _ _ q'⟩
  | brk => exact hq
  | cont => exact hq
  | ret u =>
    obtain ⟨v, σ', H', I', r', q'⟩ := hq
    exact ⟨v, σ', H', I', r', ret _ _ q'⟩
end
end HW
set_option maxHeartbeats 4000000
namespace HW
open PySem PySem.Spec PyProof.Rows L2
open SX (S)
/-- the end of a turn, the state forgotten down to Γ' -/
theorem run_go {X : Cx} {W : Wd} {Γ : List DV} {μ : Mu} {Φ : List DV → Mu → Prop} {rt : VK} {bk ct : L2.St → Hp → Prop} (Γ' : List DV) (w : wk Γ Γ') (h : Φ Γ' μ) : Run X W Γ μ [] ⟨StP X.K W Φ, rt, bk, ct⟩ := run_turnW Γ' w h rfl
/-! ### shapes, for == -/
structure Shp (n : Nat) (d : PyData) : Prop where
  lay : d.canLay0 = true
  dep : d.depth ≤ n
theorem Shp.int {i : Int} : Shp 0 (.int i) := ⟨rfl, Nat.le_refl _⟩
theorem Shp.bl {i : Bool} : Shp 0 (.bool i) := ⟨rfl, Nat.le_refl _⟩
theorem Shp.non : Shp 0 .none := ⟨rfl, Nat.le_refl _⟩
theorem Shp.all {n : Nat} : ∀ {xs : List PyData}, (∀ x ∈ xs, Shp n x) → PyData.canLayAll0 xs = true ∧ PyData.depthAll xs ≤ n
  | [], _ => ⟨rfl, Nat.zero_le _⟩
  | x :: xs, h => by
    obtain ⟨h1, h2⟩ := Shp.all fun y hy => h y (List.mem_cons_of_mem _ hy)
    have h3 := h x List.mem_cons_self
    exact ⟨by rw [PyData.canLayAll0, h3.lay, h1]; rfl, by rw [PyData.depthAll]; exact Nat.max_le.mpr ⟨h3.dep, h2⟩⟩
theorem Shp.list {n : Nat} {xs : List PyData} (h : ∀ x ∈ xs, Shp n x) : Shp (n + 1) (.list xs) := ⟨by rw [PyData.canLay0]; exact (Shp.all h).1, by rw [PyData.depth]; exact Nat.succ_le_succ (Shp.all h).2⟩
theorem Shp.tup {n : Nat} {xs : List PyData} (h : ∀ x ∈ xs, Shp n x) : Shp (n + 1) (.tuple xs) := ⟨by rw [PyData.canLay0]; exact (Shp.all h).1, by rw [PyData.depth]; exact Nat.succ_le_succ (Shp.all h).2⟩
theorem Shp.up {n m : Nat} {d : PyData} (h : Shp n d) (l : n ≤ m) : Shp m d := ⟨h.lay, Nat.le_trans h.dep l⟩
theorem Shp.str {l : List Nat} (h : ∀ c ∈ l, c < 128) : Shp 0 (.str (S l)) := ⟨by
  show PyData.strOk (S l) = true
  unfold PyData.strOk
  simp only [S, List.all_toArray, List.all_eq_true, decide_eq_true_eq]
  exact fun c hc => Nat.lt_trans (h c hc) (by decide), Nat.le_refl _⟩
theorem Shp.ok {n : Nat} {d : PyData} (h : Shp n d) (l : n ≤ 64 := by decide) : SeqAt.shaped d = true := by
  unfold SeqAt.shaped
  rw [h.lay, decide_eq_true (Nat.le_trans h.dep l)]
  rfl
section
variable {X : Cx} {x y : PyData} {n : Nat}
theorem c_neSame (hu : X.A.units + 64 < cLine) (h : Shp n x) (hn : n ≤ 64 := by decide) : OpD X (compareOp .NotEq) x x (.bool false) := by
  have z := c_neD (X := X) hu (h.ok hn) (h.ok hn)
  rw [SeqAt.eqv_refl x h.lay] at z
  exact z
end
end HW
set_option maxHeartbeats 4000000
namespace HW
open PySem PySem.Spec PyProof.Rows L2
open SX (S)
abbrev FnP (K : PySem.W.Frag) (x : Str) (st : Stmt) (f : Addr) (fd : FuncData) : Prop := FunD K x x (defArgs st) (defBody st) (defScope st) [] [] f fd
structure Gs (mg : Str → Option Value) : Prop where
  isinstance : mg "isinstance" = none
  str : mg "str" = none
  int : mg "int" = none
  len : mg "len" = none
  all : mg "all" = none
  range : mg "range" = none
  set : mg "set" = none
  enumerate : mg "enumerate" = none
  zip : mg "zip" = none
  min : mg "min" = none
  max : mg "max" = none
  sorted : mg "sorted" = none
  any : mg "any" = none
  tuple : mg "tuple" = none
  list : mg "list" = none
  bool : mg "bool" = none
  dict : mg "dict" = none
  abs : mg "abs" = none
  sum : mg "sum" = none
abbrev gSEEN (mg : Str → Option Value) : Prop := ∃ t, mg "SEEN" = some (.str "x" t)
abbrev gHOLE (mg : Str → Option Value) : Prop := ∃ t, mg "HOLE" = some (.str "." t)
abbrev gLETTERS (mg : Str → Option Value) : Prop := ∃ t, mg "LETTERS" = some (.str "abcd" t)
abbrev gMOST_MASK (mg : Str → Option Value) : Prop := ∃ t, mg "MOST_MASK" = some (.int 12 t)
abbrev gMOST_ROW (mg : Str → Option Value) : Prop := ∃ t, mg "MOST_ROW" = some (.int 60 t)
/-! the plain words -/
def maskB (m : List Nat) : Bool := decide (1 ≤ m.length) && decide (m.length ≤ 12) && m.all (fun c => decide (c ∈ [120, 46])) && decide (m[0]? = some 120) && decide (m.getLast? = some 120)
def seenL (m : List Nat) : List Nat := ((m.mapIdx Prod.mk).filter fun q => decide (q.2 = 120)).map Prod.fst
abbrev sD (l : List Nat) : PyData := .str (S l)
abbrev nD (l : List Nat) : PyData := .list (l.map nn)
abbrev wD (l : List (List Nat)) : PyData := .list (l.map sD)
def R_is_mask (ds : List PyData) (d : PyData) : Prop := ∃ m : List Nat, ds = [sD m] ∧ maskB m = true ∧ d = .bool true
def R_need_mask (ds : List PyData) (d : PyData) : Prop := ∃ m : List Nat, ds = [sD m] ∧ maskB m = true ∧ d = .none
def R_seen_by (ds : List PyData) (d : PyData) : Prop := ∃ m : List Nat, ds = [sD m] ∧ m.length ≤ 16777216 ∧ d = nD (seenL m)
theorem map_fst_le {α β : Type} (l : List (α × β)) (p : α × β → Bool) : ((l.filter p).map Prod.fst).length ≤ l.length := by
  rw [List.length_map]
  exact List.length_filter_le ..
/-! ### the draws -/
section
variable {X : Cx} {σ : L2.St} {H : Hp} {a b : Expr} {x y z : V} {Q : VK} {pos : Pos}
/-- e gives v here, whatever the heap is then: the heap stays -/
def At (X : Cx) (σ : L2.St) (H : Hp) (e : Expr) (v : V) : Prop := ∀ Q : VK, Q v H → wE X e σ H Q
theorem at_var (i : Nat) {n : Str} (h : σ[i]? = some (some x)) (hN : X.N[i]? = some n := by rfl) (hv : Vis X.env.scope n := by first | exact Or.inl rfl | exact Or.inr (Or.inl rfl) | exact Or.inr (Or.inr rfl))
    (h1 : (n == ("__debug__" : Str)) = false := by decide) (h2 : (n == ("__classdict__" : Str)) = false := by decide) : At X σ H (.Name n pos) x := fun Q q => (pe_var hN hv h1 h2).w ⟨x, h, q⟩
theorem at_k {e : Expr} {v : V} (h : At X σ H e v) (q : Q v H) : wE X e σ H Q := h Q q
theorem at_int {i : Int} {j p} : At X σ H (.Constant (.int i) j p) (.int i) := fun Q q => pe_int.w q
theorem at_op {op : Operator} {r : R2} (o : OpR X (binaryOp op) r) (ha : At X σ H a x) (hb : At X σ H b y) (hz : ∀ Q : VK, Q z H → r x y H Q) : At X σ H (.BinOp a op b pos) z := fun Q q => (pe_op o wE.pe wE.pe).w (ha _ (hb _ (hz Q q)))
theorem at_ix {p : Addr} {xs : List V} {i : Int} (ha : At X σ H a (.ref p)) (hb : At X σ H b (.int i)) (hl : SqL X.K H p xs) (hx : atI xs i = some x) (hs : PlainIx b := by exact fun _ _ => rfl) : At X σ H (.Subscript a b pos) x := fun Q q =>
  (pe_ix ix_list wE.pe wE.pe hs).w (ha _ (hb _ ⟨p, xs, i, x, rfl, rfl, hl, hx, q⟩))
theorem at_int1 {p : Pos} {i : Int} (ha : At X σ H a (.int i)) (hm : X.mg "int" = none) (hg : Gl X "int" := by rfl) (hs : starEach [a] X.env = (false, eval a X.env) :: starEach [] X.env := by rfl) (hpl : (backTo pos (starEach [] X.env)).any (·.1) = false := by rfl) : At X σ H (.Call (.Name "int" p) [a] [] pos) (.int i) := fun Q q =>
  (pe_callTy call_int1 hg hm boot_int (pa_cons wE.pe pa_nil hs) (by decide) (by decide) hs hpl).w (ha _ (.inl ⟨i, rfl, q⟩))
theorem at_len {p : Pos} {l : Addr} {xs : List V} (ha : At X σ H a (.ref l)) (hl : SqL X.K H l xs) (hm : X.mg "len" = none) (hg : Gl X "len" := by rfl) (hs : starEach [a] X.env = (false, eval a X.env) :: starEach [] X.env := by rfl) (hpl : (backTo pos (starEach [] X.env)).any (·.1) = false := by rfl) : At X σ H (.Call (.Name "len" p) [a] [] pos) (.int xs.length) := fun Q q =>
  (pe_callB call_len_seq hg hm boot_len (pa_cons wE.pe pa_nil hs) (by decide) (by decide) hs hpl).w (ha _ ⟨l, xs, rfl, .inl hl, q⟩)
theorem at_cmp {op : CmpOp} {r : R2} {k : Bool} (o : OpR X (compareOp op) r) (ha : At X σ H a x) (hb : At X σ H b y) (hz : ∀ Q : VK, Q (.bl k) H → r x y H Q) {Qb : Bool → Hp → Prop} (q : Qb k H) (hm : behindInMarks op b = false := by first | exact nomark _ | rfl) : wT X (.Compare a [op] [b] pos) σ H Qb :=
  (pt_cmpR o wE.pe wE.pe hm).w (ha _ (hb _ (hz _ ⟨k, rfl, q⟩)))
end
def R_taken_pre (ds : List PyData) : Prop := ∃ m : Int, ds = [.int m] ∧ 0 < m ∧ m < 1073741824
def R_taken_post (ds : List PyData) (d : PyData) : Prop := ∃ m : Int, ∃ k : Nat, ds = [.int m] ∧ d = .int (k : Int) ∧ (k : Int) < m
/-! ### rings -/
theorem maskB_len {m : List Nat} (h : maskB m = true) : m.length ≤ 12 := by
  unfold maskB at h
  simp only [Bool.and_eq_true, decide_eq_true_eq] at h
  exact h.1.1.1.2
theorem seenL_len (m : List Nat) : (seenL m).length ≤ m.length := by
  unfold seenL
  refine Nat.le_trans (map_fst_le _ _) ?_
  simp
/-! ### the law's own defs -/
def lowL (n : Nat) (l : List Nat) : Prop := ∀ c ∈ l, 97 ≤ c ∧ c < 97 + n
def openL (m : List Nat) : List Nat := (List.range m.length).filter fun i => decide (m.getD i 0 = 120)
def R_open (ds : List PyData) (d : PyData) : Prop := ∃ m : List Nat, ds = [sD m] ∧ m.length ≤ 4000 ∧ d = nD (openL m)
def lawV (l m : List Nat) : List (List Nat) := (List.range (l.length + 1 - m.length)).map fun p => (openL m).map fun a => l.getD (p + a) 0
def R_lviews (ds : List PyData) (d : PyData) : Prop := ∃ l m : List Nat, ds = [sD l, sD m] ∧ l.length ≤ 4000 ∧ 1 ≤ m.length ∧ m.length ≤ 4000 ∧ d = wD (lawV l m)
abbrev DRAW (P : Program) (w : World) (K : PySem.W.Frag) (mg : Str → Option Value) (base : Heap) (k : Nat) : Prop := Fd P w K mg base k "_law_taken" ["_law_row", "_law_many"] (spW K R_taken_pre R_taken_post)
section
variable {X : Cx} {W : Wd} {Γ : List DV} {μ : Mu} {a : Expr} {pos p p2 : Pos} {n : Str} {r scr : Addr} {ns : List Int} {k : Nat}
/-- _law_taken(_law_row, a) -/
theorem ev_taken {A : PyData → Prop} (m : Nat) (F : DRAW X.prog X.w X.K X.mg X.base k) (hr : Room k X.A) (hrow : W.row = some (r, scr, ns)) (i : Nat) (ha : Ev X W Γ μ a A) (hm : ∀ d, A d → ∃ z : Nat, d = nn z ∧ 1 ≤ z ∧ z ≤ m) (hm2 : m < 1000000 := by decide)
    (hi : Γ[i]? = some (.r r) := by rfl) (hN : X.N[i]? = some n := by rfl) (hv : Vis X.env.scope n := by first | exact Or.inl rfl | exact Or.inr (Or.inl rfl) | exact Or.inr (Or.inr rfl))
    (h1 : (n == ("__debug__" : Str)) = false := by decide) (h2 : (n == ("__classdict__" : Str)) = false := by decide) (hg : Gl X "_law_taken" := by rfl)
    (he : starEach (.Name n p2 :: [a]) X.env = (false, eval (.Name n p2) X.env) :: starEach [a] X.env := by rfl) (hpl : (backTo pos (starEach [a] X.env)).any (·.1) = false := by rfl) (he2 : starEach [a] X.env = (false, eval a X.env) :: starEach [] X.env := by rfl) :
    Ev X W Γ μ (.Call (.Name "_law_taken" p) (.Name n p2 :: [a]) [] pos) (fun d => ∃ z k : Nat, A (nn z) ∧ d = nn k ∧ k < z ∧ z ≤ m) :=
  (ev_draw F hr hrow i (eva_cons ha eva_nil he2) (fun ds ⟨x, r, e, ax, er⟩ => by
    obtain ⟨z, e2, h3, h4⟩ := hm x ax
    subst er
    exact ⟨(z : Int), by rw [e, e2], by omega, by omega⟩) hi hN hv h1 h2 hg (by decide) he hpl).imp fun d ⟨ds, ⟨x, r, e, ax, er⟩, m', k', e3, e4, h5⟩ => by
    obtain ⟨z, e2, h3, h4⟩ := hm x ax
    subst er
    rw [e, e2] at e3
    have e5 : (z : Int) = m' := by
      have := (List.cons.inj e3).1
      exact PyData.int.inj this
    exact ⟨z, k', e2 ▸ ax, e4, by omega, h4⟩
theorem ev_takenN (m : Nat) (F : DRAW X.prog X.w X.K X.mg X.base k) (hr : Room k X.A) (hrow : W.row = some (r, scr, ns)) (i : Nat) {z : Int} (ha : Ed X W Γ μ a (.int z)) (e : z = (m : Int)) (h1m : 1 ≤ m := by decide) (hm2 : m < 1000000 := by decide)
    (hi : Γ[i]? = some (.r r) := by rfl) (hN : X.N[i]? = some n := by rfl) (hv : Vis X.env.scope n := by first | exact Or.inl rfl | exact Or.inr (Or.inl rfl) | exact Or.inr (Or.inr rfl))
    (h1 : (n == ("__debug__" : Str)) = false := by decide) (h2 : (n == ("__classdict__" : Str)) = false := by decide) (hg : Gl X "_law_taken" := by rfl)
    (he : starEach (.Name n p2 :: [a]) X.env = (false, eval (.Name n p2) X.env) :: starEach [a] X.env := by rfl) (hpl : (backTo pos (starEach [a] X.env)).any (·.1) = false := by rfl) (he2 : starEach [a] X.env = (false, eval a X.env) :: starEach [] X.env := by rfl) :
    Ev X W Γ μ (.Call (.Name "_law_taken" p) (.Name n p2 :: [a]) [] pos) (fun d => ∃ k : Nat, d = nn k ∧ k < m) :=
  (ev_taken (A := fun d => d = nn m) m F hr hrow i (ha.evP (by rw [e])) (fun d e => ⟨m, e, h1m, Nat.le_refl _⟩) hm2 hi hN hv h1 h2 hg he hpl he2).imp fun d ⟨z, k, e1, e2, h3, h4⟩ => ⟨k, e2, by omega⟩
end
theorem EvA.imp {X : Cx} {W : Wd} {Γ : List DV} {μ : Mu} {es : List Expr} {A B : List PyData → Prop} (h : EvA X W Γ μ es A) (i : ∀ d, A d → B d) : EvA X W Γ μ es B := fun σ H R Q k => h σ H R Q fun v d H2 R2 x2 r p => k v d H2 R2 x2 r (i d p)

/-! ### the plain law -/
theorem mapIdx_range (m : List Nat) : m.mapIdx Prod.mk = (List.range m.length).map fun i => (i, m.getD i 0) := by
  apply List.ext_getElem?
  intro i
  rw [List.getElem?_mapIdx, List.getElem?_map]
  by_cases h : i < m.length
  · rw [List.getElem?_range h, List.getElem?_eq_getElem h]
    show some (i, m[i]) = some (i, m.getD i 0)
    rw [List.getD_eq_getElem?_getD, List.getElem?_eq_getElem h]
    rfl
  · rw [List.getElem?_eq_none (by omega), List.getElem?_eq_none (by simp; omega)]
    rfl
theorem open_seen (m : List Nat) : openL m = seenL m := by
  unfold seenL openL
  rw [mapIdx_range, List.filter_map, List.map_map]
  have e : (Prod.fst ∘ fun i => (i, m.getD i 0)) = (id : Nat → Nat) := rfl
  rw [e, List.map_id]
  rfl
theorem mem_open {m : List Nat} {a : Nat} (h : a ∈ openL m) : a < m.length := by
  have := (List.mem_filter.mp h).1
  simpa using this
theorem shp_w {ws : List (List Nat)} (h : ∀ v ∈ ws, ∀ c ∈ v, c < 128) : Shp 1 (wD ws) := Shp.list fun x hx => by
  obtain ⟨v, hv, rfl⟩ := List.mem_map.mp hx
  exact Shp.str (h v hv)

end HW
set_option maxHeartbeats 4000000
namespace HW
open PySem PySem.Spec PyProof.Rows L2
open SX (S)
section
variable {X : Cx} {W W0 : Wd} {Γ : List DV} {μ : Mu} {e c a b : Expr} {rest sts body : List Stmt} {D : Ends} {d x y : PyData} {pos p p1 p2 p3 : Pos} {n n1 n2 : Str} {α : Type}
/-- for n1, n2 in iter -/
theorem run_for2 {xs : List α} {iter : Expr} {e1 e2 : α → PyData} {kk : Nat} {tpos : Pos} (k1 k2 : Nat) (hi : IterD X W Γ μ (.Tuple [.Name n1 p1, .Name n2 p2] kk tpos) iter (fun x => pr2 (e1 x) (e2 x)) xs) (J : Nat → List DV → Mu → Prop) (h0 : J 0 Γ μ)
    (hs : ∀ W1, Wle W W1 → ∀ i x Γ' μ', xs[i]? = some x → J i Γ' μ' → Run X W1 ((Γ'.set k1 (.d (e1 x))).set k2 (.d (e2 x))) μ' body { D with nx := StP X.K W1 (J (i + 1)), ct := StP X.K W1 (J (i + 1)), bk := wSs X rest D })
    (hd' : ∀ Γ' μ', J xs.length Γ' μ' → Run X W Γ' μ' rest D) (hN : X.N.Nodup) (hn1 : X.N[k1]? = some n1 := by rfl) (hn2 : X.N[k2]? = some n2 := by rfl) (hx1 : Loc X.env.scope n1 := by first | exact Or.inl rfl | exact Or.inr rfl) (hx2 : Loc X.env.scope n2 := by first | exact Or.inl rfl | exact Or.inr rfl)
    (hf1 : X.fn n1 = true ∨ X.env.scope.names.lookup n1 = some .local := by first | exact .inr rfl | exact .inl rfl) (hf2 : X.fn n2 = true ∨ X.env.scope.names.lookup n2 = some .local := by first | exact .inr rfl | exact .inl rfl)
    (hp : PassesOwn (model X.prog X.w) X.A X.env X.xe := by exact PassesOwn.never) (hc : X.calm = true := by rfl) (hf : ∀ x, foldedSetIterable iter X.env x = pure x := by intro _; rfl) :
    Run X W Γ μ (.For (.Tuple [.Name n1 p1, .Name n2 p2] kk tpos) iter body [] pos :: rest) D :=
  run_forG hi (tg_pair (tg_name (K := X.K) k1) (tg_name k2)) (pg_tup hc (pgs_cons (pg_name hN hn1 hx1 hf1) (pgs_cons (pg_name hN hn2 hx2 hf2) pgs_nil))) (fun _ _ x _ => ⟨e1 x, e2 x, rfl, trivial, trivial⟩) (fun _ => J) (fun _ _ => h0) (fun _ e W1 l i x Γ' μ' h j => hs W1 l i x Γ' μ' (e ▸ h) j) (fun _ e Γ' μ' j => hd' Γ' μ' (e ▸ j)) hp hc hf
/-- while c: the state J m with the measure m; c tells b m -/
theorem run_while {c : Expr} (J : Nat → List DV → Mu → Prop) (B : Nat → Bool) (m0 : Nat) (h0 : J m0 Γ μ) (hc : ∀ W1, Wle W W1 → ∀ m Γ' μ', J m Γ' μ' → EdT X W1 Γ' μ' c (B m))
    (hs : ∀ W1, Wle W W1 → ∀ m Γ' μ', B m = true → J m Γ' μ' → Run X W1 Γ' μ' body { D with nx := StP X.K W1 (fun Γ2 μ2 => ∃ m', m' < m ∧ J m' Γ2 μ2), ct := StP X.K W1 (fun Γ2 μ2 => ∃ m', m' < m ∧ J m' Γ2 μ2), bk := wSs X rest D })
    (hd' : ∀ m Γ' μ', B m = false → J m Γ' μ' → Run X W Γ' μ' rest D) (hp : PassesOwn (model X.prog X.w) X.A X.env X.xe := by exact PassesOwn.never) :
    Run X W Γ μ (.While c body [] pos :: rest) D := fun σ H R => by
  refine wSs_cons ((ps_while hp wT.pt wSs.ps).w ⟨fun m => StP X.K (W.now μ H) (J m), ⟨m0, Γ, μ, h0, R.now⟩, ?_⟩)
  have le1 : Wle W (W.now μ H) := R.now_le
  rintro m σ' H' ⟨Γ', μ', j, R'⟩
  refine hc _ le1 m Γ' μ' j σ' H' R' _ fun H2 R2 _ => ?_
  cases hb : B m with
  | true =>
    refine iteT ⟨StP X.K (W.now μ H) (fun Γ2 μ2 => ∃ m', m' < m ∧ J m' Γ2 μ2), fun σ2 H3 ⟨Γ2, μ2, ⟨m', hm, j'⟩, R3⟩ => ⟨m', hm, Γ2, μ2, j', R3⟩, ?_⟩
    exact hs _ le1 m Γ' μ' hb j σ' H2 R2
  | false => exact iteF (hd' m Γ' μ' hb j σ' H2 (R2.wdown le1 R.wd))
end
end HW
set_option maxHeartbeats 4000000
namespace HW
open PySem PySem.Spec PyProof.Rows L2
open SX (S)
/-! ### views -/
def viewL (l m : List Nat) (p : Nat) : List Nat := (seenL m).map fun a => l.getD (p + a) 0
def viewsL (l m : List Nat) : List (List Nat) := (List.range (l.length + 1 - m.length)).map (viewL l m)
def tellsB (l m : List Nat) : Bool := decide (viewsL l m).Nodup
theorem lawV_eq (l m : List Nat) : lawV l m = viewsL l m := by unfold lawV viewsL; rw [open_seen]; rfl
theorem viewsL_len (l m : List Nat) : (viewsL l m).length = l.length + 1 - m.length := by simp [viewsL]
theorem mem_seen {m : List Nat} {a : Nat} (h : a ∈ seenL m) : a < m.length := mem_open (open_seen m ▸ h)
theorem maskB_pos {m : List Nat} (h : maskB m = true) : 1 ≤ m.length := by
  unfold maskB at h
  simp only [Bool.and_eq_true, decide_eq_true_eq] at h
  exact h.1.1.1.1
def R_view_by (ds : List PyData) (d : PyData) : Prop := ∃ (l m : List Nat) (p : Nat), ds = [sD l, sD m, nn p] ∧ l.length ≤ 4000 ∧ m.length ≤ 4000 ∧ p + m.length ≤ l.length ∧ d = sD (viewL l m p)
def R_is_from (ds : List PyData) (d : PyData) : Prop := ∃ v a b : Int, ds = [.int v, .int a, .int b] ∧ d = .bool (decide (a ≤ v) && decide (v ≤ b))
def R_need_letters (ds : List PyData) (d : PyData) : Prop := ∃ n : Nat, ds = [nn n] ∧ 1 ≤ n ∧ n ≤ 4 ∧ d = .none
def letL (n : Nat) : List Nat := [97, 98, 99, 100].take n
theorem mem_letL {n c : Nat} (hn : n ≤ 4) : c ∈ letL n ↔ 97 ≤ c ∧ c < 97 + n := by
  unfold letL
  match n, hn with
  | 0, _ => constructor <;> intro h <;> first | omega | simp at h
  | 1, _ => simp; omega
  | 2, _ => simp; omega
  | 3, _ => simp; omega
  | 4, _ => simp; omega
theorem letL_len {n : Nat} (hn : n ≤ 4) : (letL n).length = n := by simp [letL]; omega
def R_ltells (ds : List PyData) (d : PyData) : Prop := ∃ l m : List Nat, ds = [sD l, sD m] ∧ l.length ≤ 4000 ∧ 1 ≤ m.length ∧ m.length ≤ 4000 ∧ d = .bool (tellsB l m)
theorem flat_len {α β : Type} (f : α → List β) (c : Nat) : ∀ l : List α, (∀ x ∈ l, (f x).length ≤ c) → (l.flatMap f).length ≤ l.length * c
  | [], _ => by simp
  | x :: l, h => by
    have h1 := h x List.mem_cons_self
    have h2 := flat_len f c l fun y hy => h y (List.mem_cons_of_mem _ hy)
    rw [List.flatMap_cons, List.length_append, List.length_cons, Nat.add_mul]
    omega

/-! ### draws in use -/
section
variable {X : Cx} {W : Wd} {Γ : List DV} {μ : Mu} {a b e i : Expr} {pos p p2 : Pos} {n : Str} {r scr : Addr} {ns : List Int} {k : Nat}
/-- [..][draw] -/
theorem ev_pick (xs : List PyData) (he : Ed X W Γ μ e (.list xs)) (hi : Ev X W Γ μ i (fun d => ∃ q : Nat, d = nn q ∧ q < xs.length)) (hs : PlainIx i := by exact fun _ _ => rfl) : Ev X W Γ μ (.Subscript e i pos) (fun z => z ∈ xs) :=
  ev_ix he.ev hi (fun x y ex ⟨q, ey, hq⟩ => by
    subst ex
    subst ey
    exact ⟨xs[q], List.getElem_mem hq, i_list (n := q) (List.getElem?_eq_getElem hq)⟩) hs
end
end HW
set_option maxHeartbeats 4000000
namespace HW
open PySem PySem.Spec PyProof.Rows L2
open SX (S)
section
variable {X : Cx} {w : List Nat} {ws : List (List Nat)} {ds : List PyData}
theorem inV_S (w : List Nat) : ∀ ws : List (List Nat), inV (.str (S w)) ((ws.map S).map V.str) = decide (w ∈ ws)
  | [] => rfl
  | v :: ws => by
    have ih := inV_S w ws
    unfold inV at ih ⊢
    rw [List.map_cons, List.map_cons, List.any_cons, ih]
    have e : eqV (V.str (S v)) (V.str (S w)) = decide (w = v) := by
      show (S v == S w) = _
      rw [SX.S_beq_eq]
      exact decide_eq_decide.mpr ⟨Eq.symm, Eq.symm⟩
    rw [e]
    by_cases h : w = v
    · subst h; simp
    · simp [h]
theorem flat_S : ∀ ws : List (List Nat), ((ws.map S).map V.str).all flatV = true
  | [] => rfl
  | v :: ws => by rw [List.map_cons, List.map_cons, List.all_cons, flat_S ws]; rfl
theorem c_ninLS : OpD X (compareOp .NotIn) (sD w) (wD ws) (.bool (!decide (w ∈ ws))) := OpR.to op_notIn_seq fun a b H Q ⟨L, _, ha, hb, k⟩ => by
  cases ha
  cases hb with
  | lst hl hv =>
    have ev := vaAll_S hv
    subst ev
    refine ⟨_, _, rfl, .inl (SqL.of (off_some hl).2), rfl, flat_S ws, ?_⟩
    show Q (.bl (!inV _ _)) H
    rw [inV_S]
    exact k _ _ (Same.refl _) (.bl _)
theorem c_ninTS : OpD X (compareOp .NotIn) (sD w) (.tuple (ws.map sD)) (.bool (!decide (w ∈ ws))) := OpR.to op_notIn_seq fun a b H Q ⟨L, _, ha, hb, k⟩ => by
  cases ha
  cases hb with
  | tup hl hv =>
    have ev := vaAll_S hv
    subst ev
    refine ⟨_, _, rfl, .inr (SqT.up same_off hl), rfl, flat_S ws, ?_⟩
    show Q (.bl (!inV _ _)) H
    rw [inV_S]
    exact k _ _ (Same.refl _) (.bl _)
/-- xs == [], xs != [] -/
theorem eqv_nil (ds : List PyData) : PyData.eqv (.list ds) (.list []) = ds.isEmpty := by cases ds <;> rfl
theorem c_eqNil {n : Nat} (hu : X.A.units + 64 < cLine) (h : Shp n (.list ds)) (hn : n ≤ 64 := by decide) : OpD X (compareOp .Eq) (.list ds) (.list []) (.bool ds.isEmpty) := by
  have z := c_eqD (X := X) (y := .list []) hu (h.ok hn) rfl
  rw [eqv_nil] at z
  exact z
theorem c_neNil {n : Nat} (hu : X.A.units + 64 < cLine) (h : Shp n (.list ds)) (hn : n ≤ 64 := by decide) : OpD X (compareOp .NotEq) (.list ds) (.list []) (.bool (!ds.isEmpty)) := by
  have z := c_neD (X := X) (y := .list []) hu (h.ok hn) rfl
  rw [eqv_nil] at z
  exact z
end
end HW
set_option maxHeartbeats 4000000
namespace HW
open PySem PySem.Spec PyProof.Rows L2
open SX (S)
section
variable {X : Cx} {W W0 : Wd} {Γ : List DV} {μ : Mu} {b : Expr} {rest : List Stmt} {D : Ends} {x y : PyData} {pos p p1 p2 pl : Pos} {n1 n2 : Str}
/-- n1, n2 = [], b : n1 a local list -/
theorem run_parL0 (i j : Nat) {kt k2 : Nat} {pt pt2 : Pos} (hb : ∀ l, Ed X W Γ ((l, .lst []) :: μ) b y) (h : ∀ l, Run X W ((Γ.set i (.r l)).set j (.d y)) ((l, .lst []) :: μ) rest D) (hN : X.N.Nodup) (hij : i ≠ j := by decide) (hi : X.N[i]? = some n1 := by rfl) (hj : X.N[j]? = some n2 := by rfl)
    (hx : X.env.scope.names.lookup n1 = some .local := by rfl) (hy : X.env.scope.names.lookup n2 = some .local := by rfl) (hc : X.calm = true := by rfl)
    (hw : swappedStores [.Tuple [.Name n1 p1, .Name n2 p2] kt pt] (.Tuple [.List [] pl, b] k2 pt2) X.env = pure (some [n1, n2]) := by rfl)
    (hs : swapsWithSole [.Tuple [.Name n1 p1, .Name n2 p2] kt pt] (.Tuple [.List [] pl, b] k2 pt2) pos.line X.env = pure false := by rfl)
    (hs1 : starEach [.List [] pl, b] X.env = (false, eval (.List [] pl) X.env) :: starEach [b] X.env := by rfl) (hs2 : starEach [b] X.env = (false, eval b X.env) :: starEach [] X.env := by rfl) :
    Run X W Γ μ (.Assign [.Tuple [.Name n1 p1, .Name n2 p2] kt pt] (.Tuple [.List [] pl, b] k2 pt2) pos :: rest) D := fun σ H R =>
  wSs_cons ((ps_par hc hN hi hj hij hx hy (pa_cons (pe_lst pa_nil) (pa_cons wE.pe pa_nil hs2) hs1) hw hs).w ⟨Nat.zero_le _, fun l hl => by
    have R1 := R.born (m := .lst []) (o := .lst []) hl ⟨[], upd_same, .nil⟩
    exact hb l σ _ R1 _ fun v H2 R2 x2 r2 => ⟨_, _, rfl, h l _ _ ⟨R2.wd, R2.fr, (R2.sl.setr i).set j r2, R2.mu, R2.nd⟩⟩⟩)
end
/-! ### the rows that are told, letter by letter -/
theorem getD_app {l : List Nat} {c i : Nat} (h : i < l.length) : (l ++ [c]).getD i 0 = l.getD i 0 := by
  rw [List.getD_eq_getElem?_getD, List.getD_eq_getElem?_getD, List.getElem?_append_left h]
theorem viewL_app {l m : List Nat} {c p : Nat} (h : p + m.length ≤ l.length) : viewL (l ++ [c]) m p = viewL l m p := by
  unfold viewL
  refine List.map_congr_left fun a ha => getD_app ?_
  have := mem_seen ha
  omega
theorem viewsL_snoc (l m : List Nat) (c : Nat) (hm : 1 ≤ m.length) : viewsL (l ++ [c]) m = if l.length + 1 < m.length then viewsL l m else viewsL l m ++ [viewL (l ++ [c]) m (l.length + 1 - m.length)] := by
  unfold viewsL
  rw [List.length_append, List.length_singleton]
  by_cases h : l.length + 1 < m.length
  · rw [if_pos h]
    have e1 : l.length + 1 + 1 - m.length = 0 := by omega
    have e2 : l.length + 1 - m.length = 0 := by omega
    rw [e1, e2]
    rfl
  · rw [if_neg h]
    have e1 : l.length + 1 + 1 - m.length = (l.length + 1 - m.length) + 1 := by omega
    rw [e1, List.range_succ, List.map_append]
    congr 1
    refine List.map_congr_left fun p hp => viewL_app ?_
    have := List.mem_range.mp hp
    omega
def okC (m r : List Nat) (c : Nat) : Bool := decide (r.length + 1 < m.length) || !decide (viewL (r ++ [c]) m (r.length + 1 - m.length) ∈ viewsL r m)
theorem tells_snoc (r m : List Nat) (c : Nat) (hm : 1 ≤ m.length) : tellsB (r ++ [c]) m = (tellsB r m && okC m r c) := by
  unfold tellsB okC
  rw [viewsL_snoc r m c hm]
  by_cases h : r.length + 1 < m.length
  · rw [if_pos h, decide_eq_true h]
    simp
  · rw [if_neg h, decide_eq_false h, Bool.false_or, Bool.eq_iff_iff]
    simp only [decide_eq_true_eq, Bool.and_eq_true, Bool.not_eq_true', decide_eq_false_iff_not]
    rw [List.nodup_append]
    constructor
    · rintro ⟨h1, _, h3⟩
      exact ⟨h1, fun q => h3 _ q _ (List.mem_singleton.mpr rfl) rfl⟩
    · rintro ⟨h1, h2⟩
      exact ⟨h1, by simp, fun a ha b hb => by rw [List.mem_singleton.mp hb]; rintro rfl; exact h2 ha⟩
def stepR (m : List Nat) (n : Nat) (r : List Nat) : List (List Nat) := ((letL n).filter (okC m r)).map fun c => r ++ [c]
def nextL (m : List Nat) (n : Nat) (rs : List (List Nat)) : List (List Nat) := rs.flatMap (stepR m n)
def lev (m : List Nat) (n : Nat) : Nat → List (List Nat)
  | 0 => [[]]
  | k + 1 => nextL m n (lev m n k)
theorem stepR_len (m : List Nat) {n : Nat} (hn : n ≤ 4) (r : List Nat) : (stepR m n r).length ≤ n := by
  unfold stepR
  rw [List.length_map]
  exact Nat.le_trans (List.length_filter_le ..) (by rw [letL_len hn]; exact Nat.le_refl _)
theorem lev_len (m : List Nat) {n : Nat} (hn : n ≤ 4) : ∀ k, (lev m n k).length ≤ n ^ k
  | 0 => by simp [lev]
  | k + 1 => by
    have h1 := flat_len (stepR m n) n (lev m n k) (fun r _ => stepR_len m hn r)
    have h2 := Nat.mul_le_mul_right n (lev_len m hn k)
    rw [← Nat.pow_succ] at h2
    exact Nat.le_trans h1 h2
theorem mem_lev {m : List Nat} {n : Nat} (hm : 1 ≤ m.length) (hn : n ≤ 4) : ∀ {k : Nat} {r : List Nat}, r ∈ lev m n k ↔ r.length = k ∧ lowL n r ∧ tellsB r m = true
  | 0, r => by
    constructor
    · intro h
      have e : r = [] := by simpa [lev] using h
      subst e
      refine ⟨rfl, (fun c hc => nomatch hc), ?_⟩
      unfold tellsB viewsL
      have : ([] : List Nat).length + 1 - m.length = 0 := by simp; omega
      rw [this]
      rfl
    · rintro ⟨h, _⟩
      have e : r = [] := List.length_eq_zero_iff.mp h
      subst e
      simp [lev]
  | k + 1, r => by
    show r ∈ (lev m n k).flatMap (stepR m n) ↔ _
    rw [List.mem_flatMap]
    constructor
    · rintro ⟨q, hq, hr⟩
      obtain ⟨h1, h2, h3⟩ := (mem_lev hm hn).mp hq
      unfold stepR at hr
      obtain ⟨c, hc, rfl⟩ := List.mem_map.mp hr
      obtain ⟨hc1, hc2⟩ := List.mem_filter.mp hc
      refine ⟨by simp [h1], fun x hx => ?_, by rw [tells_snoc q m c hm, h3, hc2]; rfl⟩
      rcases List.mem_append.mp hx with z | z
      · exact h2 x z
      · rw [List.mem_singleton.mp z]
        exact (mem_letL hn).mp hc1
    · rintro ⟨h1, h2, h3⟩
      have hne : r ≠ [] := by rintro rfl; simp at h1
      have er := List.dropLast_concat_getLast hne
      refine ⟨r.dropLast, (mem_lev hm hn).mpr ⟨by simp [h1], fun c hc => h2 c (List.dropLast_subset r hc), ?_⟩, ?_⟩
      · rw [← er, tells_snoc _ m _ hm, Bool.and_eq_true] at h3
        exact h3.1
      · unfold stepR
        refine List.mem_map.mpr ⟨r.getLast hne, List.mem_filter.mpr ⟨(mem_letL hn).mpr (h2 _ (List.getLast_mem hne)), ?_⟩, er⟩
        rw [← er, tells_snoc _ m _ hm, Bool.and_eq_true] at h3
        exact h3.2
/-! counting -/
theorem nodup_len {α : Type} [DecidableEq α] : ∀ (l D : List α), l.Nodup → (∀ x ∈ l, x ∈ D) → l.length ≤ D.length
  | [], _, _, _ => Nat.zero_le _
  | x :: l, D, h, s => by
    have h1 := List.nodup_cons.mp h
    have hx := s x List.mem_cons_self
    have ih := nodup_len l (D.erase x) h1.2 fun y hy => (List.mem_erase_of_ne (by rintro rfl; exact h1.1 hy)).mpr (s y (List.mem_cons_of_mem _ hy))
    rw [List.length_erase_of_mem hx] at ih
    have := List.length_pos_of_mem hx
    rw [List.length_cons]
    omega
def words (n : Nat) : Nat → List (List Nat)
  | 0 => [[]]
  | s + 1 => (words n s).flatMap fun v => (letL n).map fun c => v ++ [c]
theorem words_len {n : Nat} (hn : n ≤ 4) : ∀ s, (words n s).length ≤ n ^ s
  | 0 => by simp [words]
  | s + 1 => by
    have h1 := flat_len (fun v : List Nat => (letL n).map fun c => v ++ [c]) n (words n s) (fun v _ => by rw [List.length_map, letL_len hn]; exact Nat.le_refl _)
    have h2 := Nat.mul_le_mul_right n (words_len hn s)
    rw [← Nat.pow_succ] at h2
    exact Nat.le_trans h1 h2
theorem mem_words {n : Nat} (hn : n ≤ 4) : ∀ {s : Nat} {v : List Nat}, v.length = s → lowL n v → v ∈ words n s
  | 0, v, h, _ => by
    have e : v = [] := List.length_eq_zero_iff.mp h
    subst e
    simp [words]
  | s + 1, v, h, hl => by
    have hne : v ≠ [] := by rintro rfl; simp at h
    refine List.mem_flatMap.mpr ⟨v.dropLast, mem_words hn (by simp [h]) fun c hc => hl c (List.dropLast_subset v hc), ?_⟩
    exact List.mem_map.mpr ⟨v.getLast hne, (mem_letL hn).mpr (hl _ (List.getLast_mem hne)), List.dropLast_concat_getLast hne⟩
theorem viewL_low {l m : List Nat} {n p : Nat} (hl : lowL n l) (h : p + m.length ≤ l.length) : lowL n (viewL l m p) := by
  intro c hc
  unfold viewL at hc
  obtain ⟨a, ha, rfl⟩ := List.mem_map.mp hc
  have h1 := mem_seen ha
  have h2 : p + a < l.length := by omega
  rw [List.getD_eq_getElem?_getD, List.getElem?_eq_getElem h2]
  exact hl _ (List.getElem_mem h2)
theorem viewL_len (l m : List Nat) (p : Nat) : (viewL l m p).length = (seenL m).length := by simp [viewL]
/-- a told row has at most so many places -/
theorem told_bound {r m : List Nat} {n : Nat} (hm : 1 ≤ m.length) (hn : n ≤ 4) (hl : lowL n r) (ht : tellsB r m = true) : r.length + 1 - m.length ≤ n ^ (seenL m).length := by
  unfold tellsB at ht
  have h := nodup_len (viewsL r m) (words n (seenL m).length) (of_decide_eq_true ht) fun v hv => by
    unfold viewsL at hv
    obtain ⟨p, hp, rfl⟩ := List.mem_map.mp hv
    have := List.mem_range.mp hp
    exact mem_words hn (viewL_len _ _ _) (viewL_low hl (by omega))
  rw [viewsL_len] at h
  exact Nat.le_trans h (words_len hn _)
theorem lev_top {m : List Nat} {n k : Nat} (hm : 1 ≤ m.length) (hn : n ≤ 4) (h : lev m n k ≠ []) : k + 1 ≤ n ^ (seenL m).length + m.length := by
  obtain ⟨r, hr⟩ := List.exists_mem_of_ne_nil _ h
  obtain ⟨h1, h2, h3⟩ := (mem_lev hm hn).mp hr
  have := told_bound hm hn h2 h3
  omega
theorem lev_nil {m : List Nat} {n k : Nat} (h : lev m n k = []) : ∀ j, k ≤ j → lev m n j = []
  | 0, hj => by have : k = 0 := by omega
                subst this; exact h
  | j + 1, hj => by
    by_cases e : k = j + 1
    · subst e; exact h
    · show nextL m n (lev m n j) = []
      rw [lev_nil h j (by omega)]
      rfl
/-- small enough -/
structure Small (m : List Nat) (n : Nat) : Prop where
  mask : maskB m = true
  lo : 1 ≤ n
  hi : n ≤ 4
  wide : m.length ≤ [12, 8, 5, 4].getD (n - 1) 0
  seen : (seenL m).length ≤ [12, 4, 2, 1].getD (n - 1) 0
theorem Small.bound {m : List Nat} {n : Nat} (h : Small m n) : n ^ (n ^ (seenL m).length + m.length - 1) ≤ 8388608 ∧ n ^ (seenL m).length ≤ 16 := by
  obtain ⟨_, lo, hi, wide, seen⟩ := h
  match n, lo, hi with
  | 1, _, _ => simp
  | 2, _, _ =>
    have w : m.length ≤ 8 := wide
    have s : (seenL m).length ≤ 4 := seen
    have h1 : 2 ^ (seenL m).length ≤ 2 ^ 4 := Nat.pow_le_pow_right (by decide) s
    refine ⟨Nat.le_trans (Nat.pow_le_pow_right (by decide) (show _ ≤ 23 by omega)) (by decide), h1⟩
  | 3, _, _ =>
    have w : m.length ≤ 5 := wide
    have s : (seenL m).length ≤ 2 := seen
    have h1 : 3 ^ (seenL m).length ≤ 3 ^ 2 := Nat.pow_le_pow_right (by decide) s
    refine ⟨Nat.le_trans (Nat.pow_le_pow_right (by decide) (show _ ≤ 13 by omega)) (by decide), by omega⟩
  | 4, _, _ =>
    have w : m.length ≤ 4 := wide
    have s : (seenL m).length ≤ 1 := seen
    have h1 : 4 ^ (seenL m).length ≤ 4 ^ 1 := Nat.pow_le_pow_right (by decide) s
    refine ⟨Nat.le_trans (Nat.pow_le_pow_right (by decide) (show _ ≤ 7 by omega)) (by decide), by omega⟩
theorem Small.pos {m : List Nat} {n : Nat} (h : Small m n) : 1 ≤ m.length := maskB_pos h.mask
theorem Small.top {m : List Nat} {n k : Nat} (h : Small m n) (hk : lev m n k ≠ []) : k + 1 ≤ 16 + m.length := by
  have := lev_top h.pos h.hi hk
  have := h.bound.2
  omega
theorem Small.len {m : List Nat} {n : Nat} (h : Small m n) (k : Nat) : (lev m n k).length ≤ 8388608 := by
  by_cases e : lev m n k = []
  · rw [e]; exact Nat.zero_le _
  · have h1 := lev_top h.pos h.hi e
    exact Nat.le_trans (lev_len m h.hi k) (Nat.le_trans (Nat.pow_le_pow_right h.lo (by omega)) h.bound.1)
/-- where the levels end -/
theorem exists_top (m : List Nat) (n T : Nat) (hT : lev m n T = []) : ∃ K, K ≤ T ∧ lev m n K = [] ∧ ∀ j, j < K → lev m n j ≠ [] := by
  induction T with
  | zero => exact ⟨0, Nat.le_refl _, hT, fun j hj => by omega⟩
  | succ T ih =>
    by_cases e : lev m n T = []
    · obtain ⟨K, h1, h2, h3⟩ := ih e
      exact ⟨K, by omega, h2, h3⟩
    · refine ⟨T + 1, Nat.le_refl _, hT, fun j hj q => ?_⟩
      exact e (lev_nil q T (by omega))
theorem Small.ends {m : List Nat} {n : Nat} (h : Small m n) : lev m n (16 + m.length) = [] := by
  by_cases e : lev m n (16 + m.length) = []
  · exact e
  · have := h.top e
    omega
/-- the least k without a row -/
noncomputable def topK (m : List Nat) (n : Nat) : Nat := open Classical in if h : ∃ K, lev m n K = [] ∧ ∀ j, j < K → lev m n j ≠ [] then h.choose else 0
theorem Small.topK {m : List Nat} {n : Nat} (h : Small m n) : lev m n (topK m n) = [] ∧ ∀ j, j < HW.topK m n → lev m n j ≠ [] := by
  have ex : ∃ K, lev m n K = [] ∧ ∀ j, j < K → lev m n j ≠ [] := by
    obtain ⟨K, _, h2⟩ := exists_top m n _ h.ends
    exact ⟨K, h2⟩
  unfold HW.topK
  rw [dif_pos ex]
  exact ex.choose_spec
theorem topK_eq {m : List Nat} {n K : Nat} (hs : Small m n) (h1 : lev m n K = []) (h2 : ∀ j, j < K → lev m n j ≠ []) : K = topK m n := by
  obtain ⟨g1, g2⟩ := hs.topK
  rcases Nat.lt_trichotomy K (topK m n) with h | h | h
  · exact absurd h1 (g2 K h)
  · exact h
  · exact absurd g1 (h2 _ h)
theorem Small.topK_pos {m : List Nat} {n : Nat} (h : Small m n) : 1 ≤ HW.topK m n := by
  obtain ⟨g1, g2⟩ := h.topK
  rcases Nat.eq_zero_or_pos (HW.topK m n) with e | e
  · rw [e] at g1
    simp [lev] at g1
  · exact e
/-! as data -/
abbrev rowT (m r : List Nat) : PyData := pr2 (sD r) (.tuple ((viewsL r m).map sD))
abbrev rowsT (m : List Nat) (rs : List (List Nat)) : PyData := .list (rs.map (rowT m))
def R_need_small (ds : List PyData) (d : PyData) : Prop := ∃ (m : List Nat) (n : Nat), ds = [sD m, nn n] ∧ Small m n ∧ d = .none
def R_longer (ds : List PyData) (d : PyData) : Prop := ∃ (rs : List (List Nat)) (m : List Nat) (n : Nat), ds = [rowsT m rs, sD m, nn n] ∧ 1 ≤ n ∧ n ≤ 4 ∧ maskB m = true ∧ (∀ r ∈ rs, r.length ≤ 3000) ∧ rs.length ≤ 16777216 ∧ (nextL m n rs).length < 16777216 ∧ d = rowsT m (nextL m n rs)
noncomputable def levelsD (m : List Nat) (n : Nat) : PyData := .list ((List.range (topK m n)).map fun j => wD (lev m n j))
def R_levels_of (ds : List PyData) (d : PyData) : Prop := ∃ (m : List Nat) (n : Nat), ds = [sD m, nn n] ∧ Small m n ∧ d = levelsD m n
def R_longest (ds : List PyData) (d : PyData) : Prop := ∃ (m : List Nat) (n : Nat), ds = [sD m, nn n] ∧ Small m n ∧ d = .int ((topK m n : Nat) - 1 : Int)
theorem low_128 {n : Nat} {l : List Nat} (hn : n ≤ 4) (h : lowL n l) : ∀ c ∈ l, c < 128 := fun c hc => by
  have := h c hc
  omega
theorem shp_rowT {n : Nat} (hn : n ≤ 4) {m r : List Nat} (h : lowL n r) : Shp 2 (rowT m r) := Shp.tup fun x hx => by
  rcases List.mem_cons.mp hx with e | hx
  · rw [e]; exact (Shp.str (low_128 hn h)).up (by decide)
  · rw [List.mem_singleton.mp hx]
    refine Shp.tup fun y hy => ?_
    obtain ⟨v, hv, rfl⟩ := List.mem_map.mp hy
    unfold viewsL at hv
    obtain ⟨p, hp, rfl⟩ := List.mem_map.mp hv
    have := List.mem_range.mp hp
    by_cases hm : 1 ≤ m.length
    · exact Shp.str (low_128 hn (viewL_low h (by omega)))
    · have em : m = [] := List.length_eq_zero_iff.mp (by omega)
      subst em
      exact Shp.str (l := viewL r [] p) (fun c hc => by
        have e : viewL r [] p = [] := rfl
        rw [e] at hc
        cases hc)
theorem shp_lev {m : List Nat} {n : Nat} (hm : 1 ≤ m.length) (hn : n ≤ 4) (k : Nat) : Shp 3 (rowsT m (lev m n k)) := Shp.list fun x hx => by
  obtain ⟨r, hr, rfl⟩ := List.mem_map.mp hx
  exact shp_rowT hn ((mem_lev hm hn).mp hr).2.1
end HW
set_option maxHeartbeats 4000000
namespace HW
open PySem PySem.Spec PyProof.Rows L2
open SX (S)
section
variable {X : Cx} {W : Wd} {Γ : List DV} {μ : Mu} {n : Str} {pos : Pos} {ns : List Int}
theorem va_ints {K : PySem.W.Frag} {H : Hp} : ∀ ns : List Int, VaAll K H (ns.map V.int) (ns.map PyData.int)
  | [] => .nil
  | n :: ns => .cons (.int n) (va_ints ns)
/-- a constant tuple of ints -/
theorem ed_gtup (hm : HX.gTup X.K X.mg n ns) (hg : Gl X n := by rfl) (h1 : (n == ("__debug__" : Str)) = false := by decide) : Ed X W Γ μ (.Name n pos) (.tuple (ns.map PyData.int)) := by
  obtain ⟨a, hm, hs⟩ := hm
  exact ed_c (pe_glob hg hm (v := .ref a) rfl h1) fun H => .tup (hs H) (va_ints ns)
end
abbrev gWID (K : PySem.W.Frag) (mg : Str → Option Value) : Prop := HX.gTup K mg "MOST_WIDTHS" [12, 8, 5, 4]
abbrev gSEE (K : PySem.W.Frag) (mg : Str → Option Value) : Prop := HX.gTup K mg "MOST_SEEN" [12, 4, 2, 1]
end HW
set_option maxHeartbeats 4000000
namespace HW
open PySem PySem.Spec PyProof.Rows L2
open SX (S)
/-! ### comprehensions with two for -/
/-- what a walked thing wants -/
def wI (X : Cx) (tg iter : Expr) : TI := fun σ H R => ∀ (pins : List (Addr × Obj)) (s : Shared), Inv X pins σ H s → wpAny (model X.prog X.w) X.A (eval iter X.env) (fun v s1 => wpAny (model X.prog X.w) X.A (pyIter v) (PIE X pins σ tg R) X.xe s1) X.xe s
theorem _root_.L2.PI.w {X : Cx} {tg iter : Expr} {t : TI} (h : PI X tg iter t) {σ : L2.St} {H : Hp} {R : It → Hp → Prop} (q : t σ H R) : wI X tg iter σ H R := fun pins s I => h.run pins s σ H R I q
section
variable {X : Cx} {W : Wd} {Γ : List DV} {μ : Mu} {α β : Type} {tg iter tg1 iter1 elt : Expr} {scope : Scope} {enc : α → PyData} {enc1 : β → PyData} {xs : List α} {ys : α → List β} {f : α → β → PyData} {k1 k2 : Nat}
end
section
variable {X : Cx} {W : Wd} {Γ : List DV} {μ : Mu} {α β : Type} {iter iter1 elt : Expr} {scope : Scope} {pos p1 p2 : Pos} {enc : α → PyData} {enc1 : β → PyData} {xs : List α} {n1 n2 : Str}
end
end HW
set_option maxHeartbeats 4000000
namespace HW
open PySem PySem.Spec PyProof.Rows L2
open SX (S)
section
variable {X : Cx} {W : Wd} {Γ : List DV} {μ μ' : Mu} {sts a b rest : List Stmt} {D D' : Ends} {c : Expr} {pos : Pos}
/-- weaker ends -/
theorem Run.mono (h : Run X W Γ μ sts D) (h1 : ∀ σ H, D.nx σ H → D'.nx σ H) (h2 : ∀ v H, D.rt v H → D'.rt v H) (h3 : ∀ σ H, D.bk σ H → D'.bk σ H) (h4 : ∀ σ H, D.ct σ H → D'.ct σ H) : Run X W Γ μ sts D' := fun σ H R pins s I =>
  wpAny_mono (h σ H R pins s I) (fun fl s' q => by
    cases fl with
    | next => obtain ⟨σ', H', I', q'⟩ := q; exact ⟨σ', H', I', h1 _ _ q'⟩
    | brk => obtain ⟨σ', H', I', q'⟩ := q; exact ⟨σ', H', I', h3 _ _ q'⟩
    | cont => obtain ⟨σ', H', I', q'⟩ := q; exact ⟨σ', H', I', h4 _ _ q'⟩
    | ret u => obtain ⟨v, σ', H', I', r, q'⟩ := q; exact ⟨v, σ', H', I', r, h2 _ _ q'⟩) fun _ _ z => z
/-- if, both ways on to one state Φ -/
theorem run_ifJ {k : Bool} (Φ : List DV → Mu → Prop) (hc : EdT X W Γ μ c k) (h1 : k = true → Run X W Γ μ a { D with nx := StP X.K W Φ }) (h2 : k = false → Run X W Γ μ b { D with nx := StP X.K W Φ }) (hr : ∀ Γ' μ', Φ Γ' μ' → Run X W Γ' μ' rest D) : Run X W Γ μ (.If c a b pos :: rest) D :=
  have on : ∀ σ H, StP X.K W Φ σ H → wSs X rest D σ H := fun σ H ⟨Γ', μ', p, R⟩ => hr Γ' μ' p σ H R
  run_if hc (fun q => (h1 q).mono on (fun _ _ z => z) (fun _ _ z => z) (fun _ _ z => z)) (fun q => (h2 q).mono on (fun _ _ z => z) (fun _ _ z => z) (fun _ _ z => z))
end
/-! ### all masks -/
/-! the best ones -/
end HW
set_option maxHeartbeats 4000000
namespace HW
open PySem PySem.Spec PyProof.Rows L2
open SX (S)
/-! ### x[::-1] of texts and lists -/
theorem rev_picked (x : Str) (t : Tok) : (PySem.slicePicked x none none (some (-1, t))).filterMap (x.cps[·]?) = x.cps.toList.reverse := by
  have e : PySem.slicePicked x none none (some (-1, t)) = sliceRange ((x.cps.size : Int) - 1) (-1) (-1) := rfl
  rw [e, PySem.W.krv_sliceRange, PySem.W.krv_range, List.filterMap_reverse, PySem.W.krv_all]
def tRevS (te : TE) : TE := fun σ H Q => te σ H fun x H1 => ∃ z : Str, x = .str z ∧ z.length ≤ sizeLine ∧ Q (.str ⟨z.cps.toList.reverse.toArray⟩) H1
theorem pe_revS {X : Cx} {e : Expr} {te : TE} {k : Nat} {p1 p2 p3 pos : Pos} (he : PE X e te) : PE X (.Subscript e (.Slice none none (some (.UnaryOp .USub (.Constant (.int 1) k p1) p2)) p3) pos) (tRevS te) := by
  refine ⟨fun pins s σ H Q I h => ?_⟩
  refine Subscript_ (thn (he.run pins s σ H _ I h) fun v s1 ⟨x, H1, I1, r1, q1⟩ => ?_)
  obtain ⟨z, ex, hz, q⟩ := q1
  subst ex
  obtain ⟨tz, rfl⟩ := r1
  have hst : PO X (some (.UnaryOp .USub (.Constant (.int 1) k p1) p2)) (tPart (tUn (rU fun i => .int (-i)) (tC (.int 1)))) := po_some (pe_un un_neg pe_int)
  refine wpAny_Slice (thn (po_none.run pins s1 σ H1 (fun o H2 => o = none ∧ H2 = H1) I1 ⟨rfl, rfl⟩) fun vl s2 ⟨l, H2, I2, pl, el, e2⟩ => ?_)
  subst el e2
  refine thn (po_none.run pins s2 σ H2 (fun o H3 => o = none ∧ H3 = H2) I2 ⟨rfl, rfl⟩) fun vu s3 ⟨u, H3, I3, pu, eu, e3⟩ => ?_
  subst eu e3
  refine thn (hst.run pins s3 σ H3 (fun o H4 => o = some (-1) ∧ H4 = H3) I3 ⟨1, rfl, -1, rfl, rfl, rfl⟩) fun vs s4 ⟨o, H4, I4, ps, eo, e4⟩ => ?_
  subst eo e4
  have I5 : Inv X pins σ H4 { s4 with heap := s4.heap.push { cls := .type "slice", data := .fields #[vl, vu, vs] } } := I4.kept (t' := s4.toks) fun b ob q => Heap.get?_push_of_some _ q
  cases pl
  cases pu
  cases ps with
  | int i ts =>
    show wpAny (model X.prog X.w) X.A (subscriptTail e (.Slice none none (some (.UnaryOp .USub (.Constant (.int 1) k p1) p2)) p3) (.str z tz) (.ref s4.heap.objs.size)) (EP X pins σ Q) X.xe { s4 with heap := s4.heap.push { cls := .type "slice", data := .fields #[.none, .none, .int (-1) ts] } }
    refine tail_any (ops := [.str z tz, .ref s4.heap.objs.size]) (typeIs_str _ _ _) F.slot_str_getitem.lookup ?_ (by with_unfolding_all rfl)
    refine wpAny_getItem_str_slice (l := none) (u := none) (st := some (-1, ts)) ⟨_, Heap.get?_push_size _ rfl, rfl, rfl⟩ rfl ?_
    show Made.post (sliceMade z tz none none (some (-1, ts))) _ _
    unfold sliceMade
    rw [if_neg (by simp), rev_picked]
    have hl : (⟨z.cps.toList.reverse.toArray⟩ : Str).length ≤ sizeLine := by
      show (z.cps.toList.reverse.toArray).size ≤ _
      have : (z.cps.toList.reverse.toArray).size = z.cps.size := by simp
      rw [this]
      exact hz
    exact ⟨hl, .str _, H4, I5.tok _, ⟨_, rfl⟩, q⟩
section
variable {X : Cx} {W : Wd} {Γ : List DV} {μ : Mu} {e : Expr} {p1 p2 p3 pos : Pos} {k : Nat} {l : List Nat} {ds : List PyData}
theorem ed_revS (he : Ed X W Γ μ e (sD l)) (hl : l.length ≤ 16777216) : Ed X W Γ μ (.Subscript e (.Slice none none (some (.UnaryOp .USub (.Constant (.int 1) k p1) p2)) p3) pos) (sD l.reverse) := fun σ H R Q q =>
  (pe_revS wE.pe).w (he σ H R _ fun v H2 R2 x2 r2 => by
    cases r2
    refine ⟨S l, rfl, by rw [SX.S_len]; exact hl, ?_⟩
    exact q _ H2 R2 x2 (.str _))
end
/-! ### a, b = a list of two -/
section
variable {X : Cx} {W : Wd} {Γ : List DV} {μ : Mu} {e : Expr} {rest : List Stmt} {D : Ends} {pos p1 p2 : Pos} {n1 n2 : Str} {P : PyData → Prop}
end
end HW
set_option maxHeartbeats 4000000
namespace HW
open PySem PySem.Spec PyProof.Rows L2
open SX (S)
section
variable {X : Cx} {i : Nat} {xs : List Nat}
end
theorem run_ifVJ {X : Cx} {W : Wd} {Γ : List DV} {μ : Mu} {c : Expr} {a b rest : List Stmt} {D : Ends} {pos : Pos} {A : Bool → Prop} (Φ : List DV → Mu → Prop) (hc : EvT X W Γ μ c A) (h1 : A true → Run X W Γ μ a { D with nx := StP X.K W Φ }) (h2 : A false → Run X W Γ μ b { D with nx := StP X.K W Φ }) (hr : ∀ Γ' μ', Φ Γ' μ' → Run X W Γ' μ' rest D) : Run X W Γ μ (.If c a b pos :: rest) D :=
  have on : ∀ σ H, StP X.K W Φ σ H → wSs X rest D σ H := fun σ H ⟨Γ', μ', p, R⟩ => hr Γ' μ' p σ H R
  run_ifV hc (fun q => (h1 q).mono on (fun _ _ z => z) (fun _ _ z => z) (fun _ _ z => z)) (fun q => (h2 q).mono on (fun _ _ z => z) (fun _ _ z => z) (fun _ _ z => z))
/-! ### unlike -/
/-! ### the law's small masks -/
theorem open_get {m : List Nat} {i : Nat} : i ∈ openL m ↔ i < m.length ∧ m[i]? = some 120 := by
  unfold openL
  rw [List.mem_filter, List.mem_range, decide_eq_true_eq, List.getD_eq_getElem?_getD]
  constructor
  · rintro ⟨h1, h2⟩
    rw [List.getElem?_eq_getElem h1] at h2 ⊢
    exact ⟨h1, congrArg some h2⟩
  · rintro ⟨h1, h2⟩
    rw [h2]
    exact ⟨h1, rfl⟩
end HW
set_option maxHeartbeats 4000000
namespace HW
open PySem PySem.Spec PyProof.Rows L2
open SX (S)
/-! ### rows whose views differ much -/
def R_longest_rows (ds : List PyData) (d : PyData) : Prop := ∃ (m : List Nat) (n : Nat), ds = [sD m, nn n] ∧ Small m n ∧ d = wD (lev m n (topK m n - 1))
section
variable {X : Cx} {ds : List PyData}
end
end HW
set_option maxHeartbeats 4000000
namespace HW
open PySem PySem.Spec PyProof.Rows L2
open SX (S)
/-! ### shorter turns -/
theorem wk_n : wk [] [] := trivial
theorem wk_s {a : DV} {as bs : List DV} (h : wk as bs) : wk (a :: as) (a :: bs) := ⟨.inr rfl, h⟩
theorem wk_0 {a : DV} {as bs : List DV} (h : wk as bs) : wk (a :: as) (.no :: bs) := ⟨.inl rfl, h⟩
/-- a state that has Γ' and μ' -/
def Stt (K : PySem.W.Frag) (W : Wd) (Γ' : List DV) (μ' : Mu) : L2.St → Hp → Prop := StP K W (fun Γ μ => wk Γ Γ' ∧ μ = μ')
section
variable {X : Cx} {W : Wd} {Γ Γ' : List DV} {μ μ' : Mu} {α : Type} {iter : Expr} {a b body rest : List Stmt} {pos p : Pos} {enc : α → PyData} {D : Ends} {n : Str} {c : Expr}
/-- the end of a turn, a branch -/
theorem run_e {rt : VK} {bk ct : L2.St → Hp → Prop} (hm : μ = μ' := by rfl) (w : wk Γ Γ' := by repeat (first | exact wk_n | refine wk_s ?_ | refine wk_0 ?_)) : Run X W Γ μ [] ⟨Stt X.K W Γ' μ', rt, bk, ct⟩ := run_turn rfl ⟨w, hm⟩
/-- for n in iter: before turn i the state is Γ0 i, μ0 i -/
theorem run_forS {xs : List α} (k : Nat) (hi : IterD X W Γ μ (.Name n p) iter enc xs) (Γ0 : Nat → List DV) (μ0 : Nat → Mu)
    (hs : ∀ W1, Wle W W1 → ∀ i x, xs[i]? = some x → Run X W1 ((Γ0 i).set k (.d (enc x))) (μ0 i) body { D with nx := Stt X.K W1 (Γ0 (i + 1)) (μ0 (i + 1)), ct := Stt X.K W1 (Γ0 (i + 1)) (μ0 (i + 1)), bk := wSs X rest D })
    (hd' : Run X W (Γ0 xs.length) (μ0 xs.length) rest D) (hN : X.N.Nodup) (hk : ∀ i, (Γ0 i)[k]? = some .no := by intro _; rfl) (hm : μ = μ0 0 := by first | rfl | (simp; done)) (w : wk Γ (Γ0 0) := by repeat (first | exact wk_n | refine wk_s ?_ | refine wk_0 ?_)) (hn : X.N[k]? = some n := by rfl) (hx : Loc X.env.scope n := by first | exact Or.inl rfl | exact Or.inr rfl) (hff : X.fn n = true ∨ X.env.scope.names.lookup n = some .local := by first | exact .inr rfl | exact .inl rfl)
    (hp : PassesOwn (model X.prog X.w) X.A X.env X.xe := by exact PassesOwn.never) (hc : X.calm = true := by rfl) (hf : ∀ x, foldedSetIterable iter X.env x = pure x := by intro _; rfl) :
    Run X W Γ μ (.For (.Name n p) iter body [] pos :: rest) D :=
  run_for k hi (fun i Γ μ => wk Γ (Γ0 i) ∧ μ = μ0 i) ⟨w, hm⟩ (fun W1 l i x Γ' μ' h ⟨w', e⟩ => by
    subst e
    refine run_weak (hs W1 l i x h) ?_
    exact wk_set w' k) (fun Γ' μ' ⟨w', e⟩ => by
    subst e
    exact run_weak hd' w') hN hn hx hff hp hc hf
where
  wk_set : ∀ {Γ Γ' : List DV}, wk Γ Γ' → ∀ k {d : DV}, wk (Γ.set k d) (Γ'.set k d)
    | [], [], _, _, _ => trivial
    | a :: as, b :: bs, h, 0, d => ⟨.inr rfl, h.2⟩
    | a :: as, b :: bs, h, k + 1, d => ⟨h.1, wk_set h.2 k⟩
end
/-! ### len and the like, short -/
section
variable {X : Cx} {W : Wd} {Γ : List DV} {μ : Mu} {a : Expr} {pos p : Pos} {l : List Nat} {ds : List PyData}
theorem lenS (G : Gs X.mg) (h : Ed X W Γ μ a (sD l)) (hl : l.length ≤ 16777216 := by omega) (hg : Gl X "len" := by rfl) (he : starEach [a] X.env = (false, eval a X.env) :: starEach [] X.env := by rfl) : Ed X W Γ μ (.Call (.Name "len" p) [a] [] pos) (nn l.length) := ed_callB G.len boot_len (ea_cons h ea_nil he) (c_lenS hl) hg (he := he)
theorem lenL (G : Gs X.mg) (h : Ed X W Γ μ a (.list ds)) (hg : Gl X "len" := by rfl) (he : starEach [a] X.env = (false, eval a X.env) :: starEach [] X.env := by rfl) : Ed X W Γ μ (.Call (.Name "len" p) [a] [] pos) (nn ds.length) := ed_callB G.len boot_len (ea_cons h ea_nil he) c_lenL hg (he := he)
theorem lenLw {ws : List (List Nat)} (G : Gs X.mg) (h : Ed X W Γ μ a (wD ws)) (hg : Gl X "len" := by rfl) (he : starEach [a] X.env = (false, eval a X.env) :: starEach [] X.env := by rfl) : Ed X W Γ μ (.Call (.Name "len" p) [a] [] pos) (nn ws.length) := (lenL G h hg he).to (by rw [List.length_map])
end
end HW
set_option maxHeartbeats 4000000
namespace HW
open PySem PySem.Spec PyProof.Rows L2
open SX (S)
/-! ### what it is to be told -/
theorem nodup_range {α : Type} (f : Nat → α) (n : Nat) : ((List.range n).map f).Nodup ↔ ∀ p q, p < q → q < n → f p ≠ f q := by
  induction n with
  | zero => simp
  | succ n ih =>
    rw [List.range_succ, List.map_append, List.nodup_append, ih]
    constructor
    · rintro ⟨h1, _, h3⟩ p q hpq hq
      by_cases e : q = n
      · subst e
        exact h3 _ (List.mem_map.mpr ⟨p, List.mem_range.mpr hpq, rfl⟩) _ (by simp)
      · exact h1 p q hpq (by omega)
    · intro h
      refine ⟨fun p q hpq hq => h p q hpq (by omega), by simp, fun x hx y hy e => ?_⟩
      obtain ⟨p, hp, rfl⟩ := List.mem_map.mp hx
      have hp' := List.mem_range.mp hp
      have ey : y = f n := by simpa using hy
      subst ey
      exact h p n hp' (Nat.lt_succ_self n) e
theorem seen_get {m : List Nat} {i : Nat} : i ∈ seenL m ↔ i < m.length ∧ m[i]? = some 120 := by rw [← open_seen]; exact open_get
theorem map_ne {α : Type} {f g : Nat → α} {l : List Nat} : l.map f ≠ l.map g ↔ ∃ a ∈ l, f a ≠ g a := by
  constructor
  · intro h
    apply Classical.byContradiction
    intro hn
    refine h (List.map_congr_left fun a ha => ?_)
    apply Classical.byContradiction
    intro h2
    exact hn ⟨a, ha, h2⟩
  · rintro ⟨a, ha, hne⟩ e
    exact hne (List.map_inj_left.mp e a ha)
theorem tells_iff {l m : List Nat} : tellsB l m = true ↔ ∀ p q, p < q → q + m.length ≤ l.length → ∃ a, a < m.length ∧ m[a]? = some 120 ∧ l.getD (p + a) 0 ≠ l.getD (q + a) 0 := by
  unfold tellsB viewsL
  rw [decide_eq_true_iff, nodup_range]
  constructor
  · intro h p q h1 h2
    obtain ⟨a, ha, hne⟩ := map_ne.mp (h p q h1 (by omega))
    obtain ⟨h3, h4⟩ := seen_get.mp ha
    exact ⟨a, h3, h4, hne⟩
  · intro h p q h1 h2
    obtain ⟨a, h3, h4, h5⟩ := h p q h1 (by omega)
    exact map_ne.mpr ⟨a, seen_get.mpr ⟨h3, h4⟩, h5⟩
theorem getD_rev {l : List Nat} {i : Nat} (h : i < l.length) : l.reverse.getD i 0 = l.getD (l.length - 1 - i) 0 := by
  rw [List.getD_eq_getElem?_getD, List.getD_eq_getElem?_getD, List.getElem?_reverse h]
theorem tells_rev1 {l m : List Nat} (h : tellsB l m = true) : tellsB l.reverse m.reverse = true := by
  rw [tells_iff] at h ⊢
  rw [List.length_reverse, List.length_reverse]
  intro p q h1 h2
  obtain ⟨a, h3, h4, h5⟩ := h (l.length - m.length - q) (l.length - m.length - p) (by omega) (by omega)
  refine ⟨m.length - 1 - a, by omega, ?_, ?_⟩
  · rw [List.getElem?_reverse (by omega)]
    have e : m.length - 1 - (m.length - 1 - a) = a := by omega
    rw [e]
    exact h4
  · rw [getD_rev (by omega), getD_rev (by omega)]
    have e1 : l.length - 1 - (p + (m.length - 1 - a)) = l.length - m.length - p + a := by omega
    have e2 : l.length - 1 - (q + (m.length - 1 - a)) = l.length - m.length - q + a := by omega
    rw [e1, e2]
    exact fun e => h5 e.symm
theorem tells_rev (l m : List Nat) : tellsB l.reverse m.reverse = tellsB l m := by
  rw [Bool.eq_iff_iff]
  refine ⟨fun h => ?_, tells_rev1⟩
  have := tells_rev1 h
  rwa [List.reverse_reverse, List.reverse_reverse] at this
theorem getD_mapL {l : List Nat} {g : Nat → Nat} {i : Nat} (h : i < l.length) : (l.map g).getD i 0 = g (l.getD i 0) := by
  rw [List.getD_eq_getElem?_getD, List.getD_eq_getElem?_getD, List.getElem?_map, List.getElem?_eq_getElem h]
  rfl
theorem getD_memL {l : List Nat} {i : Nat} (h : i < l.length) : l.getD i 0 ∈ l := by
  rw [List.getD_eq_getElem?_getD, List.getElem?_eq_getElem h]
  exact List.getElem_mem h
theorem tells_map {l m : List Nat} {g : Nat → Nat} (hg : ∀ x ∈ l, ∀ y ∈ l, g x = g y → x = y) : tellsB (l.map g) m = tellsB l m := by
  rw [Bool.eq_iff_iff, tells_iff, tells_iff, List.length_map]
  constructor
  · intro h p q h1 h2
    obtain ⟨a, h3, h4, h5⟩ := h p q h1 h2
    rw [getD_mapL (by omega), getD_mapL (by omega)] at h5
    exact ⟨a, h3, h4, fun e => h5 (by rw [e])⟩
  · intro h p q h1 h2
    obtain ⟨a, h3, h4, h5⟩ := h p q h1 h2
    refine ⟨a, h3, h4, ?_⟩
    rw [getD_mapL (by omega), getD_mapL (by omega)]
    exact fun e => h5 (hg _ (getD_memL (by omega)) _ (getD_memL (by omega)) e)
/-! ### distances -/
end HW
set_option maxHeartbeats 4000000
namespace HW
open PySem PySem.Spec PyProof.Rows L2
open SX (S)
/-! ### methods of texts with one text: find, index, count -/
section
variable {X : Cx} {W : Wd} {Γ : List DV} {μ : Mu} {o e : Expr} {apos pos : Pos} {l : List Nat} {c : Nat}
/-- s.index(sign), its place told -/
theorem ed_index1 {i : Nat} {rest : List Nat} (ho : Ed X W Γ μ o (sD l)) (he : Ed X W Γ μ e (sg c)) (hi : Builtin.Str.occurrences (S l) (⟨#[c]⟩ : Str) 0 (S l).length 1 = i :: rest) (hs : starEach [e] X.env = [(false, eval e X.env)] := by rfl) (hbase : attributeBase o "index" X.env (eval o X.env) = eval o X.env := by rfl) (hline : (apos.endLine == pos.line) = true := by rfl) :
    Ed X W Γ μ (.Call (.Attribute o "index" apos) [e] [] pos) (nn i) := fun σ H R Q q => by
  refine (pe_m1 PySem.F.slot_str_index PySem.F.type_str_index mt_sindex wE.pe wE.pe hs hbase hline).w (ho σ H R _ fun v H2 R2 e2 r2 => ?_)
  cases r2
  refine ⟨⟨_, rfl⟩, he σ H2 R2 _ fun v H3 R3 e3 r3 => ?_⟩
  cases r3
  exact ⟨_, _, i, rest, rfl, rfl, hi, q _ H3 R3 (e2.trans e3) (.int _)⟩
end
/-! ### turned letters, masks with one place more open -/
end HW
set_option maxHeartbeats 4000000
namespace HW
open PySem PySem.Spec PyProof.Rows L2
open SX (S)
open PySem.W (dataLt minD maxD AlikeAll AllAlike Sortable EachIs dataLe alike)
/-! ### the order of data: <, min, max, sorted -/
section
variable {X : Cx} {pins : List (Addr × Obj)} {σ : L2.St} {H : Hp} {s : Shared} {L : List Addr}
end
/-! sorted -/
section
variable {X : Cx}
/-- the sorted list -/
def sortD (ds : List PyData) : List PyData := ds.mergeSort (dataLe false id)
end
/-! texts: the order is that of their signs -/
theorem ltS (a b : List Nat) : dataLt (sD a) (sD b) = decide (a < b) := by
  rw [PySem.W.dataLt_str]
theorem alike_S {ws : List (List Nat)} : AlikeAll (ws.map sD) := ⟨fun x hx y hy => by
  obtain ⟨a, _, rfl⟩ := List.mem_map.mp hx
  obtain ⟨b, _, rfl⟩ := List.mem_map.mp hy
  simp only [alike], fun x hx => by
  obtain ⟨a, _, rfl⟩ := List.mem_map.mp hx
  intro e
  cases e⟩
end HW
set_option maxHeartbeats 4000000
namespace HW
open PySem PySem.Spec PyProof.Rows L2
open SX (S)
/-! ### turns that carry a fact -/
section
variable {X : Cx} {W : Wd} {Γ Γ' : List DV} {μ μ' : Mu} {α : Type} {iter a b : Expr} {body rest : List Stmt} {pos p : Pos} {enc : α → PyData} {D : Ends} {n : Str} {c : Expr}
end
/-! ### rings -/
theorem words_lev {m : List Nat} {n : Nat} (hm : 1 ≤ m.length) : ∀ k, (words n k).filter (fun r => tellsB r m) = lev m n k
  | 0 => by
    have : tellsB [] m = true := by
      unfold tellsB viewsL
      have : ([] : List Nat).length + 1 - m.length = 0 := by simp; omega
      rw [this]
      rfl
    simp [words, lev, this]
  | k + 1 => by
    show ((words n k).flatMap fun v => (letL n).map fun c => v ++ [c]).filter _ = (lev m n k).flatMap (stepR m n)
    rw [← words_lev hm k]
    generalize words n k = ws
    induction ws with
    | nil => rfl
    | cons v ws ih =>
      rw [List.flatMap_cons, List.filter_append, ih]
      by_cases ht : tellsB v m = true
      · rw [List.filter_cons_of_pos (p := fun r => tellsB r m) ht, List.flatMap_cons]
        congr 1
        unfold stepR
        rw [List.filter_map]
        congr 1
        refine List.filter_congr fun c _ => ?_
        show tellsB (v ++ [c]) m = okC m v c
        rw [tells_snoc v m c hm, ht, Bool.true_and]
      · rw [List.filter_cons_of_neg (p := fun r => tellsB r m) ht]
        have e : ((letL n).map fun c => v ++ [c]).filter (fun r => tellsB r m) = [] := by
          rw [List.filter_eq_nil_iff]
          intro r hr
          obtain ⟨c, _, rfl⟩ := List.mem_map.mp hr
          rw [tells_snoc v m c hm]
          simp [ht]
        rw [e, List.nil_append]
theorem mem_words_iff {n : Nat} (hn : n ≤ 4) : ∀ {s : Nat} {v : List Nat}, v ∈ words n s → v.length = s ∧ lowL n v
  | 0, v, h => by
    have e : v = [] := by simpa [words] using h
    subst e
    exact ⟨rfl, fun c hc => nomatch hc⟩
  | s + 1, v, h => by
    obtain ⟨u, hu, hv⟩ := List.mem_flatMap.mp h
    obtain ⟨c, hc, rfl⟩ := List.mem_map.mp hv
    obtain ⟨h1, h2⟩ := mem_words_iff hn hu
    refine ⟨by simp [h1], fun x hx => ?_⟩
    rcases List.mem_append.mp hx with z | z
    · exact h2 x z
    · rw [List.mem_singleton.mp z]
      exact (mem_letL hn).mp hc
theorem Small.words {m : List Nat} {n k : Nat} (h : Small m n) (hk : k ≤ n ^ (seenL m).length) : (words n k).length ≤ 8388608 := by
  have h1 := h.pos
  exact Nat.le_trans (words_len h.hi k) (Nat.le_trans (Nat.pow_le_pow_right h.lo (by omega)) h.bound.1)
end HW
set_option maxHeartbeats 4000000
namespace HW
open PySem PySem.Spec PyProof.Rows L2
open SX (S)
open PySem.W (dataLt minD maxD AlikeAll AllAlike Sortable EachIs dataLe alike)
/-! ### pairs (number, text) in order -/
section
variable {X : Cx}
end
/-! ### "".join of signs that are drawn -/
section
variable {X : Cx} {W : Wd} {Γ : List DV} {μ : Mu} {α : Type} {iter elt o : Expr} {scope : Scope} {pos pos2 apos p : Pos} {enc : α → PyData} {n : Str} {P : List α → Prop} {Q : Nat → Prop}
end
/-! ### mending -/
end HW
set_option maxHeartbeats 4000000
namespace HW
open PySem PySem.Spec PyProof.Rows L2
open SX (S)
open PySem.W (dataLt minD maxD AlikeAll AllAlike Sortable EachIs dataLe alike)
/-! ### a list in strict order is the sorted one -/
theorem perm_sorted {α : Type} {lt : α → α → Bool} (hirr : ∀ a, lt a a = false) : ∀ {zs s : List α}, s.Perm zs → s.Pairwise (fun a b => lt b a = false) → zs.Pairwise (fun a b => lt a b = true) → s = zs
  | [], s, hp, _, _ => List.Perm.eq_nil hp
  | z :: zs, [], hp, _, _ => by have := hp.length_eq; simp at this
  | z :: zs, x :: s, hp, h1, h2 => by
    have hx : x ∈ z :: zs := hp.mem_iff.mp List.mem_cons_self
    have hz : z ∈ x :: s := hp.mem_iff.mpr List.mem_cons_self
    have e : x = z := by
      rcases List.mem_cons.mp hx with e | hx
      · exact e
      · rcases List.mem_cons.mp hz with e | hz
        · exact e.symm
        · have a := (List.pairwise_cons.mp h2).1 x hx
          have b := (List.pairwise_cons.mp h1).1 z hz
          rw [a] at b
          cases b
    subst e
    rw [perm_sorted hirr (List.Perm.cons_inv hp) (List.pairwise_cons.mp h1).2 (List.pairwise_cons.mp h2).2]
theorem sortD_of {ds zs : List PyData} (hp : ds.Perm zs) (h : zs.Pairwise fun a b => dataLt a b = true) : sortD ds = zs := by
  refine perm_sorted (lt := dataLt) (fun d => PyProof.Rows.lex_irrefl (O := PyProof.Rows.itemOrd) _) ((List.mergeSort_perm ds _).trans hp) ?_ h
  have := PySem.W.sort_pairwise (PySem.W.sortLe_total (PyProof.Rows.listOrd PyProof.Rows.itemOrd) false fun b : PyData => PySem.W.keyToks (id b)) ds
  refine this.imp fun {a b} q => ?_
  have q' : (!dataLt b a) = true := q
  simpa using q'
/-! ### looks -/
/-! ### either way -/
abbrev Stand := Nat × Bool
def backL (l m : List Nat) (p : Nat) : List Nat := (seenL m).map fun a => l.getD (p - a) 0
def standAt (l m : List Nat) (p : Nat) : List (Stand × List Nat) := (if m.length ≤ p + 1 then [((p, false), backL l m p)] else []) ++ (if p + m.length ≤ l.length then [((p, true), viewL l m p)] else [])
end HW
set_option maxHeartbeats 4000000
namespace HW
open PySem PySem.Spec PyProof.Rows L2
open SX (S)
section
variable {X : Cx} {W : Wd} {Γ Γ' : List DV} {μ μ' : Mu} {α : Type} {iter : Expr} {body rest : List Stmt} {pos : Pos} {D : Ends}
end
section
variable {X : Cx} {W : Wd} {Γ : List DV} {μ : Mu} {a b : Expr} {pos p p2 : Pos} {n : Str} {r scr : Addr} {ns : List Int} {k : Nat} {l m : List Nat}
end
/-! ### the first like ones -/
end HW
set_option maxHeartbeats 4000000
namespace HW
open PySem PySem.Spec PyProof.Rows L2
open SX (S)
/-! ### local dicts whose keys are numbers or texts -/
section
variable {κ : Type} [DecidableEq κ]
end
section
variable {κ : Type} [DecidableEq κ] {K : PySem.W.Frag} {H : Hp} {ks : List (κ × V)} {kvs : List (κ × PyData)} {k : κ} {v : V} {d : PyData}
end
section
variable {X : Cx} {W W0 : Wd} {Γ : List DV} {μ : Mu} {e b value : Expr} {rest : List Stmt} {D : Ends} {pos p p1 p2 pd pos' : Pos} {n n1 n2 : Str} {k : L2.Key} {kvs : List (L2.Key × PyData)} {l : Addr} {d y : PyData}
end
/-! ### xs.index(text); x or "a" -/
section
variable {X : Cx} {W : Wd} {Γ : List DV} {μ : Mu} {o e a b : Expr} {apos pos : Pos} {ws : List (List Nat)} {w : List Nat} {j : Nat}
end
/-! ### draws of great numbers -/
section
variable {X : Cx} {W : Wd} {Γ : List DV} {μ : Mu} {a : Expr} {pos p p2 : Pos} {n : Str} {r scr : Addr} {ns : List Int} {k : Nat}
end
end HW
set_option maxHeartbeats 4000000
namespace HW
open PySem PySem.Spec PyProof.Rows L2
open SX (S)
/-! ### rows without end -/
end HW
set_option maxHeartbeats 4000000
namespace HW
open PySem PySem.Spec PyProof.Rows L2
open SX (S)
/-! ### local lists: copied, read, written at a place -/
section
variable {X : Cx} {W W0 : Wd} {Γ : List DV} {μ : Mu} {e value i' : Expr} {rest : List Stmt} {D : Ends} {pos p p1 p2 pos' : Pos} {n : Str} {l : Addr} {d y : PyData} {ds ys : List PyData} {z : Int}
end
/-! ### rows put together -/
abbrev gL (f : List Nat) : PyData := .list (f.map sg)
end HW
set_option maxHeartbeats 4000000
namespace HW
open PySem PySem.Spec PyProof.Rows L2
open SX (S)
/-! ### enumerate over text, list or tuple -/
open Sem (wp) in
open AutoSeq1 (wpAny_loadPart') in
section
variable {X : Cx} {W : Wd} {Γ : List DV} {μ : Mu} {α : Type} {a : Expr} {pos p tpos : Pos} {elts : List Expr} {kk : Nat} {d : PyData} {enc : α → PyData} {xs : List α}
end
/-! ### looks laid -/
section
variable {X : Cx} {W : Wd} {Γ : List DV} {μ : Mu} {a b : Expr} {pos p p2 : Pos} {n : Str} {r scr : Addr} {ns : List Int} {k : Nat} {l m : List Nat}
end
end HW
set_option maxHeartbeats 4000000
namespace HW
open PySem PySem.Spec PyProof.Rows L2
open SX (S)
/-! ### sets whose table can be walked -/
/-- the table's places rise, and their order is the table's own -/
def WalkT (w : World) (t : SetTable) : Prop := Ris t.place.toList ∧ (w.params.followText "set-order" = true ∨ t.led = true)
theorem WalkT.off {w : World} {t : SetTable} (h : WalkT w t) : WalkT w { t with plain := false } := h
theorem WalkT.lay {w : World} {t : SetTable} (g : WalkT w t) (es : Array (Int × Value)) (h : Int) (x : Value) : WalkT w (layNew t es h x).2.1 := ⟨layNew_ris t es h x g.1, g.2.imp id fun e => (layNew_led t es h x).trans e⟩
theorem WalkT.relay {w : World} {t : SetTable} (g : WalkT w t) (es : Array (Int × Value)) (n : Nat) : WalkT w (relayAll t es n).2.1 := ⟨relayAll_ris t es n, g.2.imp id fun e => (relayAll_led t es n).trans e⟩
section
variable {prog : Program} {w : World} {K : Type} [DecidableEq K] (knd : KeyKind prog w K)
/-- the elements es are the n keys of S -/
structure HasK (S : K → Bool) (n : Nat) (es : Array (Int × Value)) (t : SetTable) : Prop where
  els : ElemsOf knd es.toList
  mem : ∀ k, S k = true ↔ ∃ e ∈ es.toList, knd.is k e.2 = true
  few : es.size < scanBound
  fits : t.fits es.size = true
  num : es.size = n
  walk : WalkT w t
def SetG (h : Heap) (a : Addr) (S : K → Bool) (n : Nat) : Prop := ∃ o es ep t, h.get? a = some o ∧ o.ExactSet ∧ o.data = .set es ep t ∧ HasK knd S n es t
variable {knd}
theorem SetG.keep {h h' : Heap} {a : Addr} {S : K → Bool} {n : Nat} (g : SetG knd h a S n) (k : ∀ o, h.get? a = some o → h'.get? a = some o) : SetG knd h' a S n :=
  let ⟨o, es, ep, t, ho, r⟩ := g; ⟨o, es, ep, t, k o ho, r⟩
theorem SetG.eq {h : Heap} {a : Addr} {S S' : K → Bool} {n n' : Nat} (g : SetG knd h a S n) (e : ∀ k, S k = S' k) (en : n = n') : SetG knd h a S' n' := by
  have : S = S' := funext e
  subst this
  subst en
  exact g
theorem SetG.setOf {h : Heap} {a : Addr} {S : K → Bool} {n : Nat} (g : SetG knd h a S n) : h.SetOf knd a S n :=
  let ⟨o, es, ep, t, ho, hx, hd, r⟩ := g; ⟨o, es, ep, t, ho, hx, hd, r.els, r.mem, r.few, r.fits, r.num⟩
theorem SetG.fresh {h : Heap} : SetG knd (h.push { cls := .type "set", dict := none, data := .set #[] 0 (.fresh 0 0 (!w.params.followText "set-order")) }) h.objs.size (fun _ => false) 0 :=
  ⟨_, #[], 0, _, Heap.get?_push_size _ rfl, ⟨rfl, rfl, rfl⟩, rfl, { els := fun e he => by simp at he, mem := fun k => by simp, few := by decide, fits := by rfl, num := rfl, walk := ⟨List.Pairwise.nil, by
    show _ ∨ (!w.params.followText "set-order") = true
    cases w.params.followText "set-order"
    · exact .inr rfl
    · exact .inl rfl⟩ }⟩
/-- the elements in another order, under another table -/
theorem HasK.perm {S : K → Bool} {n : Nat} {es es' : Array (Int × Value)} {t t' : SetTable} (g : HasK knd S n es t) (p : es'.toList.Perm es.toList) (hf : t'.fits es'.size = true) (hw : WalkT w t') : HasK knd S n es' t' := by
  have hz : es'.size = es.size := by rw [← Array.length_toList, p.length_eq, Array.length_toList]
  exact { els := g.els.perm p, mem := fun k => (g.mem k).trans ⟨fun ⟨e, he, q⟩ => ⟨e, p.mem_iff.mpr he, q⟩, fun ⟨e, he, q⟩ => ⟨e, p.mem_iff.mp he, q⟩⟩, few := by rw [hz]; exact g.few, fits := hf, num := hz.trans g.num, walk := hw }
/-- one more -/
theorem HasK.push {S : K → Bool} {n : Nat} {es es' : Array (Int × Value)} {t t' : SetTable} {k : K} {x : Value} (g : HasK knd S n es t) (hk : knd.is k x = true) (hx : x.scannable = true) (p : es'.toList.Perm (es.toList ++ [(knd.hash k, x)])) (hf : t'.fits es'.size = true) (hw : WalkT w t') (hn : n + 1 < scanBound) :
    HasK knd (fun j => S j || decide (j = k)) (n + 1) es' t' := by
  have hz : es'.size = n + 1 := by rw [← Array.length_toList, p.length_eq, List.length_append, Array.length_toList, g.num]; rfl
  exact { els := (g.els.push hk hx).perm p, mem := mem_push_iff hk g.mem p, few := by rw [hz]; exact hn, fits := hf, num := hz, walk := hw }
section
variable {A : Around} {E : Value → Shared → Prop} {s : Shared} {a : Addr} {S : K → Bool} {n : Nat}
theorem SetG.stored {h : Heap} {o : Obj} {es es' : Array (Int × Value)} {ep : Nat} {t t' : SetTable} (ho : h.get? a = some o) (hx : o.ExactSet) (hd : o.data = .set es ep t) (g : HasK knd S n es' t') : SetG knd (h.update a (Obj.putSet es' t')) a S n :=
  ⟨_, es', _, t', store_at ho hd, hx, rfl, g⟩
theorem setG_tail {g : Bool → Sem Unit} (hg : ∀ (b : Bool) (s₁ : Shared) (Q' : Unit → Shared → Prop), Q' () s₁ → wpAny (model prog w) A (g b) Q' E s₁)
    {o : Obj} {es es1 : Array (Int × Value)} {ep : Nat} {t t2 : SetTable} (ho : s.heap.get? a = some o) (hx : o.ExactSet) (hd : o.data = .set es ep t) (H : HasK knd S n es1 t2) {wasDummy : Bool} {R : Option Bool → Shared → Prop}
    (hR : ∀ h', Heap.SameBut a s.heap h' → SetG knd h' a S n → R (some true) { s with heap := h' }) :
    wpAny (model prog w) A (do
        storeSet a es1 t2
        if (!wasDummy && t2.tooFull) = true then do
            g (relayAll t2 es1 (SetTable.grown es1.size)).2.2
            storeSet a (relayAll t2 es1 (SetTable.grown es1.size)).1 (relayAll t2 es1 (SetTable.grown es1.size)).2.1
            pure (some true)
          else pure (some true)) R E s := by
  refine wpAny_bind (wpAny_storeSet_of ho hd ?_ (fits_of_scanBound H.few))
  have sb := Heap.SameBut.update s.heap a (Obj.putSet es1 t2)
  split
  · have H2 := H.perm (relayAll_perm t2 es1 (SetTable.grown es1.size)) (relayAll_fits t2 es1 (SetTable.grown es1.size)) (H.walk.relay es1 (SetTable.grown es1.size))
    have ho1 := store_at (es' := es1) (t' := t2) ho hd
    exact wpAny_bind (hg _ _ _ (wpAny_bind (wpAny_storeSet_of ho1 rfl (wpAny_pure (hR _ (sb.trans (Heap.SameBut.update _ a _)) (SetG.stored ho1 hx rfl H2))) (fits_of_scanBound H2.few))))
  · exact wpAny_pure (hR _ sb (SetG.stored ho hx hd H))
/-- a key is put in -/
theorem setG_add {k : K} {x : Value} {Q : Bool → Shared → Prop} (hk : knd.is k x = true) (hx : x.scannable = true) (G : SetG knd s.heap a S n) (hn : n + 1 < scanBound)
    (hQ : ∀ h', Heap.SameBut a s.heap h' → SetG knd h' a (fun j => S j || decide (j = k)) (if S k then n else n + 1) → Q (!S k) { s with heap := h' }) :
    wpAny (model prog w) A (setAddHashed a x (knd.hash k)) Q E s := by
  obtain ⟨o, es, ep, t, ho, hex, hd, H⟩ := G
  unfold setAddHashed setAddHashedIn
  refine wpAny_holding (wpAny_bind (wpAny_setState_of ho hd H.fits ?_))
  dsimp only
  rw [byScan_of hx H.few H.els]
  simp only [↓reduceIte]
  unfold setAddByScan
  refine wpAny_bind (wpAny_bind (wpAny_rule (wpAny_bind (wpAny_setScan_of hk ho hd H.fits H.els ?_))))
  cases hr : List.findIdx? (fun e => knd.is k e.2) es.toList with
  | some j =>
    dsimp only
    obtain ⟨hj, hpj, _⟩ := List.findIdx?_eq_some_iff_getElem.mp hr
    have hS : S k = true := (H.mem k).mpr ⟨es.toList[j], List.getElem_mem hj, hpj⟩
    have z := hQ s.heap (Heap.SameBut.refl a s.heap) (SetG.eq ⟨o, es, ep, t, ho, hex, hd, H⟩ (fun j => by
      by_cases e : j = k
      · rw [e, hS]; rfl
      · rw [decide_eq_false e, Bool.or_false]) (by rw [hS]; rfl))
    rw [hS] at z
    exact wpAny_pure (wpAny_pure z)
  | none =>
    dsimp only
    have hS : S k = false := by
      rw [← Bool.not_eq_true, H.mem k]
      rintro ⟨e, he, q⟩
      have := List.findIdx?_eq_none_iff.mp hr e he
      rw [q] at this
      cases this
    have hgw : ∀ (b : Bool) (s₁ : Shared) (Q' : Unit → Shared → Prop), Q' () s₁ → wpAny (model prog w) A (match b with | true => rule "set.scan.the-table-gave-way" | false => pure ()) Q' E s₁ := fun b s₁ Q' q => by
      cases b
      · exact wpAny_pure q
      · exact wpAny_rule q
    have hp := layNew_perm t es (knd.hash k) x
    rw [Array.toList_push] at hp
    have H1 := H.push hk hx hp (layNew_fits t es (knd.hash k) x) (H.walk.lay es (knd.hash k) x) hn
    generalize layNew t es (knd.hash k) x = Z at H1 ⊢
    obtain ⟨es1, t1, wasDummy, gave⟩ := Z
    have fin : ∀ h', Heap.SameBut a s.heap h' → SetG knd h' a (fun j => S j || decide (j = k)) (n + 1) → Q true { s with heap := h' } := fun h' sb r => by
      have z := hQ h' sb
      rw [hS] at z
      exact z r
    dsimp only at H1 ⊢
    refine wpAny_bind (hgw _ _ _ ?_)
    split
    · refine wpAny_bind ?_
      rw [hashByValue_scannable 8 hx]
      refine wpAny_pure (setG_tail (knd := knd) (fun b s₁ Q' q => hgw b s₁ Q' q) ho hex hd (S := fun j => S j || decide (j = k)) (n := n + 1) ?_ fun h' sb r => ?_)
      · split
        · exact H1
        · exact { H1 with fits := SetTable.fits_plain_off H1.fits, walk := H1.walk.off }
      · exact wpAny_pure (fin h' sb r)
    · refine wpAny_bind (wpAny_pure ?_)
      simp only [↓reduceIte]
      exact setG_tail (knd := knd) (fun b s₁ Q' q => hgw b s₁ Q' q) ho hex hd H1 fun h' sb r => wpAny_pure (fin h' sb r)
end
end
section
variable {prog : Program} {w : World} {K : Type} [DecidableEq K] {knd : KeyKind prog w K} {A : Around} {R : Result → Shared → Prop} {I : Addr} {fp wr : List Addr} {G : Array GenState → Array GenState → Prop} {n : Nat} {P : Nat → Value → Prop} {St : Nat → Shared → Prop}
theorem uq_grow {α : Type} [DecidableEq α] : ∀ (ks acc : List α), acc.length ≤ (ks.foldl uqS acc).length
  | [], acc => Nat.le_refl _
  | k :: ks, acc => by
    rw [List.foldl_cons]
    refine Nat.le_trans ?_ (uq_grow ks (uqS acc k))
    unfold uqS
    split
    · exact Nat.le_refl _
    · rw [List.length_append]; exact Nat.le_add_right _ _
theorem uq_take {α : Type} [DecidableEq α] (ks : List α) (i : Nat) : (uq (ks.take i)).length ≤ (uq ks).length := by
  have h := uq_grow (ks.drop i) (uq (ks.take i))
  unfold uq at h ⊢
  rw [← List.foldl_append, List.take_append_drop] at h
  exact h
/-- the keys of an iterator put in, one after the other -/
theorem setG_loop (W : WalksS prog w A.in1 I fp wr G n P St) (S : Addr) (hSf : S ∉ fp) (ks : List K) (hn : ks.length = n) (hb : (uq ks).length + 1 < scanBound) (hval : ∀ i v, P i v → ∃ k, ks[i]? = some k ∧ knd.is k v = true ∧ v.scannable = true) :
    ∀ (k i : Nat) (s : Shared), n - i = k → i ≤ n → St i s → SetG knd s.heap S (fun k' => decide (k' ∈ ks.take i)) (uq (ks.take i)).length →
      (∀ s', Moved (S :: wr) G s s' → SetG knd s'.heap S (fun k' => decide (k' ∈ ks)) (uq ks).length → R (.ok (.ret .none)) s') →
      codeAny (model prog w) A (.builtin "set.update.loop" ⟨[.ref S, .ref I], []⟩) R s := by
  have hSw : S ∉ wr := fun h => hSf (W.sub _ h)
  have hsub : ∀ b ∈ wr, b ∈ S :: wr := fun b hb => List.mem_cons_of_mem _ hb
  intro k
  induction k with
  | zero =>
    intro i s hk hi hst hS hR
    have hin : i = n := by omega
    subst hin
    refine codeAny_builtin PyProof.Rows.F.entry_set_update_loop ?_
    rw [Around.under_plainId PyProof.Rows.F.plain_set_update_loop _]
    show wpAny _ A.in1 (pyNext (.ref I) >>= _) _ _ s
    refine wpAny_bind (W.done s _ _ hst fun s' hm => wpAny_pure (hR s' (hm.mono hsub) ?_))
    rw [← hn, List.take_length] at hS
    exact hS.keep fun o ho => hm.heap S o hSw ho
  | succ k ih =>
    intro i s hk hi hst hS hR
    have hlt : i < n := by omega
    refine codeAny_builtin PyProof.Rows.F.entry_set_update_loop ?_
    rw [Around.under_plainId PyProof.Rows.F.plain_set_update_loop _]
    show wpAny _ A.in1 (pyNext (.ref I) >>= _) _ _ s
    refine wpAny_bind (W.item i s _ _ hlt hst fun v s' hP hst' hm => ?_)
    obtain ⟨q, hq, his, hsc⟩ := hval i v hP
    have hS' : SetG knd s'.heap S (fun k' => decide (k' ∈ ks.take i)) (uq (ks.take i)).length := hS.keep fun o ho => hm.heap S o hSw ho
    show wpAny _ A.in1 (holding [v] (setAdd S v) >>= _) _ _ s'
    refine wpAny_bind (wpAny_holding ?_)
    unfold setAdd
    refine wpAny_holding (wpAny_bind (knd.pyHash (k := q) his ?_))
    have h1 := uq_take ks i
    refine setG_add (knd := knd) (s := { s' with toks := s'.toks + 1 }) his hsc hS' (by omega) fun h' hsb hS2 => ?_
    have et : ks.take (i + 1) = ks.take i ++ [q] := by rw [List.take_add_one, hq]; rfl
    have hSi : SetG knd h' S (fun k' => decide (k' ∈ ks.take (i + 1))) (uq (ks.take (i + 1))).length := by
      refine hS2.eq (fun k' => ?_) ?_
      · rw [et]
        by_cases h1 : k' ∈ ks.take i <;> by_cases h2 : k' = q <;> simp [h1, h2]
      · rw [et, uq_snoc]
        unfold uqS
        by_cases h1 : q ∈ ks.take i
        · rw [if_pos (decide_eq_true h1), if_pos (mem_uq.mpr h1)]
        · rw [if_neg (by simpa using h1), if_neg (fun z => h1 (mem_uq.mp z)), List.length_append]
          rfl
    refine wpAny_pure ⟨plainId_quiet PyProof.Rows.F.plain_set_update_loop _, ih (i + 1) _ (by omega) hlt (W.frame _ s' _ _ hst' (Nat.le_succ _) fun b hb o e => ?_) hSi fun s'' hm'' hS'' => ?_⟩
    · rw [hsb.2 b (fun h : b = S => hSf (by rw [← h]; exact hb))]; exact e
    · refine hR s'' (Moved.trans W.gtrans ((hm.mono hsub).then_heap (Nat.le_succ _) fun b o hb e => ?_) hm'') hS''
      rw [hsb.2 b (fun h : b = S => hb (by rw [h]; exact List.mem_cons_self))]; exact e
end
section
variable {prog : Program} {w : World} {K : Type} [DecidableEq K] {knd : KeyKind prog w K} {A : Around} {E : Value → Shared → Prop} {s : Shared}
abbrev led0 (w : World) : Bool := !w.params.followText "set-order"
set_option maxHeartbeats 3200000 in
theorem call_setG {l : Addr} {items : Array Value} {ks : List K} {Q : Value → Shared → Prop}
    (hh : A.handled = none) (hl : s.heap.IsList l items) (hsz : ks.length = items.size) (hval : ∀ (i : Nat) (v : Value), items[i]? = some v → ∃ k, ks[i]? = some k ∧ knd.is k v = true ∧ v.scannable = true) (hb : (uq ks).length + 1 < scanBound)
    (h : ∀ (h' : Heap) (tk : Nat), SetG knd h' s.heap.objs.size (fun k' => decide (k' ∈ ks)) (uq ks).length →
      (∀ b o, b < s.heap.objs.size → s.heap.get? b = some o → h'.get? b = some o) → Q (.ref s.heap.objs.size) { s with heap := h', toks := tk }) :
    wpAny (model prog w) A (call (.type "set") [.ref l]) Q E s := by
  obtain ⟨c, tl, hmro⟩ := PySem.F.called_set.mro
  have hmade := PySem.F.called_set.made
  have hsub := PySem.F.called_set.sub
  refine wpAny_call (codeAny_of_tree ?_)
  show wpAny _ _ (callAny (.type "set") _) _ _ _
  refine wpAny_pure ⟨Code.quiet_builtin _ (by decide +kernel), codeAny_builtin PySem.F.entry_type_call ?_⟩
  rw [Around.under_plain (weight_type_call_type "set" [.ref l] []) rfl]
  have h1 := PySem.F.called_set.notType
  have h2 := PySem.F.called_set.canCreate
  have hct := PySem.F.typeCall_set_1 (.ref l)
  repeat (any_goals (first | assumption | wp_step))
  refine codeAny_mono (code_set_led1 (w := w) (.ref l) (E := E) (Q₁ := fun obj s₁ => obj = .ref s.heap.objs.size ∧ s₁ = { s with heap := s.heap.push { cls := .type "set", dict := none, data := .set #[] 0 (.fresh 0 0 (led0 w)) } }) ⟨rfl, rfl⟩) fun r s₁ hr => ?_
  cases r with
  | error e => exact hr
  | ok fl =>
    cases fl with
    | ret obj =>
      obtain ⟨rfl, rfl⟩ := hr
      have hS : (s.heap.push { cls := .type "set", dict := none, data := .set #[] 0 (.fresh 0 0 (led0 w)) }).get? s.heap.objs.size = some { cls := .type "set", dict := none, data := .set #[] 0 (.fresh 0 0 (led0 w)) } := Heap.get?_push_size _ rfl
      have hT : Shared.TypeIs { s with heap := s.heap.push { cls := .type "set", dict := none, data := .set #[] 0 (.fresh 0 0 (led0 w)) } } (.ref s.heap.objs.size) "set" := ⟨_, hS, rfl⟩
      have hli := PySem.F.called_set.init.lookup
      have hbi := PySem.F.called_set.init.bind (.ref s.heap.objs.size)
      repeat (any_goals (first | assumption | wp_step))
      refine codeAny_mono (codeAny_call_builtin (R := wants (fun r s₂ => r = .none ∧ ∃ h' tk, s₂ = { s with heap := h', toks := tk } ∧
          SetG knd h' s.heap.objs.size (fun k' => decide (k' ∈ ks)) (uq ks).length ∧
          (∀ b o, b < s.heap.objs.size → s.heap.get? b = some o → h'.get? b = some o)) E) PySem.F.called_set.init.plain PySem.F.entry_set_init (check_set_init_1 hT ?_)) fun r₂ s₂ hr₂ => ?_
      · obtain ⟨ol, hol, hcl, nl, hdl⟩ := hl
        obtain ⟨ocls, odict, odata, oslots⟩ := ol
        simp only at hcl hdl
        subst hcl; subst hdl
        have hol' : (s.heap.push { cls := .type "set", dict := none, data := .set #[] 0 (.fresh 0 0 (led0 w)) }).get? l = some { cls := .type "list", dict := odict, data := .seq items nl, slots := oslots } := Heap.get?_push_of_some _ hol
        have hsls := PySem.F.sub_list_set
        have hslf := PySem.F.sub_list_frozenset
        have hne : (Value.type "list" == Value.type "dict") = false := by decide
        have hl1 : (s.heap.push { cls := .type "set", dict := none, data := .set #[] 0 (.fresh 0 0 (led0 w)) }).IsList l items := ⟨_, hol', rfl, nl, rfl⟩
        unfold Builtin.«set.__init__» noKeywords Builtin.Frozenset.updateFrom
        generalize hPI : pyIter = PI
        wp_walk
        subst hPI
        refine wpAny_pyIter_list hl1 ?_
        refine wpAny_bind (wpAny_runValue ?_)
        have hlS : l < s.heap.objs.size := Heap.lt_size hol
        have hh3 : A.in1.in1.in1.handled = none := by simp [hh]
        have hneI : l ≠ (s.heap.push { cls := .type "set", dict := none, data := .set #[] 0 (.fresh 0 0 (led0 w)) }).objs.size := by
          rw [Heap.size_push]; exact Nat.ne_of_lt (Nat.lt_succ_of_lt hlS)
        have hSf : s.heap.objs.size ∉ [(s.heap.push { cls := .type "set", dict := none, data := .set #[] 0 (.fresh 0 0 (led0 w)) }).objs.size, l] := by
          rw [Heap.size_push]; simp only [List.mem_cons, List.mem_singleton, List.not_mem_nil, or_false, not_or]
          exact ⟨Nat.ne_of_lt (Nat.lt_succ_self _), Nat.ne_of_gt hlS⟩
        refine setG_loop (knd := knd) ((Walks.list hh3 _ l hneI items).toS) s.heap.objs.size
          hSf ks hsz hb hval (items.size - 0) 0 _ (by omega) (Nat.zero_le _)
          ⟨⟨_, Heap.get?_push_size _ rfl, rfl, rfl⟩, (hl1.push _)⟩ ?hS0 ?hR
        case hS0 =>
          exact (SetG.fresh (knd := knd) (h := s.heap)).keep (fun o ho => Heap.get?_push_of_some _ ho) |>.eq (fun k => by simp) rfl
        case hR =>
          intro s' hm hS'
          obtain ⟨h', g', d', tk', os'⟩ := s'
          have eg : g' = s.gens := hm.gens
          have ed : d' = s.drawn := hm.drawn
          have eo : os' = s.os := hm.os
          subst eg; subst ed; subst eo
          show wpAny _ _ _ _ _ _
          refine wpAny_pure ?_
          show wpAny _ _ (ret Value.none) _ _ _
          refine wpAny_pure ⟨rfl, h', tk', rfl, hS', fun b o hb e => ?_⟩
          have hb1 : b ≠ s.heap.objs.size := Nat.ne_of_lt hb
          have hb2 : b ≠ (s.heap.push { cls := .type "set", dict := none, data := .set #[] 0 (.fresh 0 0 (led0 w)) }).objs.size := by
            rw [Heap.size_push]; exact Nat.ne_of_lt (Nat.lt_succ_of_lt hb)
          exact hm.heap b o (by simp only [List.mem_cons, List.mem_singleton, List.not_mem_nil, or_false, not_or]; exact ⟨hb1, hb2⟩) (Heap.get?_push_of_some _ (Heap.get?_push_of_some _ e))
      · cases r₂ with
        | error e => exact hr₂
        | ok fl₂ =>
          cases fl₂ with
          | ret r =>
            obtain ⟨rfl, h', tk, rfl, hS', hk'⟩ := hr₂
            repeat (any_goals (first | assumption | wp_step))
            exact h _ _ hS' hk'
          | _ => exact hr₂.elim
    | _ => exact hr.elim
end
end HW
set_option maxHeartbeats 4000000
namespace HW
open PySem PySem.Spec PyProof.Rows L2
open SX (S)
open PySem.W (dataLt AlikeAll AllAlike Sortable EachIs dataLe alike)
/-! ### sorted(set(texts)) -/
theorem perm_of_len {α : Type} [DecidableEq α] : ∀ {u l : List α}, u.Nodup → (∀ x ∈ u, x ∈ l) → l.length = u.length → l.Perm u
  | [], l, _, _, h => by rw [List.length_eq_zero_iff.mp h]
  | x :: u, l, hn, hm, h => by
    have hx := hm x List.mem_cons_self
    have p := List.perm_cons_erase hx
    have h2 : (l.erase x).length = u.length := by
      have := p.length_eq
      rw [List.length_cons] at this h
      omega
    obtain ⟨n1, n2⟩ := List.nodup_cons.mp hn
    refine p.trans ((perm_of_len n2 (fun y hy => ?_) h2).cons x)
    exact (List.mem_erase_of_ne (fun e : y = x => n1 (by rw [← e]; exact hy))).mpr (hm y (List.mem_cons_of_mem _ hy))
/-- the distinct ones in order -/
def sU (ws : List (List Nat)) : List (List Nat) := (uq ws).mergeSort fun a b => decide (a ≤ b)
theorem sU_perm (ws : List (List Nat)) : (sU ws).Perm (uq ws) := List.mergeSort_perm _ _
theorem sU_len (ws : List (List Nat)) : (sU ws).length = (uq ws).length := (sU_perm ws).length_eq
theorem sU_lt (ws : List (List Nat)) : (sU ws).Pairwise (· < ·) := by
  have h : (sU ws).Pairwise (fun a b => decide (a ≤ b) = true) := List.pairwise_mergeSort (le := fun a b : List Nat => decide (a ≤ b)) (fun a b c (h1 : decide (a ≤ b) = true) (h2 : decide (b ≤ c) = true) => decide_eq_true (List.le_trans (of_decide_eq_true h1) (of_decide_eq_true h2))) (fun a b => by
    show (decide (a ≤ b) || decide (b ≤ a)) = true
    rw [Bool.or_eq_true, decide_eq_true_iff, decide_eq_true_iff]
    exact List.le_total a b) _
  have hn : (sU ws).Nodup := (sU_perm ws).nodup_iff.mpr (nodup_uq ws)
  refine (List.Pairwise.and h hn).imp fun {a b} ⟨h1, h2⟩ => ?_
  have h1 := of_decide_eq_true h1
  exact Classical.byContradiction fun h3 => h2 (List.le_antisymm h1 (show b ≤ a from h3))
theorem sorted_lt {ws : List (List Nat)} (h : ws.Pairwise (· < ·)) {ds : List PyData} (hp : ds.Perm (ws.map sD)) : sortD ds = ws.map sD := sortD_of hp (List.pairwise_map.mpr (h.imp fun {a b} q => by rw [ltS]; exact decide_eq_true q))
theorem sU_sortD (ws : List (List Nat)) {ds : List PyData} (hp : ds.Perm ((uq ws).map sD)) : sortD ds = (sU ws).map sD := sorted_lt (sU_lt ws) (hp.trans ((sU_perm ws).symm.map sD))
theorem map_sD_inj : ∀ {a b : List (List Nat)}, a.map sD = b.map sD → a = b
  | [], [], _ => rfl
  | [], _ :: _, e => nomatch e
  | _ :: _, [], e => nomatch e
  | x :: a, y :: b, e => by
    rw [List.map_cons, List.map_cons] at e
    rw [S_inj (PyData.str.inj (List.cons.inj e).1), map_sD_inj (List.cons.inj e).2]
theorem sU_id {ws : List (List Nat)} (h : ws.Pairwise (· < ·)) : sU ws = ws := by
  have hn : ws.Nodup := h.imp (S := fun a b => a ≠ b) fun {a b} (q : a < b) (e : a = b) => List.lt_irrefl b (by rw [e] at q; exact q)
  have e1 := sU_sortD ws (ds := ws.map sD) (by rw [uq_nodup hn])
  rw [sorted_lt h (List.Perm.refl _)] at e1
  exact (map_sD_inj e1).symm
theorem allS {ws : List (List Nat)} : AllAlike (ws.map sD) := fun x hx y hy => alike_S.1 x hx y hy
theorem sortS {ws : List (List Nat)} : Sortable (ws.map sD) := .inr fun d hd => by
  obtain ⟨w, _, rfl⟩ := List.mem_map.mp hd
  exact ⟨by nofun, fun xs => by nofun⟩
section
variable {prog : Program} {w : World} {A : Around} {E : Value → Shared → Prop} {s : Shared}
/-- a value is the text of b -/
def IsTx (v : Value) (b : List Nat) : Prop := ∃ t, v = .str (S b) t
theorem each_tx {ks : List (List Nat)} : ∀ {vs : List Value}, (∀ v ∈ vs, ∃ b ∈ ks, IsTx v b) → ∃ bs, EachIs IsTx vs bs ∧ ∀ b ∈ bs, b ∈ ks
  | [], _ => ⟨[], .nil, fun b h => nomatch h⟩
  | v :: vs, h => by
    obtain ⟨b, hb, e⟩ := h v List.mem_cons_self
    obtain ⟨bs, h1, h2⟩ := each_tx (vs := vs) fun u hu => h u (List.mem_cons_of_mem _ hu)
    exact ⟨b :: bs, .cons e h1, fun x hx => by
      rcases List.mem_cons.mp hx with z | z
      · rw [z]; exact hb
      · exact h2 x z⟩
theorem EachIs.find {R : Value → List Nat → Prop} : ∀ {vs : List Value} {bs : List (List Nat)}, EachIs R vs bs → ∀ v ∈ vs, ∃ b ∈ bs, R v b
  | _, _, .nil, v, h => nomatch h
  | _, _, .cons h t, v, hv => by
    rcases List.mem_cons.mp hv with e | hv
    · exact ⟨_, List.mem_cons_self, e ▸ h⟩
    · obtain ⟨b, hb, q⟩ := EachIs.find t v hv
      exact ⟨b, List.mem_cons_of_mem _ hb, q⟩
theorem EachIs.len {R : Value → List Nat → Prop} : ∀ {vs : List Value} {bs : List (List Nat)}, EachIs R vs bs → vs.length = bs.length
  | _, _, .nil => rfl
  | _, _, .cons _ t => congrArg (· + 1) (EachIs.len t)
theorem sorted_setS {a : Addr} {ws : List (List Nat)} {Q : Value → Shared → Prop} (G : SetG (PySem.strKind prog w) s.heap a (fun k => decide (k ∈ ws.map S)) (uq (ws.map S)).length) (hh : A.handled = none) (hu : A.units + 64 < cLine)
    (hQ : ∀ s' p (out : List Value) (c : Nat), (∀ b o, s.heap.get? b = some o → s'.heap.get? b = some o) → s'.gens = s.gens → s'.os = s.os → s.heap.objs.size ≤ p →
      s'.heap.get? p = some (seqObj "list" out.toArray c) → EachIs IsTx out (sU ws) → Q (.ref p) s') :
    wpAny (model prog w) A (call (.builtin "sorted") [.ref a]) Q E s := by
  obtain ⟨o, es, ep, t, ho, hex, hd, H⟩ := G
  refine Calls.call_function_entry kind_sorted plain_sorted entry_sorted (args_sorted1 _) ?_
  unfold Builtin.«sorted»
  refine wpAny_bind (m := checkCount "sorted" 1 1 _) (wpAny_pure ?_)
  refine wpAny_bind (collect_set (A := A.in1) hh ⟨o, ho, hex.1, hd⟩ H.fits H.few H.walk.1 H.walk.2 fun s1 vs k1 hz g1 o1 pm => ?_)
  have hvl : vs.length = (uq ws).length := by rw [pm.length_eq, List.length_map, Array.length_toList, H.num, uq_S]
  obtain ⟨bs, h1, h2⟩ := each_tx (ks := ws) (vs := vs) fun v hv => by
    obtain ⟨e, he, q⟩ := List.mem_map.mp (pm.mem_iff.mp hv)
    obtain ⟨⟨k, hk, _⟩, _⟩ := H.els e he
    have hm := (H.mem k).mpr ⟨e, he, hk⟩
    obtain ⟨b, hb, eb⟩ := List.mem_map.mp (of_decide_eq_true hm)
    obtain ⟨tk, e1⟩ := Value.isStrOf_shape (x := k) (v := e.2) hk
    exact ⟨b, hb, tk, by rw [← q, e1, eb]⟩
  have hbl : bs.length = (uq ws).length := by rw [← EachIs.len h1, hvl]
  have hp : bs.Perm (uq ws) := perm_of_len (nodup_uq ws) (fun b hb => by
    have hS : decide (S b ∈ ws.map S) = true := decide_eq_true (List.mem_map.mpr ⟨b, mem_uq.mp hb, rfl⟩)
    obtain ⟨e, he, hk⟩ := (H.mem (S b)).mp hS
    obtain ⟨tk, e1⟩ := Value.isStrOf_shape (x := S b) (v := e.2) hk
    obtain ⟨b', hb', tk', e2⟩ := EachIs.find h1 e.2 (pm.mem_iff.mpr (List.mem_map.mpr ⟨e, he, rfl⟩))
    rw [e1] at e2
    injection e2 with e3 _
    rw [S_inj e3]
    exact hb') hbl
  have hfew : vs.length < scanBound := by rw [pm.length_eq, List.length_map, Array.length_toList]; exact H.few
  have hfz := fits_of_scanBound hfew
  refine wpAny_bind (wpAny_newList ?_ hfz)
  have hoL : (s1.heap.push (seqObj "list" vs.toArray 0)).get? s1.heap.objs.size = some (seqObj "list" vs.toArray 0) := Heap.get?_push_size _ rfl
  refine wpAny_bind (wpAny_holding (PySem.W.list_sort_data (s := { s1 with heap := s1.heap.push (seqObj "list" vs.toArray 0) }) (R := IsTx) (bs := bs) (enc := sD) hoL h1 (h1.mono fun v b ⟨t, e⟩ => ⟨[], by rw [e]; exact .str _ _, by simp⟩) allS sortS (by rw [← EachIs.len h1]; exact hfz) (fun b hb => ?_) fun out hl eo => ?_))
  · show _ + 1 + 0 < cLine
    show A.in1.units + 1 + 0 < cLine
    have : A.in1.units = A.units + 1 := rfl
    omega
  obtain ⟨c, hc⟩ := sortedHeap_at (vs := vs) (out := out.toArray) hoL
  have eb : bs.mergeSort (dataLe false sD) = sU ws := by
    have e1 : (bs.mergeSort (dataLe false sD)).map sD = sortD (bs.map sD) := by
      unfold sortD
      rw [List.map_mergeSort]
      intro a _ b _
      rfl
    rw [sU_sortD ws (hp.map sD)] at e1
    exact map_sD_inj e1
  rw [eb] at eo
  refine wpAny_pure ⟨_, rfl, hQ _ s1.heap.objs.size out c (fun b u e => ?_) g1 o1 hz hc eo⟩
  have q := k1 b u e
  have hlt := Heap.lt_size q
  show (sortedHeap (s1.heap.push (seqObj "list" vs.toArray 0)) s1.heap.objs.size vs out.toArray).get? b = some u
  rw [sortedHeap_old (Nat.ne_of_lt hlt) (by rw [size_push']; exact Nat.lt_succ_of_lt hlt)]
  exact Heap.get?_push_of_some _ q
end
abbrev vS (ws : List (List Nat)) : List V := ws.map fun w => V.str (S w)
theorem vals_tx : ∀ {out : List Value} {bs : List (List Nat)}, EachIs IsTx out bs → Vals (vS bs) out
  | _, _, .nil => .nil
  | _, _, .cons h t => .cons h (vals_tx t)
theorem vaAll_vS {K : PySem.W.Frag} {H : Hp} : ∀ ws : List (List Nat), VaAll K H (vS ws) (ws.map sD)
  | [] => .nil
  | w :: ws => .cons (.str _) (vaAll_vS ws)
def tSortSetS (K : PySem.W.Frag) (ta : TE) : TE := fun σ H Q => ta σ H fun x H1 => ∃ (l : Addr) (ws : List (List Nat)), x = .ref l ∧ SqL K H1 l (vS ws) ∧ (uq ws).length ≤ 4000 ∧ ∀ p, H1 p = none → Q (.ref p) (upd H1 p (.lst (vS (sU ws))))
theorem pe_sortSetS {X : Cx} {a : Expr} {ta : TE} {p p2 q pos : Pos} (hg : Gl X "sorted") (hm : X.mg "sorted" = none) (hg2 : Gl X "set") (hm2 : X.mg "set" = none) (ha : PE X a ta) (hc : X.calm = true) (hu : X.A.units + 64 < cLine)
    (na : starEach [a] X.env = (false, eval a X.env) :: starEach [] X.env := by rfl) : PE X (.Call (.Name "sorted" p) [.Call (.Name "set" p2) [a] [] q] [] pos) (tSortSetS X.K ta) := by
  refine ⟨fun pins s σ H Q I h => ?_⟩
  refine Call_ (ld_blt I hg hm boot_sorted ?_)
  refine PyProof.Rows.callWith_builtin1 (PyProof.Rows.args_cons ?_ rfl) rfl rfl
  refine Call_ (ld_blt I hg2 hm2 boot_set ?_)
  refine PyProof.Rows.callWith_type1 (PyProof.Rows.args_cons (thn (ha.run pins s σ H _ I h) fun v s1 ⟨x, H1, I1, r1, q1⟩ => PyProof.Rows.args_nil ?_) na) na rfl
  obtain ⟨l, ws, rfl, hq, hl, q1⟩ := q1
  cases r1
  obtain ⟨its, r, pl, hz⟩ := I1.list hq
  have hlen : (ws.map S).length = its.toArray.size := by rw [List.size_toArray, ← r.length, List.length_map, List.length_map]
  refine call_setG (knd := PySem.strKind X.prog X.w) (ks := ws.map S) (I1.ok.hd hc) pl.isList hlen (fun i v hv => ?_) (by rw [uq_S]; unfold scanBound; omega) fun h' tk hS hk => ?_
  · have hv' : its[i]? = some v := by simpa using hv
    have hli : i < ws.length := by
      have := (List.getElem?_eq_some_iff.mp hv').1
      rw [List.length_map, List.size_toArray] at hlen
      omega
    have hw : ws[i]? = some ws[i] := List.getElem?_eq_getElem hli
    have hx : (vS ws)[i]? = some (.str (S ws[i])) := by rw [List.getElem?_map, hw]; rfl
    obtain ⟨u, hu, ru⟩ := r.get hx
    rw [hv'] at hu
    cases hu
    obtain ⟨t, rfl⟩ := ru
    exact ⟨S ws[i], by rw [List.getElem?_map, hw]; rfl, strKind_is _ _ _ _, rfl⟩
  refine PyProof.Rows.args_nil ?_
  have I2 : Inv X pins σ H1 { s1 with heap := h', toks := tk } := I1.kept fun b o e => hk b o (Heap.lt_size e) e
  refine sorted_setS (ws := ws) hS (I1.ok.hd hc) hu fun s' pp out c k g o hp hg he => ?_
  have hn : H1 pp = none := I2.hok.fresh hp
  have hz : (vS (sU ws)).length ≤ sizeLine := by
    rw [List.length_map, sU_len, sizeLine_eq]
    omega
  have J : Inv X pins σ (upd H1 pp (.lst (vS (sU ws)))) { { s1 with heap := h', toks := tk } with heap := s'.heap, gens := s'.gens, drawn := s'.drawn, toks := s'.toks } :=
    I2.call (ch := []) (Un.laid k hp hn) (I2.hok.laid k hp ⟨hz, out, c, vals_tx he, hg⟩) (by rw [g]; exact I2.bare) (fun _ z => nomatch z)
  have e : s' = { { s1 with heap := h', toks := tk } with heap := s'.heap, gens := s'.gens, drawn := s'.drawn, toks := s'.toks } := by
    cases s'
    cases s1
    cases o
    rfl
  rw [e]
  exact ⟨.ref pp, _, J, rfl, q1 pp hn⟩
section
variable {X : Cx} {W : Wd} {Γ : List DV} {μ : Mu} {a : Expr} {p p2 q pos : Pos} {ws : List (List Nat)}
/-- sorted(set(texts)) -/
theorem ed_sortSet (ha : Ed X W Γ μ a (wD ws)) (hm : X.mg "sorted" = none) (hm2 : X.mg "set" = none) (hu : X.A.units + 64 < cLine) (hl : (uq ws).length ≤ 4000) (hc : X.calm = true := by rfl) (hg : Gl X "sorted" := by rfl) (hg2 : Gl X "set" := by rfl)
    (na : starEach [a] X.env = (false, eval a X.env) :: starEach [] X.env := by rfl) : Ed X W Γ μ (.Call (.Name "sorted" p) [.Call (.Name "set" p2) [a] [] q] [] pos) (wD (sU ws)) := fun σ H R Q k => by
  refine (pe_sortSetS hg hm hg2 hm2 wE.pe hc hu na).w (ha σ H R _ fun v H2 R2 e2 r2 => ?_)
  cases r2 with
  | lst hl' hv =>
    rename_i aa xx
    have ev : xx = vS ws := by
      have := vaAll_S (ws := ws) hv
      rw [this, List.map_map]
      rfl
    refine ⟨_, ws, rfl, by rw [← ev]; exact SqL.of (off_some hl').2, hl, fun pp hp => ?_⟩
    have sm := same_new (o := .lst (vS (sU ws))) hp
    exact k _ _ (R2.same sm) (e2.trans (XT.same sm)) (.lst (off_upd (new_out R2.ne hp)) (vaAll_vS (sU ws)))
end
end HW
set_option maxHeartbeats 4000000
namespace HW
open PySem PySem.Spec PyProof.Rows L2
open SX (S)
/-! ### s.count(sign) -/
section
variable {X : Cx} {W : Wd} {Γ : List DV} {μ : Mu} {o e : Expr} {apos pos : Pos} {l : List Nat} {c : Nat}
end
/-! ### rows some letters of which were not read -/
end HW
set_option maxHeartbeats 4000000
namespace HW
open PySem PySem.Spec PyProof.Rows L2
open SX (S)
section
variable {X : Cx} {W : Wd} {Γ Γ' : List DV} {μ μ' : Mu} {α : Type} {iter : Expr} {body rest : List Stmt} {pos : Pos} {D : Ends}
end
/-! ### patterns drawn -/
section
variable {X : Cx} {W : Wd} {Γ : List DV} {μ : Mu} {a b c : Expr} {pos p p2 : Pos} {n : Str} {r scr : Addr} {ns : List Int} {k : Nat} {l m : List Nat}
end
end HW
set_option maxHeartbeats 4000000
namespace HW
open PySem PySem.Spec PyProof.Rows L2
open SX (S)
/-! ### rings turned and read back -/
/-! ### rings in order, and back -/
theorem lt_snoc : ∀ {a b : List Nat} {x y : List Nat}, a.length = b.length → a < b → a ++ x < b ++ y
  | [], [], x, y, _, h => absurd h (List.lt_irrefl [])
  | [], _ :: _, x, y, h, _ => by simp at h
  | _ :: _, [], x, y, h, _ => by simp at h
  | a :: as, b :: bs, x, y, hl, h => by
    rw [List.cons_append, List.cons_append]
    rcases List.cons_lt_cons_iff.mp h with z | ⟨z, z2⟩
    · exact List.cons_lt_cons_iff.mpr (.inl z)
    · exact List.cons_lt_cons_iff.mpr (.inr ⟨z, lt_snoc (Nat.succ.inj hl) z2⟩)
theorem lt_last : ∀ (a : List Nat) {x y : Nat}, x < y → a ++ [x] < a ++ [y]
  | [], x, y, h => List.cons_lt_cons_iff.mpr (.inl h)
  | a :: as, x, y, h => List.cons_lt_cons_iff.mpr (.inr ⟨rfl, lt_last as h⟩)
theorem words_asc {n : Nat} (hn : n ≤ 4) : ∀ k, (words n k).Pairwise (· < ·)
  | 0 => List.pairwise_singleton _ _
  | k + 1 => by
    show ((words n k).flatMap fun v => (letL n).map fun c => v ++ [c]).Pairwise _
    have hlet : (letL n).Pairwise (· < ·) := by
      match n, hn with
      | 0, _ => decide
      | 1, _ => decide
      | 2, _ => decide
      | 3, _ => decide
      | 4, _ => decide
    rw [List.pairwise_flatMap]
    refine ⟨fun v hv => List.pairwise_map.mpr (hlet.imp fun {x y} h => lt_last v h), ?_⟩
    have hl : ∀ v ∈ words n k, v.length = k := fun v hv => (mem_words_iff hn hv).1
    have := words_asc hn k
    refine (List.Pairwise.and_mem.mp this).imp fun {a b} ⟨ha, hb, h⟩ => ?_
    intro x hx y hy
    obtain ⟨c, _, rfl⟩ := List.mem_map.mp hx
    obtain ⟨e, _, rfl⟩ := List.mem_map.mp hy
    exact lt_snoc (by rw [hl a ha, hl b hb]) h
/-! ### how many -/
end HW
set_option maxHeartbeats 4000000
namespace HW
open PySem PySem.Spec PyProof.Rows L2
open SX (S)
end HW
set_option maxHeartbeats 4000000
namespace HX
open PySem PySem.Spec PyProof.Rows L2 He
/-! the head's Hook with the model's own table of statics -/
end HX
namespace HW
open PySem PySem.Spec PyProof.Rows L2
open SX (S)
/-! ### exception classes of the program -/
/-- the class x: raised, made by its own __init__, its fields read -/
structure ExF (K : PySem.W.Frag) (mg : Str → Option Value) (x : Str) : Prop where
  g : mg x = some (.ref (He.ga K x))
  oex : OexC K (He.ga K x)
  ini : PySem.W.findIn K (.ref (He.ga K x)) "__init__" = some (some (.ref (He.ma K (He.ga K x) "__init__")))
  ty : PySem.W.typeIn K (.ref (He.ma K (He.ga K x) "__init__")) = some (.type "function")
  xf : XfC K (He.ga K x)
/-! ### Base.__init__(self, ..) -/
section
variable {X : Cx} {e : Expr} {es : List Expr} {ta : TA} {p1 p2 pos : Pos} {x : Str}
end
/-! ### the promises of __init__ -/
/-- an __init__ that stores nothing -/
def spI0 (K : PySem.W.Frag) (C : Addr) : Sp := fun vs H Q _ => ∃ a, vs = [.ref a] ∧ OexC K C ∧ H a = some (exo a C none) ∧ Q .non H
/-- an __init__ that stores its argument in the field f -/
def spI1 (K : PySem.W.Frag) (C : Addr) (f : Str) : Sp := fun vs H Q _ => ∃ a v, vs = [.ref a, v] ∧ OexC K C ∧ PySem.W.findIn K (.ref C) f = some none ∧ H a = some (exo a C none) ∧ ∀ dx, H dx = none → dx ≠ a → Q .non (upd (upd H dx (exd dx [(f, v)])) a (exo a C (some dx)))
section
variable {P : Program} {w : World} {K : PySem.W.Frag} {mg : Str → Option Value} {base : Heap} {x qual : Str} {params : Arguments} {scope : Scope} {f : Addr} {fd : FuncData} {k : Nat} {C : Addr}
end
end HW
set_option maxHeartbeats 4000000
namespace HW
open PySem PySem.Spec PyProof.Rows L2
open SX (S)
/-! ### raise -/
/-- a class whose __init__ keeps one field, ready to be raised -/
structure Ex1 (P : Program) (w : World) (K : PySem.W.Frag) (mg : Str → Option Value) (base : Heap) (k : Nat) (x fld : Str) : Prop where
  f : ExF K mg x
  no : PySem.W.findIn K (.ref (He.ga K x)) fld = some none
  ini : ∃ fd, FnOk P w K mg base CX0 k (He.ma K (He.ga K x) "__init__") fd ["self", fld] (spI1 K (He.ga K x) fld) ∧ Binds K fd ["self", fld] []
/-- .. that keeps none -/
structure Ex0 (P : Program) (w : World) (K : PySem.W.Frag) (mg : Str → Option Value) (base : Heap) (k : Nat) (x : Str) : Prop where
  f : ExF K mg x
  ini : ∃ fd, FnOk P w K mg base CX0 k (He.ma K (He.ga K x) "__init__") fd ["self"] (spI0 K (He.ga K x)) ∧ Binds K fd ["self"] []
/-- what an exception is known by: its class, its field -/
def XO (K : PySem.W.Frag) (L : List Addr) (H0 H' : Hp) (x : Str) (fo : Option (Str × PyData)) (cls : Value) (d : Option Addr) : Prop := cls = .ref (He.ga K x) ∧ Same H0 H' ∧ match fo with
  | none => True
  | some (f, y) => ∃ dd v, d = some dd ∧ H0 dd = none ∧ H' dd = some (.xd [(f, v)]) ∧ Va K (off L H') v y
/-- a def that raises -/
def spX (K : PySem.W.Frag) (R : List PyData → Str → Option (Str × PyData) → Prop) : Sp := fun vs H Q E => ∃ (L : List Addr) (ds : List PyData) (x : Str) (fo : Option (Str × PyData)), (∀ a ∈ L, H a ≠ none) ∧ VaAll K (off L H) vs ds ∧ R ds x fo ∧ ∀ cls d H', XO K L H H' x fo cls d → E cls d H'
structure FdX (P : Program) (w : World) (K : PySem.W.Frag) (mg : Str → Option Value) (base : Heap) (k : Nat) (x : Str) (ps : List Str) (R : List PyData → Str → Option (Str × PyData) → Prop) : Prop where
  ex : ∃ (f : Addr) (fd : FuncData), FnOk P w K mg base (L2.CX P w) k f fd ps (spX K R) ∧ mg x = some (.ref f) ∧ PySem.W.keepIn K (.ref f) = true ∧ Binds K fd ps []
theorem Ex1.mono {P : Program} {w : World} {K : PySem.W.Frag} {mg : Str → Option Value} {base : Heap} {j k : Nat} {x fld : Str} (F : Ex1 P w K mg base j x fld) (h : j ≤ k) : Ex1 P w K mg base k x fld := by
  obtain ⟨fd, h1, h2⟩ := F.ini
  exact ⟨F.f, F.no, fd, h1.mono h, h2⟩
theorem Ex0.mono {P : Program} {w : World} {K : PySem.W.Frag} {mg : Str → Option Value} {base : Heap} {j k : Nat} {x : Str} (F : Ex0 P w K mg base j x) (h : j ≤ k) : Ex0 P w K mg base k x := by
  obtain ⟨fd, h1, h2⟩ := F.ini
  exact ⟨F.f, fd, h1.mono h, h2⟩
theorem FdX.mono {P : Program} {w : World} {K : PySem.W.Frag} {mg : Str → Option Value} {base : Heap} {j k : Nat} {x : Str} {ps : List Str} {R : List PyData → Str → Option (Str × PyData) → Prop} (F : FdX P w K mg base j x ps R) (h : j ≤ k) : FdX P w K mg base k x ps R := by
  obtain ⟨f, fd, h1, h2⟩ := F.ex
  exact ⟨f, fd, h1.mono h, h2⟩
section
variable {X : Cx} {W : Wd} {Γ : List DV} {μ : Mu} {a : Expr} {rest : List Stmt} {D : Ends} {y : PyData} {x fld : Str} {k : Nat} {p pos pos2 : Pos} {W0 : WX}
end
section
variable {P : Program} {w : World} {K : PySem.W.Frag} {mg : Str → Option Value} {base : Heap} {x qual : Str} {params : Arguments} {body : List Stmt} {scope : Scope} {f : Addr} {fd : FuncData} {N ps : List Str} {k : Nat}
end
end HW
set_option maxHeartbeats 4000000
namespace HW
open PySem PySem.Spec PyProof.Rows L2
open SX (S)
/-! ### calls that raise, try -/
theorem XO.down {K : PySem.W.Frag} {L L' : List Addr} {H0 H' : Hp} {x : Str} {fo : Option (Str × PyData)} {cls : Value} {d : Option Addr} (h : XO K L H0 H' x fo cls d) (hl : ∀ a ∈ L', a ∈ L) : XO K L' H0 H' x fo cls d := by
  obtain ⟨h1, h2, h3⟩ := h
  refine ⟨h1, h2, ?_⟩
  cases fo with
  | none => trivial
  | some fy =>
    obtain ⟨f, y⟩ := fy
    obtain ⟨dd, v, e1, e2, e3, e4⟩ := h3
    exact ⟨dd, v, e1, e2, e3, e4.up (same_offs hl)⟩
section
variable {X : Cx} {W : Wd} {Γ : List DV} {μ : Mu} {e : Expr} {es : List Expr} {rest : List Stmt} {D : Ends} {ds : List PyData} {x f : Str} {fo : Option (Str × PyData)} {ps : List Str} {k : Nat} {p pos : Pos} {W0 : WX} {R : List PyData → Str → Option (Str × PyData) → Prop}
end
/-! ### try: .. except x as n: m = e -/
section
variable {X : Cx} {W : Wd} {Γ : List DV} {μ : Mu} {rest body : List Stmt} {D : Ends} {x xr n nm : Str} {fo : Option (Str × PyData)} {np pos pos' q1 q2 : Pos} {e0 : Expr} {y0 : PyData} {W0 : WX}
end
end HW
set_option maxHeartbeats 4000000
namespace HW
open PySem PySem.Spec PyProof.Rows L2
open SX (S)
/-! ### what is refused -/
end HW
set_option maxHeartbeats 4000000
namespace HW
open PySem PySem.Spec PyProof.Rows L2
open SX (S)
/-! ### the least masks -/
end HW
set_option maxHeartbeats 4000000
namespace HW
open PySem PySem.Spec PyProof.Rows L2
open SX (S)
/-! ### rows counted -/
noncomputable def cntR (m : List Nat) (n k : Nat) : Nat := if k < topK m n then (lev m n k).length else 0
def R_count_rows (ds : List PyData) (d : PyData) : Prop := ∃ (m : List Nat) (n k : Nat), ds = [sD m, nn n, nn k] ∧ Small m n ∧ k ≤ 60 ∧ d = nn (cntR m n k)
end HW
set_option maxHeartbeats 4000000
namespace HW
open PySem PySem.Spec PyProof.Rows L2
open SX (S)
/-! ### raise X() -/
section
variable {X : Cx}
end
section
variable {X : Cx} {W : Wd} {Γ : List DV} {μ : Mu} {rest : List Stmt} {D : Ends} {x : Str} {k : Nat} {p pos pos2 : Pos} {W0 : WX}
end
end HW
set_option maxHeartbeats 4000000
namespace HW
open PySem PySem.Spec PyProof.Rows L2
open SX (S)
/-! ### try with several clauses without `as` -/
/-- the clauses name classes of the program -/
inductive AllCl (X : Cx) : List ExceptHandler → Prop
  | nil : AllCl X []
  | cons {x : Str} {b0 : Stmt} {st : List Stmt} {np pos' : Pos} {hds : List ExceptHandler} (F : Names X x (.ref (He.ga X.K x))) (r : AllCl X hds) : AllCl X (.ExceptHandler (some (.Name x np)) none (b0 :: st) pos' :: hds)
/-- of the clauses, st is the suite that xr comes to -/
inductive Chosen (X : Cx) (xr : Str) : List ExceptHandler → List Stmt → Prop
  | here {x : Str} {b0 : Stmt} {st : List Stmt} {np pos' : Pos} {hds : List ExceptHandler} (F : Names X x (.ref (He.ga X.K x))) (hm : PySem.W.exmOne X.K (.ref (He.ga X.K xr)) (.ref (He.ga X.K x)) = some true) (r : AllCl X hds) :
      Chosen X xr (.ExceptHandler (some (.Name x np)) none (b0 :: st) pos' :: hds) (b0 :: st)
  | there {x : Str} {b0 : Stmt} {st st2 : List Stmt} {np pos' : Pos} {hds : List ExceptHandler} (F : Names X x (.ref (He.ga X.K x))) (hm : PySem.W.exmOne X.K (.ref (He.ga X.K xr)) (.ref (He.ga X.K x)) = some false) (r : Chosen X xr hds st2) :
      Chosen X xr (.ExceptHandler (some (.Name x np)) none (b0 :: st) pos' :: hds) st2
theorem AllCl.app {X : Cx} {hds : List ExceptHandler} (h : AllCl X hds) : ∃ l, HdsOk X hds l := by
  induction h with
  | nil => exact ⟨_, .nil⟩
  | @cons x b0 st np pos' hds F r ih =>
    obtain ⟨l, hl⟩ := ih
    exact ⟨_, .cons (ts := fun a cls d D σ H => ∀ (oe : Obj) (pn : List (Addr × Obj)), Zc cls d oe → (∃ vs, oe.data = .fields vs) → wSs (X.suite a ((a, oe) :: pn)) (b0 :: st) D σ H) F (fun a oe cls d pn hz hv => ⟨fun pins s σ H D I h => h oe pn hz hv pins s I⟩) hl⟩
theorem Chosen.app {X : Cx} {xr : Str} {hds : List ExceptHandler} {st : List Stmt} (h : Chosen X xr hds st) : ∃ l, HdsOk X hds l ∧ ∀ (Wout : WX) (D : Ends) (σ : L2.St) (H : Hp) (d : Option Addr),
    (∀ a, H a = none → ∀ (oe : Obj) (pn : List (Addr × Obj)), Zc (.ref (He.ga X.K xr)) d oe → (∃ vs, oe.data = .fields vs) → wSs (X.suite a ((a, oe) :: pn)) st D σ H) → wMany X.K Wout D l (.ref (He.ga X.K xr)) d σ H := by
  induction h with
  | @here x b0 st np pos' hds F hm r =>
    obtain ⟨l, hl⟩ := r.app
    exact ⟨_, .cons (ts := fun a cls d D σ H => ∀ (oe : Obj) (pn : List (Addr × Obj)), Zc cls d oe → (∃ vs, oe.data = .fields vs) → wSs (X.suite a ((a, oe) :: pn)) (b0 :: st) D σ H) F (fun a oe cls d pn hz hv => ⟨fun pins s σ H D I h => h oe pn hz hv pins s I⟩) hl,
      fun Wout D σ H d q => ⟨true, hm, fun _ a na oe pn hz hv => q a na oe pn hz hv, fun z => nomatch z⟩⟩
  | @there x b0 st st2 np pos' hds F hm r ih =>
    obtain ⟨l, hl, hq⟩ := ih
    exact ⟨_, .cons (ts := fun a cls d D σ H => ∀ (oe : Obj) (pn : List (Addr × Obj)), Zc cls d oe → (∃ vs, oe.data = .fields vs) → wSs (X.suite a ((a, oe) :: pn)) (b0 :: st) D σ H) F (fun a oe cls d pn hz hv => ⟨fun pins s σ H D I h => h oe pn hz hv pins s I⟩) hl,
      fun Wout D σ H d q => ⟨false, hm, (fun z => nomatch z), fun _ => hq Wout D σ H d q⟩⟩
section
variable {X : Cx} {W : Wd} {Γ : List DV} {μ : Mu} {rest body : List Stmt} {D : Ends} {xr nm : Str} {fo : Option (Str × PyData)} {h0 : ExceptHandler} {hds : List ExceptHandler} {pos q1 q2 : Pos} {e0 : Expr} {y0 : PyData} {W0 : WX}
end
end HW
set_option maxHeartbeats 4000000
namespace HW
open PySem PySem.Spec PyProof.Rows L2
open SX (S)
/-! ### texts that are no masks, no rows, no views -/
end HW
set_option maxHeartbeats 4000000
namespace HW
open PySem PySem.Spec PyProof.Rows L2
open SX (S)
/-! ### text.split(text) -/
section
variable {X : Cx} {W : Wd} {Γ : List DV} {μ : Mu} {o e : Expr} {a b : Str} {apos pos : Pos}
end
end HW
set_option maxHeartbeats 4000000
namespace HW
open PySem PySem.Spec PyProof.Rows L2
open SX (S)
/-! ### law 27: ten wrong calls -/
end HW
set_option maxHeartbeats 4000000
namespace HW
open PySem PySem.Spec PyProof.Rows L2
open SX (S)
/-! ### try: of all clauses, with `as` and without, the one that takes the exception -/
section
variable {X : Cx} {body : List Stmt} {h0 : ExceptHandler} {hds : List ExceptHandler} {pos : Pos} {tb : WX → TS} {cr : Value} {o : Option Nat} {b0 : Stmt} {st : List Stmt} {ts : Addr → Option Addr → TS}
end
/-! ### .. over a state of data -/
section
variable {X : Cx} {W : Wd} {Γ : List DV} {μ : Mu} {rest body : List Stmt} {D : Ends} {xr nm : Str} {fo : Option (Str × PyData)} {h0 : ExceptHandler} {hds : List ExceptHandler} {pos q1 q2 : Pos} {e0 : Expr} {y0 : PyData} {o : Option Nat}
end
/-! ### f(..), f any expression that gives a def -/
section
variable {X : Cx} {W : Wd} {Γ : List DV} {μ : Mu} {fe e : Expr} {es : List Expr} {ds : List PyData} {d : PyData} {x : Str} {ps : List Str} {k : Nat} {f : Addr} {fd : FuncData} {pos : Pos} {CX : CXT} {sp : Sp} {E : L2.St → XK} {t : TA} {tf : TE}
end
section
variable {X : Cx} {W : Wd} {Γ : List DV} {μ : Mu} {fe e : Expr} {es : List Expr} {ds : List PyData} {d : PyData} {x y : Str} {fo : Option (Str × PyData)} {ps : List Str} {k : Nat} {f : Addr} {pos : Pos} {W0 : WX}
theorem FdX.at {P : Program} {w : World} {K : PySem.W.Frag} {mg : Str → Option Value} {base : Heap} {R : List PyData → Str → Option (Str × PyData) → Prop} (F : FdX P w K mg base k x ps R) : ∃ f, mg x = some (.ref f) := by
  obtain ⟨f, _, _, h, _⟩ := F.ex
  exact ⟨f, h⟩
theorem Fd.at {P : Program} {w : World} {K : PySem.W.Frag} {mg : Str → Option Value} {base : Heap} {sp : Sp} (F : Fd P w K mg base k x ps sp) : ∃ f, mg x = some (.ref f) := by
  obtain ⟨f, _, _, h, _⟩ := F.ex
  exact ⟨f, h⟩
end
end HW
set_option maxHeartbeats 4000000
namespace HW
open PySem PySem.Spec PyProof.Rows L2
open SX (S)
/-! ### values of any kind that are refused -/
section
variable {X : Cx} {W : Wd} {Γ : List DV} {μ : Mu} {e : Expr} {d : PyData} {pos p p2 : Pos}
end
/-! what is raised: x behind the argument -/
end HW
set_option maxHeartbeats 4000000
namespace HW
open PySem PySem.Spec PyProof.Rows L2
open SX (S)
/-! ### what the defs raise, one error after the other (printed by genchain.py) -/
end HW
set_option maxHeartbeats 4000000
namespace HW
open PySem PySem.Spec PyProof.Rows L2
open SX (S)
/-! ### text * number, none too -/
/-! ### law 10 -/
end HW
set_option maxHeartbeats 4000000
namespace HW
open PySem PySem.Spec PyProof.Rows L2
open SX (S)
/-! ### how far a row can be made longer -/
/-! ### slices whose bound is drawn -/
def rAnyS (X : Cx) : V → Option Int → Option Int → Hp → VK → Prop := fun v l u H Q => ∃ d z, SlD X d l u z ∧ rDs X.K d l u z v l u H Q
theorem rAnyS.ok {X : Cx} : L2.SlR X (rAnyS X) := fun pins s σ H x v vl vu lo hi sl Q I rx hs pl pu ⟨d, z, h, q⟩ => h pins s σ H x v vl vu lo hi sl Q I rx hs pl pu q
section
variable {X : Cx} {W : Wd} {Γ : List DV} {μ : Mu} {a lo hi : Expr} {p2 pos : Pos} {A C : PyData → Prop} {U L : Int → Prop}
end
end HW
set_option maxHeartbeats 4000000
namespace HW
open PySem PySem.Spec PyProof.Rows L2
open SX (S)
/-! ### tuple * number: none and one, too -/
/-! ### {} as data -/
/-! ### places found -/
/-! ### law 5 -/
/-! ### what is no list, no tuple -/
section
variable {X : Cx} {W : Wd} {Γ : List DV} {μ : Mu} {e : Expr} {d : PyData} {pos p q1 q2 pt : Pos} {kt : Nat}
end
/-! ### law 18 -/
abbrev wMany : PyData := sD [109, 97, 110, 121]
end HW
set_option maxHeartbeats 4000000
namespace HW
open PySem PySem.Spec PyProof.Rows L2
open SX (S)
open PySem.W (dataLt AlikeAll AllAlike Sortable EachIs dataLe alike)
/-! ### sorted(set(..)) over any keys -/
section
variable {prog : Program} {w : World} {A : Around} {E : Value → Shared → Prop} {s : Shared} {K : Type} [DecidableEq K] {knd : KeyKind prog w K}
end
section
variable {X : Cx} {W : Wd} {Γ : List DV} {μ : Mu} {a : Expr} {p p2 q pos : Pos} {ws zs : List Nat}
end
/-! ### masks laid together -/
/-! ### law 2 -/
end HW
set_option maxHeartbeats 4000000
namespace HW
open PySem PySem.Spec PyProof.Rows L2
open SX (S)
open PySem.W (dataLt AlikeAll AllAlike Sortable EachIs dataLe alike)
/-! ### a local dict becomes data: locked -/
section
variable {X : Cx} {W : Wd} {Γ : List DV} {μ : Mu} {sts : List Stmt} {D : Ends} {l : Addr}
end
section
variable {X : Cx} {W : Wd} {Γ : List DV} {μ : Mu} {tg e : Expr} {apos cpos : Pos} {kvs : List (Key × PyData)}
end
/-! ### d.get(k, other) of a local dict -/
section
variable {X : Cx} {W : Wd} {Γ : List DV} {μ : Mu} {e f : Expr} {pos p apos : Pos} {n : Str} {l : Addr} {kvs : List (Key × PyData)} {k : Key} {d : PyData}
end
/-! ### list.index with a start -/
section
variable {X : Cx} {W : Wd} {Γ : List DV} {μ : Mu} {o e f : Expr} {apos pos : Pos} {ws : List (List Nat)} {w : List Nat} {j st : Nat}
end
/-! ### like views -/
section
variable (ws : List (List Nat))
/-! the first like ones -/
end
end HW
set_option maxHeartbeats 4000000
namespace HW
open PySem PySem.Spec PyProof.Rows L2
section
variable {ws : List (List Nat)} {z : List Nat} {i : Nat}
end
end HW
set_option maxHeartbeats 4000000
namespace HW
open PySem PySem.Spec PyProof.Rows L2
open SX (S)
/-! ### what raises within an expression -/
section
variable {X : Cx} {W : Wd} {Γ : List DV} {μ : Mu} {e a b : Expr} {es : List Expr} {rest : List Stmt} {D : Ends} {p pos : Pos}
end
/-! ### n1, n2, n3 = a, b, c -/
section
variable {X : Cx} {W : Wd} {Γ : List DV} {μ : Mu} {a b c : Expr} {rest : List Stmt} {D : Ends} {n1 n2 n3 : Str} {p1 p2 p3 pos : Pos}
end
/-! ### patterns, looks, steps -/
/-! ### the calls of law 33 -/
end HW
set_option maxHeartbeats 4000000
namespace HW
open PySem PySem.Spec PyProof.Rows L2
open SX (S)
/-! ### sets of tuples, whatever kind of key the items are (fewer than 64 of them) -/
section
variable {pr : Program} {wo : World} {κ : Type} [DecidableEq κ] {kd : PySem.KeyKind pr wo κ} {A : Around} {Er : Value → Shared → Prop} {st : Shared}
abbrev hT (kd : PySem.KeyKind pr wo κ) (ks : List κ) : Int := tupleKeyHash kd ks
/-! ### the set -/
def entL (kd : PySem.KeyKind pr wo κ) (L : List (Addr × List κ)) : List (Int × Value) := L.map fun p => (hT kd p.2, Value.ref p.1)
abbrev hsL (kd : PySem.KeyKind pr wo κ) (L : List (Addr × List κ)) : List Int := L.map fun p => hT kd p.2
structure TSet (kd : PySem.KeyKind pr wo κ) (h : Heap) (a : Addr) (L : List (Addr × List κ)) (es : Array (Int × Value)) (ep : Nat) (t : SetTable) : Prop where
  obj : ∃ o, h.get? a = some o ∧ o.ExactSet ∧ o.data = .set es ep t
  ents : es.toList = entL kd L
  tab : TabOk t (hsL kd L)
  uniq : (L.map (·.2)).Nodup
  keys : ∀ p ∈ L, IsTupleKey kd h p.2 p.1
  room : L.length * 5 < t.mask * 3
  few : L.length < 64
variable {a : Addr} {L : List (Addr × List κ)} {es : Array (Int × Value)} {ep : Nat} {t : SetTable}
theorem ent_len {es : Array (Int × Value)} {L : List (Addr × List κ)} (h : es.toList = entL kd L) : es.size = L.length := by
  have z := congrArg List.length h
  rw [Array.length_toList, entL, List.length_map] at z
  exact z
theorem fits_of {es : Array (Int × Value)} {t : SetTable} (h1 : t.place.size = es.size) (h2 : t.dummies = #[]) (h3 : es.size ≤ t.mask) : t.fits es.size = true := by
  rw [SetTable.fits, SetTable.fill, h2, Bool.and_eq_true, beq_iff_eq, decide_eq_true_eq]
  exact ⟨h1, by show t.place.size + 0 ≤ t.mask; omega⟩
theorem TSet.size (R : TSet kd st.heap a L es ep t) : es.size = L.length := ent_len R.ents
theorem TSet.plen (R : TSet kd st.heap a L es ep t) : t.place.size = L.length := by rw [R.tab.sz, List.length_map]
theorem TSet.fits (R : TSet kd st.heap a L es ep t) : t.fits es.size = true := by
  have h1 := R.plen
  have h2 := R.size
  have h3 := R.room
  exact fits_of (by omega) R.tab.dm (by omega)
end
section
variable {pr : Program} {wo : World} {κ : Type} [DecidableEq κ] {kd : PySem.KeyKind pr wo κ} {A : Around} {Er : Value → Shared → Prop} {st : Shared} {a : Addr} {L : List (Addr × List κ)} {es : Array (Int × Value)} {ep : Nat} {t : SetTable}
end
section
variable {pr : Program} {wo : World} {κ : Type} [DecidableEq κ] {kd : PySem.KeyKind pr wo κ} {A : Around} {Er : Value → Shared → Prop} {st : Shared}
theorem TSet.kept {h h' : Heap} {a : Addr} {L : List (Addr × List κ)} {es : Array (Int × Value)} {ep : Nat} {t : SetTable} (R : TSet kd h a L es ep t) (ha : ∀ o, h.get? a = some o → h'.get? a = some o) (hk : ∀ p ∈ L, IsTupleKey kd h' p.2 p.1) : TSet kd h' a L es ep t := by
  obtain ⟨o, ho, r⟩ := R.obj
  exact ⟨⟨o, ha o ho, r⟩, R.ents, R.tab, R.uniq, hk, R.room, R.few⟩
/-- the set holds the first i keys -/
def Holds (kd : PySem.KeyKind pr wo κ) (h : Heap) (S : Addr) (ks : List (Addr × List κ)) (i : Nat) : Prop := ∃ L es ep t, TSet kd h S L es ep t ∧ (∀ p ∈ L, p ∈ ks) ∧ L.length ≤ i ∧ ∀ k, k ∈ L.map (·.2) ↔ k ∈ (ks.take i).map (·.2)
end
/-! ### len(set(xs)), xs a list of fewer than 64 tuples of texts -/
section
variable {X : Cx} {W : Wd} {Γ : List DV} {μ : Mu} {a : Expr} {p p2 q pos : Pos} {ts : List (List (List Nat))}
end
end HW
set_option maxHeartbeats 4000000
namespace HW
open PySem PySem.Spec PyProof.Rows L2
open SX (S)
/-! ### words, split by spaces -/
section
variable {X : Cx} {W : Wd} {Γ : List DV} {μ : Mu} {o e : Expr} {apos pos : Pos} {ws : List (List Nat)}
end
section
variable {X : Cx} {i : Nat} {xs : List Nat}
end
/-! ### law 23's words -/
end HW
set_option maxHeartbeats 4000000
namespace HW
open PySem PySem.Spec PyProof.Rows L2
open SX (S)
/-! ### so many views, one behind the other -/
end HW
set_option maxHeartbeats 4000000
namespace HW
open PySem PySem.Spec PyProof.Rows L2
open SX (S)
/-! ### local lists that begin with an item; the last item of a local list -/
section
variable {X : Cx} {W W0 : Wd} {Γ : List DV} {μ : Mu} {e value i' : Expr} {rest : List Stmt} {D : Ends} {pos p p1 p2 pos' : Pos} {n : Str} {l : Addr} {d y : PyData} {ds ys : List PyData} {z : Int}
end
section
variable {X : Cx} {W : Wd} {Γ : List DV} {μ : Mu} {iter tg : Expr} {α : Type} {enc : α → PyData} {xs : List α}
end
/-! ### moves -/
end HW
set_option maxHeartbeats 4000000
namespace HW
open PySem PySem.Spec PyProof.Rows L2
open SX (S)
/-! ### three names at once; a dict displayed and asked at once -/
section
variable {X : Cx} {W W0 : Wd} {Γ : List DV} {μ : Mu} {a b c e f v1 v2 : Expr} {rest : List Stmt} {D : Ends} {pos p p1 p2 p3 apos : Pos} {n1 n2 n3 : Str} {x y z d x1 x2 : PyData}
end
end HW
set_option maxHeartbeats 4000000
namespace HW
open PySem PySem.Spec PyProof.Rows L2
open SX (S)
end HW
set_option maxHeartbeats 4000000
namespace HW
open PySem PySem.Spec PyProof.Rows L2
open SX (S)
/-! ### how many rows there are: counted by numbers -/
def sumC (f : Nat → Nat) : List Nat → Nat
  | [] => 0
  | c :: cs => f c + sumC f cs
/-- the rows that go on from r by so many letters -/
def extC (m : List Nat) (n : Nat) : Nat → List Nat → Nat
  | 0, _ => 1
  | k + 1, r => sumC (fun c => if okC m r c = true then extC m n k (r ++ [c]) else 0) (letL n)
def iterF (m : List Nat) (n : Nat) : Nat → List (List Nat) → List (List Nat)
  | 0, rs => rs
  | k + 1, rs => iterF m n k (nextL m n rs)
theorem iterF_next (m : List Nat) (n : Nat) : ∀ k rs, nextL m n (iterF m n k rs) = iterF m n k (nextL m n rs)
  | 0, _ => rfl
  | k + 1, rs => iterF_next m n k (nextL m n rs)
theorem lev_iter (m : List Nat) (n : Nat) : ∀ k, lev m n k = iterF m n k [[]]
  | 0 => rfl
  | k + 1 => by
    show nextL m n (lev m n k) = iterF m n k (nextL m n [[]])
    rw [lev_iter m n k, iterF_next]
theorem sumC_filter (p : Nat → Bool) (f : Nat → Nat) : ∀ l : List Nat, ((l.filter p).map f).sum = sumC (fun c => if p c = true then f c else 0) l
  | [] => rfl
  | c :: l => by
    rw [List.filter_cons]
    by_cases h : p c = true
    · rw [if_pos h, List.map_cons, List.sum_cons, sumC_filter p f l]
      show _ = (if p c = true then f c else 0) + _
      rw [if_pos h]
    · rw [if_neg h, sumC_filter p f l]
      show _ = (if p c = true then f c else 0) + _
      rw [if_neg h, Nat.zero_add]
theorem iterF_len (m : List Nat) (n : Nat) : ∀ k rs, (iterF m n k rs).length = (rs.map (extC m n k)).sum
  | 0, rs => by
    induction rs with
    | nil => rfl
    | cons r rs ih =>
      rw [List.map_cons, List.sum_cons, ← ih]
      show rs.length + 1 = 1 + rs.length
      omega
  | k + 1, rs => by
    rw [iterF, iterF_len m n k]
    induction rs with
    | nil => rfl
    | cons r rs ih =>
      rw [List.map_cons, List.sum_cons, ← ih]
      unfold nextL
      rw [List.flatMap_cons, List.map_append, List.sum_append]
      congr 1
      unfold stepR
      rw [List.map_map, sumC_filter]
      rfl
theorem lev_count (m : List Nat) (n k : Nat) : (lev m n k).length = extC m n k [] := by
  rw [lev_iter, iterF_len]
  simp
/-- a row's letters as one number -/
def codeR (l : List Nat) : Nat := l.foldl (fun a c => 4 * a + (c - 97)) 0
theorem codeR_snoc (l : List Nat) (c : Nat) : codeR (l ++ [c]) = 4 * codeR l + (c - 97) := by simp [codeR]
theorem codeR_inj : ∀ (n : Nat) {a b : List Nat}, a.length = n → b.length = n → lowL 4 a → lowL 4 b → codeR a = codeR b → a = b
  | 0, a, b, ha, hb, _, _, _ => by rw [List.length_eq_zero_iff.mp ha, List.length_eq_zero_iff.mp hb]
  | n + 1, a, b, ha, hb, la, lb, e => by
    obtain ⟨a', x, rfl⟩ : ∃ a' x, a = a' ++ [x] := ⟨a.dropLast, a.getLast (by intro h; rw [h] at ha; cases ha), (List.dropLast_concat_getLast _).symm⟩
    obtain ⟨b', y, rfl⟩ : ∃ b' y, b = b' ++ [y] := ⟨b.dropLast, b.getLast (by intro h; rw [h] at hb; cases hb), (List.dropLast_concat_getLast _).symm⟩
    rw [codeR_snoc, codeR_snoc] at e
    have hx := la x (by simp)
    have hy := lb y (by simp)
    have e1 : codeR a' = codeR b' := by omega
    have e2 : x = y := by omega
    rw [codeR_inj n (by simpa using ha) (by simpa using hb) (fun c hc => la c (by simp [hc])) (fun c hc => lb c (by simp [hc])) e1, e2]
theorem codeR_digit : ∀ (o : Nat) (l : List Nat), lowL 4 l → o < l.length → codeR l / 4 ^ o % 4 = l.getD (l.length - 1 - o) 0 - 97
  | o, l, hl, ho => by
    obtain ⟨l', x, rfl⟩ : ∃ l' x, l = l' ++ [x] := ⟨l.dropLast, l.getLast (by intro h; rw [h] at ho; cases ho), (List.dropLast_concat_getLast _).symm⟩
    have hx := hl x (by simp)
    rw [codeR_snoc, List.length_append, List.length_singleton, Nat.add_sub_cancel]
    cases o with
    | zero =>
      rw [Nat.pow_zero, Nat.div_one, Nat.sub_zero, List.getD_eq_getElem?_getD, List.getElem?_append_right (Nat.le_refl _), Nat.sub_self]
      show _ = x - 97
      omega
    | succ o =>
      rw [List.length_append, List.length_singleton] at ho
      have ih := codeR_digit o l' (fun c hc => hl c (by simp [hc])) (by omega)
      rw [Nat.pow_succ, Nat.mul_comm (4 ^ o), ← Nat.div_div_eq_div_mul, show (4 * codeR l' + (x - 97)) / 4 = codeR l' by omega, ih]
      rw [List.getD_eq_getElem?_getD, List.getD_eq_getElem?_getD, List.getElem?_append_left (by omega)]
      rw [show l'.length - 1 - o = l'.length - (o + 1) by omega]
termination_by o => o
/-- the number of a view, read off a row's number -/
def vcode (os : List Nat) (w : Nat) : Nat := os.foldl (fun a o => 4 * a + w / 4 ^ o % 4) 0
def offsL (m : List Nat) : List Nat := (seenL m).map fun a => m.length - 1 - a
theorem foldl_map_congr {α : Type} (f : Nat → α → Nat) (g : Nat → α → Nat) : ∀ (l : List α) (a : Nat), (∀ x ∈ l, ∀ a, f a x = g a x) → l.foldl f a = l.foldl g a
  | [], _, _ => rfl
  | x :: l, a, h => by
    rw [List.foldl_cons, List.foldl_cons, h x List.mem_cons_self]
    exact foldl_map_congr f g l _ fun y hy => h y (List.mem_cons_of_mem _ hy)
theorem vcode_view {l m : List Nat} (hl : lowL 4 l) (hm : m.length ≤ l.length) : vcode (offsL m) (codeR l) = codeR (viewL l m (l.length - m.length)) := by
  unfold vcode offsL codeR viewL
  rw [List.foldl_map, List.foldl_map]
  refine foldl_map_congr _ _ _ _ fun a ha acc => ?_
  have h := mem_seen ha
  have d := codeR_digit (m.length - 1 - a) l hl (by omega)
  unfold codeR at d
  rw [d, show l.length - 1 - (m.length - 1 - a) = l.length - m.length + a by omega]
def forceN (x : Nat) (f : Nat → Nat) : Nat := match x with
  | 0 => f 0
  | k + 1 => f (k + 1)
def forceB (x : Nat) (f : Nat → Bool) : Bool := match x with
  | 0 => f 0
  | k + 1 => f (k + 1)
theorem forceB_eq (x : Nat) (f : Nat → Bool) : forceB x f = f x := by cases x <;> rfl
theorem forceN_eq (x : Nat) (f : Nat → Nat) : forceN x f = f x := by cases x <;> rfl
/-- the same count over numbers: the letters so far as a number, the views so far as bits -/
def cntN (os : List Nat) (wd : Nat) (ls : List Nat) : Nat → Nat → Nat → Nat → Nat
  | 0, _, _, _ => 1
  | k + 1, len, w, st => sumC (fun c => forceN (4 * w + c) fun w2 => cond (Nat.blt (len + 1) wd) (cntN os wd ls k (len + 1) w2 st) (forceN (vcode os w2) fun v => cond (Nat.beq (Nat.land (Nat.shiftRight st v) 1) 1) 0 (forceN (Nat.lor st (Nat.shiftLeft 1 v)) fun st2 => cntN os wd ls k (len + 1) w2 st2))) ls
def letN (n : Nat) : List Nat := (letL n).map fun c => c - 97
theorem sumC_map (f : Nat → Nat) (g : Nat → Nat) : ∀ l : List Nat, sumC f (l.map g) = sumC (fun c => f (g c)) l
  | [] => rfl
  | c :: l => by rw [List.map_cons]; show f (g c) + _ = f (g c) + _; rw [sumC_map f g l]
theorem sumC_congr {f g : Nat → Nat} : ∀ {l : List Nat}, (∀ c ∈ l, f c = g c) → sumC f l = sumC g l
  | [], _ => rfl
  | c :: l, h => by
    show f c + _ = g c + _
    rw [h c List.mem_cons_self, sumC_congr fun x hx => h x (List.mem_cons_of_mem _ hx)]
structure SimC (m r : List Nat) (len w st : Nat) : Prop where
  len : len = r.length
  low : lowL 4 r
  code : w = codeR r
  bits : ∀ v, st.testBit v = true ↔ ∃ u ∈ viewsL r m, codeR u = v
theorem testBit_form (st v : Nat) : Nat.beq (Nat.land (Nat.shiftRight st v) 1) 1 = st.testBit v := by
  show Nat.beq ((st >>> v) &&& 1) 1 = st.testBit v
  unfold Nat.testBit
  rw [Nat.and_comm]
  have h : 1 &&& (st >>> v) = (st >>> v) % 2 := by rw [Nat.and_comm, Nat.and_one_is_mod]
  rw [h]
  rcases Nat.mod_two_eq_zero_or_one (st >>> v) with e | e <;> rw [e] <;> rfl
theorem cnt_sim {m : List Nat} {n : Nat} (hm : 1 ≤ m.length) (hn : n ≤ 4) : ∀ (k : Nat) {r : List Nat} {len w st : Nat}, SimC m r len w st → cntN (offsL m) m.length (letN n) k len w st = extC m n k r
  | 0, _, _, _, _, _ => rfl
  | k + 1, r, len, w, st, I => by
    unfold cntN extC letN
    rw [sumC_map]
    refine sumC_congr fun c hc => ?_
    obtain ⟨c1, c2⟩ := (mem_letL hn).mp hc
    have low2 : lowL 4 (r ++ [c]) := fun x hx => by
      rcases List.mem_append.mp hx with h | h
      · exact I.low x h
      · rw [List.mem_singleton.mp h]
        omega
    have code2 : 4 * w + (c - 97) = codeR (r ++ [c]) := by rw [codeR_snoc, I.code]
    have len2 : len + 1 = (r ++ [c]).length := by rw [I.len]; simp
    rw [forceN_eq, code2]
    have sn := viewsL_snoc r m c hm
    by_cases q : r.length + 1 < m.length
    · have e1 : Nat.blt (len + 1) m.length = true := by
        show Nat.ble (len + 1 + 1) m.length = true
        rw [Nat.ble_eq, I.len]
        omega
      have e2 : okC m r c = true := by unfold okC; rw [decide_eq_true q]; rfl
      rw [e1, cond_true, if_pos e2]
      refine cnt_sim hm hn k ⟨len2, low2, rfl, fun v => ?_⟩
      rw [sn, if_pos q]
      exact I.bits v
    · have e1 : Nat.blt (len + 1) m.length = false := by
        rw [Bool.eq_false_iff]
        intro h
        have h : Nat.ble (len + 1 + 1) m.length = true := h
        rw [Nat.ble_eq, I.len] at h
        omega
      rw [e1, cond_false, forceN_eq, testBit_form]
      have hlen : (r ++ [c]).length = r.length + 1 := by simp
      have hv : vcode (offsL m) (codeR (r ++ [c])) = codeR (viewL (r ++ [c]) m (r.length + 1 - m.length)) := by
        rw [vcode_view low2 (by rw [hlen]; omega), hlen]
      rw [hv]
      rw [if_neg q] at sn
      have hvl : ∀ u ∈ viewsL r m, u.length = (seenL m).length ∧ lowL 4 u := fun u hu => by
        unfold viewsL at hu
        obtain ⟨p, hp, rfl⟩ := List.mem_map.mp hu
        have := List.mem_range.mp hp
        exact ⟨viewL_len r m p, viewL_low I.low (by omega)⟩
      have hnl : lowL 4 (viewL (r ++ [c]) m (r.length + 1 - m.length)) := viewL_low low2 (by rw [hlen]; omega)
      have hmem : st.testBit (codeR (viewL (r ++ [c]) m (r.length + 1 - m.length))) = decide (viewL (r ++ [c]) m (r.length + 1 - m.length) ∈ viewsL r m) := by
        rw [Bool.eq_iff_iff, decide_eq_true_iff, I.bits]
        constructor
        · rintro ⟨u, hu, e⟩
          obtain ⟨u1, u2⟩ := hvl u hu
          rw [← codeR_inj _ u1 (viewL_len _ _ _) u2 hnl e]
          exact hu
        · intro h
          exact ⟨_, h, rfl⟩
      rw [hmem]
      by_cases z : viewL (r ++ [c]) m (r.length + 1 - m.length) ∈ viewsL r m
      · have e2 : okC m r c = false := by unfold okC; rw [decide_eq_false q, decide_eq_true z]; rfl
        rw [decide_eq_true z, cond_true, e2, if_neg (by simp)]
      · have e2 : okC m r c = true := by unfold okC; rw [decide_eq_false q, decide_eq_false z]; rfl
        rw [decide_eq_false z, cond_false, forceN_eq, e2, if_pos rfl]
        refine cnt_sim hm hn k ⟨len2, low2, rfl, fun v => ?_⟩
        show (st ||| (1 <<< codeR (viewL (r ++ [c]) m (r.length + 1 - m.length)))).testBit v = true ↔ _
        rw [Nat.testBit_or, Nat.one_shiftLeft, Nat.testBit_two_pow, Bool.or_eq_true, I.bits, sn]
        constructor
        · rintro (⟨u, hu, e⟩ | h)
          · exact ⟨u, List.mem_append_left _ hu, e⟩
          · exact ⟨_, List.mem_append_right _ List.mem_cons_self, of_decide_eq_true h⟩
        · rintro ⟨u, hu, e⟩
          rcases List.mem_append.mp hu with hu | hu
          · exact .inl ⟨u, hu, e⟩
          · rw [List.mem_singleton.mp hu] at e
            exact .inr (decide_eq_true e)
theorem lev_cnt {m : List Nat} {n : Nat} (hm : 1 ≤ m.length) (hn : n ≤ 4) (k : Nat) : (lev m n k).length = cntN (offsL m) m.length (letN n) k 0 0 0 := by
  refine (lev_count m n k).trans (cnt_sim (r := []) (len := 0) (w := 0) (st := 0) hm hn k ⟨rfl, (fun c hc => nomatch hc), rfl, fun v => ?_⟩).symm
  constructor
  · intro h
    simp at h
  · rintro ⟨u, hu, _⟩
    unfold viewsL at hu
    obtain ⟨p, hp, _⟩ := List.mem_map.mp hu
    have := List.mem_range.mp hp
    simp at this
    omega
def chkC (e : List Nat × Nat × Nat) : Bool :=
  forceB (cntN (offsL e.1) e.1.length (letN e.2.1) e.2.2 0 0 0) (fun a => Nat.ble 1 a && Nat.ble a 4000) && forceB (cntN (offsL e.1) e.1.length (letN e.2.1) (e.2.2 + 1) 0 0 0) fun a => Nat.beq a 0
end HW
set_option maxHeartbeats 4000000
namespace HW
open PySem PySem.Spec PyProof.Rows L2
open SX (S)
theorem few_0 : chkC ([120, 46, 46, 46, 120], 2, 8) = true := by decide +kernel
theorem few_1 : chkC ([120, 120, 46, 120, 120], 2, 20) = true := by decide +kernel
theorem few_2 : chkC ([120, 120, 46, 46, 120, 46, 120], 2, 22) = true := by decide +kernel
theorem few_3 : chkC ([120, 46, 120, 46, 120], 2, 12) = true := by decide +kernel
theorem few_4 : chkC ([120, 120, 120], 2, 10) = true := by decide +kernel
theorem few_5 : chkC ([120, 46, 46, 120, 46, 46, 120], 2, 14) = true := by decide +kernel
theorem few_6 : chkC ([120, 46, 120, 46, 46, 120], 2, 13) = true := by decide +kernel
theorem few_7 : chkC ([120, 120], 2, 5) = true := by decide +kernel
theorem few_8 : chkC ([120, 46, 120, 120], 2, 11) = true := by decide +kernel
theorem few_9 : chkC ([120, 46, 46, 46, 120], 3, 13) = true := by decide +kernel
theorem few_10 : chkC ([120, 46, 46, 120], 3, 12) = true := by decide +kernel
theorem few_11 : chkC ([120, 120], 3, 10) = true := by decide +kernel
theorem few_12 : chkC ([120, 46, 120], 3, 11) = true := by decide +kernel
theorem few_13 : chkC ([120], 3, 3) = true := by decide +kernel
def T14 : List (List Nat × Nat × Nat) := [([120, 46, 46, 46, 120], 2, 8), ([120, 120, 46, 120, 120], 2, 20), ([120, 120, 46, 46, 120, 46, 120], 2, 22), ([120, 46, 120, 46, 120], 2, 12), ([120, 120, 120], 2, 10), ([120, 46, 46, 120, 46, 46, 120], 2, 14), ([120, 46, 120, 46, 46, 120], 2, 13), ([120, 120], 2, 5), ([120, 46, 120, 120], 2, 11), ([120, 46, 46, 46, 120], 3, 13), ([120, 46, 46, 120], 3, 12), ([120, 120], 3, 10), ([120, 46, 120], 3, 11), ([120], 3, 3)]
theorem few_all : ∀ e ∈ T14, chkC e = true := by
  intro e he
  simp only [T14, List.mem_cons, List.not_mem_nil, or_false] at he
  rcases he with rfl | rfl | rfl | rfl | rfl | rfl | rfl | rfl | rfl | rfl | rfl | rfl | rfl | rfl
  · exact few_0
  · exact few_1
  · exact few_2
  · exact few_3
  · exact few_4
  · exact few_5
  · exact few_6
  · exact few_7
  · exact few_8
  · exact few_9
  · exact few_10
  · exact few_11
  · exact few_12
  · exact few_13
def M9 : List (List Nat) := [[120, 46, 46, 46, 120], [120, 120, 46, 120, 120], [120, 120, 46, 46, 120, 46, 120], [120, 46, 120, 46, 120], [120, 120, 120], [120, 46, 46, 120, 46, 46, 120], [120, 46, 120, 46, 46, 120], [120, 120], [120, 46, 120, 120]]
def M8 : List (List Nat) := [[120, 46, 46, 46, 120], [120, 46, 46, 120], [120, 120], [120, 46, 120], [120], [120], [120, 120], [120]]
theorem m9_t : ∀ m ∈ M9, ∃ L, (m, 2, L) ∈ T14 := by
  intro m hm
  simp only [M9, List.mem_cons, List.not_mem_nil, or_false] at hm
  rcases hm with rfl | rfl | rfl | rfl | rfl | rfl | rfl | rfl | rfl
  · exact ⟨8, by simp [T14]⟩
  · exact ⟨20, by simp [T14]⟩
  · exact ⟨22, by simp [T14]⟩
  · exact ⟨12, by simp [T14]⟩
  · exact ⟨10, by simp [T14]⟩
  · exact ⟨14, by simp [T14]⟩
  · exact ⟨13, by simp [T14]⟩
  · exact ⟨5, by simp [T14]⟩
  · exact ⟨11, by simp [T14]⟩
theorem m8_t : ∀ m ∈ M8, ∃ L, (m, 3, L) ∈ T14 := by
  intro m hm
  simp only [M8, List.mem_cons, List.not_mem_nil, or_false] at hm
  rcases hm with rfl | rfl | rfl | rfl | rfl | rfl | rfl | rfl
  · exact ⟨13, by simp [T14]⟩
  · exact ⟨12, by simp [T14]⟩
  · exact ⟨10, by simp [T14]⟩
  · exact ⟨11, by simp [T14]⟩
  · exact ⟨3, by simp [T14]⟩
  · exact ⟨3, by simp [T14]⟩
  · exact ⟨10, by simp [T14]⟩
  · exact ⟨3, by simp [T14]⟩
theorem t14_small : ∀ e ∈ T14, (maskB e.1 && decide (1 ≤ e.2.1) && decide (e.2.1 ≤ 3) && decide (e.1.length ≤ [12, 8, 5, 4].getD (e.2.1 - 1) 0) && decide ((seenL e.1).length ≤ [12, 4, 2, 1].getD (e.2.1 - 1) 0) && decide (e.2.2 ≤ 22)) = true := by decide +kernel
theorem t14_ok {m : List Nat} {n L : Nat} (h : (m, n, L) ∈ T14) : Small m n ∧ n ≤ 3 ∧ L ≤ 22 ∧ lev m n L ≠ [] ∧ (lev m n L).length ≤ 4000 ∧ lev m n (L + 1) = [] ∧ topK m n = L + 1 := by
  have s := t14_small _ h
  simp only [Bool.and_eq_true, decide_eq_true_eq] at s
  obtain ⟨⟨⟨⟨⟨s1, s2⟩, s3⟩, s4⟩, s5⟩, s6⟩ := s
  have hs : Small m n := ⟨s1, s2, by omega, s4, s5⟩
  have c := few_all _ h
  unfold chkC at c
  rw [forceB_eq, forceB_eq] at c
  simp only [Bool.and_eq_true] at c
  obtain ⟨⟨c1, c2⟩, c3⟩ := c
  have c1 := Nat.le_of_ble_eq_true c1
  have c2 := Nat.le_of_ble_eq_true c2
  have c3 := Nat.eq_of_beq_eq_true c3
  have hm1 := hs.pos
  rw [← lev_cnt hm1 hs.hi] at c1 c2 c3
  have n1 : lev m n L ≠ [] := fun e => by rw [e] at c1; simp at c1
  have n2 : lev m n (L + 1) = [] := List.eq_nil_of_length_eq_zero c3
  exact ⟨hs, s3, s6, n1, c2, n2, (topK_eq hs n2 fun j hj e => n1 (lev_nil e L (by omega))).symm⟩
theorem lev_asc {m : List Nat} {n : Nat} (hm : 1 ≤ m.length) (hn : n ≤ 4) (k : Nat) : (lev m n k).Pairwise (· < ·) := by
  rw [← words_lev hm]
  exact (words_asc hn k).filter _
def swapC (n c : Nat) : Nat := 97 + (n - 1 - (c - 97))
theorem lev_end {m : List Nat} {n L : Nat} (hm : 1 ≤ m.length) (hn : n ≤ 4) (h : lev m n (L + 1) = []) {l : List Nat} (hl : l.length = L + 1) (hw : lowL n l) : tellsB l m = false := by
  rw [Bool.eq_false_iff]
  intro q
  have := (mem_lev hm hn).mpr ⟨hl, hw, q⟩
  rw [h] at this
  exact nomatch this
theorem lev_rev {m : List Nat} {n L : Nat} (hm : 1 ≤ m.length) (hn : n ≤ 4) {l : List Nat} (h : l ∈ lev m n L) (e : m = m.reverse) : l.reverse ∈ lev m n L := by
  obtain ⟨h1, h2, h3⟩ := (mem_lev hm hn).mp h
  refine (mem_lev hm hn).mpr ⟨by simpa using h1, fun c hc => h2 c (List.mem_reverse.mp hc), ?_⟩
  have := tells_rev l m
  rw [← e] at this
  rw [this]
  exact h3
theorem lev_swap {m : List Nat} {n L : Nat} (hm : 1 ≤ m.length) (hn : n ≤ 4) {l : List Nat} (h : l ∈ lev m n L) : l.map (swapC n) ∈ lev m n L := by
  obtain ⟨h1, h2, h3⟩ := (mem_lev hm hn).mp h
  refine (mem_lev hm hn).mpr ⟨by simpa using h1, fun c hc => ?_, ?_⟩
  · obtain ⟨x, hx, rfl⟩ := List.mem_map.mp hc
    have := h2 x hx
    unfold swapC
    omega
  · rw [tells_map]
    · exact h3
    · intro x hx y hy e
      have := h2 x hx
      have := h2 y hy
      unfold swapC at e
      omega
theorem occ_abc {c : Nat} (h : 97 ≤ c ∧ c < 97 + 3) : ∃ rest, Builtin.Str.occurrences (S [97, 98, 99]) (⟨#[c]⟩ : Str) 0 (S [97, 98, 99]).length 1 = (c - 97) :: rest := by
  have : c = 97 ∨ c = 98 ∨ c = 99 := by omega
  rcases this with rfl | rfl | rfl
  · exact ⟨[], by decide +kernel⟩
  · exact ⟨[], by decide +kernel⟩
  · exact ⟨[], by decide +kernel⟩

end HW
set_option maxHeartbeats 0
namespace Tx
open PySem PySem.Spec PyProof.Rows L2
def top (i : Nat) : Stmt := PySem.Challenge.pw_holedwindows_k08_longest_rows_checked.main.body.getD i (.Pass ⟨0, 0, 0, 0⟩)
abbrev s_is_from : Stmt := top 12
abbrev s_is_mask : Stmt := top 13
abbrev s_need_mask : Stmt := top 14
abbrev s_need_letters : Stmt := top 15
abbrev s_seen_by : Stmt := top 16
abbrev s_view_by : Stmt := top 18
abbrev s_need_small : Stmt := top 22
abbrev s_longer : Stmt := top 23
abbrev s_levels_of : Stmt := top 24
abbrev s_longest : Stmt := top 25
abbrev s_longest_rows : Stmt := top 26
abbrev s_count_rows : Stmt := top 27
abbrev s__law_taken : Stmt := top 29
abbrev s__law_open : Stmt := top 30
abbrev s__law_views : Stmt := top 31
abbrev s__law_tells : Stmt := top 32
abbrev s_law : Stmt := top 33
def d_is_from : He.DefD := ⟨("is_from", none), "is_from", "is_from", defArgs s_is_from, defBody s_is_from, defScope s_is_from, [], []⟩
def d_is_mask : He.DefD := ⟨("is_mask", none), "is_mask", "is_mask", defArgs s_is_mask, defBody s_is_mask, defScope s_is_mask, [], []⟩
def d_need_mask : He.DefD := ⟨("need_mask", none), "need_mask", "need_mask", defArgs s_need_mask, defBody s_need_mask, defScope s_need_mask, [], []⟩
def d_need_letters : He.DefD := ⟨("need_letters", none), "need_letters", "need_letters", defArgs s_need_letters, defBody s_need_letters, defScope s_need_letters, [], []⟩
def d_seen_by : He.DefD := ⟨("seen_by", none), "seen_by", "seen_by", defArgs s_seen_by, defBody s_seen_by, defScope s_seen_by, [], []⟩
def d_view_by : He.DefD := ⟨("view_by", none), "view_by", "view_by", defArgs s_view_by, defBody s_view_by, defScope s_view_by, [], []⟩
def d_need_small : He.DefD := ⟨("need_small", none), "need_small", "need_small", defArgs s_need_small, defBody s_need_small, defScope s_need_small, [], []⟩
def d_longer : He.DefD := ⟨("longer", none), "longer", "longer", defArgs s_longer, defBody s_longer, defScope s_longer, [], []⟩
def d_levels_of : He.DefD := ⟨("levels_of", none), "levels_of", "levels_of", defArgs s_levels_of, defBody s_levels_of, defScope s_levels_of, [], []⟩
def d_longest : He.DefD := ⟨("longest", none), "longest", "longest", defArgs s_longest, defBody s_longest, defScope s_longest, [], []⟩
def d_longest_rows : He.DefD := ⟨("longest_rows", none), "longest_rows", "longest_rows", defArgs s_longest_rows, defBody s_longest_rows, defScope s_longest_rows, [], []⟩
def d_count_rows : He.DefD := ⟨("count_rows", none), "count_rows", "count_rows", defArgs s_count_rows, defBody s_count_rows, defScope s_count_rows, [], []⟩
def d__law_taken : He.DefD := ⟨("_law_taken", none), "_law_taken", "_law_taken", defArgs s__law_taken, defBody s__law_taken, defScope s__law_taken, [], []⟩
def d__law_open : He.DefD := ⟨("_law_open", none), "_law_open", "_law_open", defArgs s__law_open, defBody s__law_open, defScope s__law_open, [], []⟩
def d__law_views : He.DefD := ⟨("_law_views", none), "_law_views", "_law_views", defArgs s__law_views, defBody s__law_views, defScope s__law_views, [], []⟩
def d__law_tells : He.DefD := ⟨("_law_tells", none), "_law_tells", "_law_tells", defArgs s__law_tells, defBody s__law_tells, defScope s__law_tells, [], []⟩
def d_law : He.DefD := ⟨("law", none), "law", "law", defArgs s_law, defBody s_law, defScope s_law, [], []⟩
def fn0 : List He.DefD := [d_is_from, d_is_mask, d_need_mask, d_need_letters, d_seen_by, d_view_by, d_need_small, d_longer, d_levels_of, d_longest, d_longest_rows, d_count_rows, d__law_taken, d__law_open, d__law_views, d__law_tells, d_law]
def fn : List He.DefD := fn0
def fa0 : List He.Fa := [.glo "is_from", .glo "is_mask", .glo "need_mask", .glo "need_letters", .glo "seen_by", .glo "view_by", .glo "need_small", .glo "longer", .glo "levels_of", .glo "longest", .glo "longest_rows", .glo "count_rows", .glo "_law_taken", .glo "_law_open", .glo "_law_views", .glo "_law_tells", .glo "law", .free "all", .free "any", .free "bool", .free "enumerate", .free "int", .free "isinstance", .free "len", .free "range"]
def fa1 : List He.Fa := [.free "set", .free "sorted", .free "str", .free "zip", .free "min", .free "max", .free "tuple", .free "list", .free "dict", .free "abs", .free "sum", .str "SEEN" "x", .str "HOLE" ".", .str "LETTERS" "abcd", .int "MOST_MASK" 12, .int "MOST_ROW" 60]
def fa : List He.Fa := fa0 ++ fa1
def names0 : List PySem.Str := ["__name__", "SEEN", "HOLE", "LETTERS", "MOST_MASK", "MOST_ROW", "MOST_WIDTHS", "MOST_SEEN", "WindowError", "BadMask", "BadLetters", "BadNumber", "TooGreat", "is_from", "is_mask", "need_mask", "need_letters", "seen_by", "view_by", "need_small", "longer", "levels_of", "longest", "longest_rows", "count_rows"]
def names1 : List PySem.Str := ["_law_taken", "_law_open", "_law_views", "_law_tells"]
def names : List PySem.Str := names0 ++ names1
abbrev R : PySem.W.OpenRow := PySem.W.OpenLaw.row PySem.Challenge.rw_holedwindows_k08_longest_rows_checked
def ex (K : PySem.W.Frag) : Bool := HX.tupI "MOST_WIDTHS" [12, 8, 5, 4] K && HX.tupI "MOST_SEEN" [12, 4, 2, 1] K && true
abbrev hk : PySem.W.Hook := HX.hookE 4 fa fn ex
def ob (s : PySem.W.SharedT) : HX.AlE := HX.obsE 4 fa fn ex (HandSHeadRun.getT s)
theorem ob_eq (s : PySem.W.SharedT) : ob s = hk.obs s.abs := HX.obsE_eq (HandSHeadRun.getT_eq s)
theorem run (w : World) : HandSHeadRun.RunEq R (PySem.W.view R.prog [33]) hk ob 6000 names w := by
  intro os
  kernel_rfl
end Tx
set_option maxHeartbeats 4000000
namespace HW
open PySem PySem.Spec PyProof.Rows L2 Tx
open SX (S)
section
variable {P : Program} {w : World} {K : PySem.W.Frag} {mg : Str → Option Value} {base : Heap} {f : Addr} {fd : FuncData} {k : Nat}
theorem fd_taken (F : FnP K "_law_taken" s__law_taken f fd) (hint : mg "int" = none) (hlen : mg "len" = none) : FnOk P w K mg base CX0 (k + 1) f fd ["_law_row", "_law_many"] (spW K R_taken_pre R_taken_post) := by
  have sc : FnScope ["_law_row", "_law_many", "_law_found", "_law_cell"] ["_law_row", "_law_many"] (defScope s__law_taken) := ⟨rfl, rfl, rfl, by decide +kernel, rfl, by decide +kernel, by decide +kernel⟩
  refine F.ok sc (fun vs H Q E ⟨M, r, scr, ns, ws, ds, e, _, _, _, _, _, _, hv, ⟨m, e2, _⟩, _⟩ => by rw [e, List.length_cons, hv.length, e2]; rfl) fun cdv A outer s H vs Q E hr ⟨M, r, scr, ns, ws, ds, e, hM, hrM, hR, hS, hne, hns, hv, ⟨m, e2, h0, h1⟩, q⟩ => ?_
  subst e
  subst e2
  cases hv with
  | cons hv1 hv2 =>
  cases hv2
  cases hv1
  obtain ⟨i, sd, rest, hrow, hi0⟩ := hR
  -- the end: r holds whatever it holds
  have fin : ∀ (k : Nat) (i' sd' q' : Int) (H' : Hp), (k : Int) < m → 0 ≤ i' → (∀ a o, a ≠ r → H a = some o → H' a = some o) → H' r = some (.lst [.ref scr, .int i', .int sd', .int q']) → Q (.int (k : Int)) H' := fun k i' sd' q' H' hk hi' keep hr' =>
    q _ H' (.int (k : Int)) ⟨m, k, rfl, rfl, hk⟩ keep ⟨i', sd', q', hr', hi'⟩ (.int _)
  have modk : ∀ z : Int, ∃ k : Nat, z % m = (k : Int) ∧ (k : Int) < m := fun z => ⟨(z % m).toNat, by rw [Int.toNat_of_nonneg (Int.emod_nonneg _ (by omega))], by rw [Int.toNat_of_nonneg (Int.emod_nonneg _ (by omega))]; exact Int.emod_lt_of_pos _ h0⟩
  have sq : ∀ {H' : Hp}, (∀ a o, a ≠ r → H a = some o → H' a = some o) → SqL K H' scr (ns.map V.int) := fun {H'} keep => SqL.up (fun o e => keep scr o hne e) hS
  refine ⟨_, PSs.nox wSs.ps, ?_⟩
  show wSs (cxOf CX0 P w K mg base ["_law_row", "_law_many", "_law_found", "_law_cell"] "_law_taken" (defScope s__law_taken) f cdv A outer s H E).nox _ _ (start _ _) H
  have nd := sc.nd
  have k1 : ∀ {o : HO} (a : Addr) (u : HO), a ≠ r → H a = some u → upd H r o a = some u := fun {o} a u n e => by rw [upd_ne n]; exact e
  refine wSs_cons ((ps_if wT.pt wSs.ps wSs.ps).w (at_cmp (k := decide (0 < rest)) op_gt (at_ix (at_var 0 rfl) at_int (SqL.of hrow) rfl) at_int (fun Q q => ⟨rest, 0, rfl, rfl, q⟩) ?_))
  by_cases hp : 0 < rest
  · rw [decide_eq_true hp]
    obtain ⟨k, ek, hk⟩ := modk rest
    refine iteT (wSs_cons ((ps_set (i := 2) nd rfl (.inl rfl) wE.pe).w (at_op (z := .int (rest % m)) op_mod (at_int1 (at_ix (at_var 0 rfl) at_int (SqL.of hrow) rfl) hint) (at_var 1 rfl) (fun Q q => ⟨rest, m, rfl, rfl, h0, q⟩) _ ?_)))
    refine wSs_cons ((ps_asg wE.pe (pg_sub wE.pe wE.pe set_list)).w (at_op (z := .int (rest / m)) op_fdiv (at_ix (at_var 0 rfl) at_int (SqL.of hrow) rfl) (at_var 1 rfl) (fun Q q => ⟨rest, m, rfl, rfl, ⟨h0, h1⟩, q⟩) _ ?_))
    refine at_k (at_var 0 rfl) (at_k at_int ⟨r, _, 3, 3, rfl, rfl, hrow, rfl, ?_⟩)
    refine wSs_cons ((ps_ret wE.pe).w (at_k (at_var 2 rfl) ?_))
    rw [ek]
    exact fin k i sd (rest / m) _ hk hi0 k1 upd_same
  · rw [decide_eq_false hp]
    refine iteF (pss_nil.w ?_)
    refine wSs_cons ((ps_asg wE.pe (pg_sub wE.pe wE.pe set_list)).w (at_op (z := .int (i + 1)) op_add (at_ix (at_var 0 rfl) at_int (SqL.of hrow) rfl) at_int (fun Q q => ⟨i, 1, rfl, rfl, q⟩) _ ?_))
    refine at_k (at_var 0 rfl) (at_k at_int ⟨r, _, 1, 1, rfl, rfl, hrow, rfl, ?_⟩)
    have hr1 : upd H r (.lst [.ref scr, .int (i + 1), .int sd, .int rest]) r = some (.lst [.ref scr, .int (i + 1), .int sd, .int rest]) := upd_same
    have keep1 : ∀ (a : Addr) (u : HO), a ≠ r → H a = some u → upd H r (.lst [.ref scr, .int (i + 1), .int sd, .int rest]) a = some u := k1
    revert hr1 keep1
    show _ → _ → wSs _ _ _ _ (upd H r (.lst [.ref scr, .int (i + 1), .int sd, .int rest]))
    generalize upd H r (.lst [.ref scr, .int (i + 1), .int sd, .int rest]) = H1
    intro hr1 keep1
    have k2 : ∀ {o : HO} (a : Addr) (u : HO), a ≠ r → H a = some u → upd H1 r o a = some u := fun {o} a u n e => by rw [upd_ne n]; exact keep1 a u n e
    refine wSs_cons ((ps_if wT.pt wSs.ps wSs.ps).w (at_cmp (k := decide (((ns.map V.int).length : Int) < i + 1)) op_gt (at_ix (at_var 0 rfl) at_int (SqL.of hr1) rfl) (at_len (at_ix (at_var 0 rfl) at_int (SqL.of hr1) rfl) (sq keep1) hlen) (fun Q q => ⟨i + 1, _, rfl, rfl, q⟩) ?_))
    by_cases hb : ((ns.map V.int).length : Int) < i + 1
    · rw [decide_eq_true hb]
      refine iteT (wSs_cons ((ps_asg wE.pe (pg_sub wE.pe wE.pe set_list)).w (at_op (z := .int ((sd * 48271 + 11) % 2147483647)) op_mod (at_int1 (at_op (z := .int (sd * 48271 + 11)) op_add (at_op (z := .int (sd * 48271)) op_mul (at_ix (at_var 0 rfl) at_int (SqL.of hr1) rfl) at_int (fun Q q => ⟨sd, 48271, rfl, rfl, .inr (by decide), q⟩)) at_int (fun Q q => ⟨_, 11, rfl, rfl, q⟩)) hint) at_int (fun Q q => ⟨_, 2147483647, rfl, rfl, (by decide : (0 : Int) < 2147483647), q⟩) _ ?_)))
      refine at_k (at_var 0 rfl) (at_k at_int ⟨r, _, 2, 2, rfl, rfl, hr1, rfl, ?_⟩)
      obtain ⟨k, ek, hk⟩ := modk ((sd * 48271 + 11) % 2147483647 / 7)
      refine wSs_cons ((ps_ret wE.pe).w (at_op (z := .int ((sd * 48271 + 11) % 2147483647 / 7 % m)) op_mod (at_int1 (at_op (z := .int ((sd * 48271 + 11) % 2147483647 / 7)) op_fdiv (at_ix (at_var 0 rfl) at_int (SqL.of upd_same) rfl) at_int (fun Q q => ⟨_, 7, rfl, rfl, ⟨by decide, by decide⟩, q⟩)) hint) (at_var 1 rfl) (fun Q q => ⟨_, m, rfl, rfl, h0, q⟩) _ ?_))
      rw [ek]
      exact fin k (i + 1) _ rest _ hk (by omega) k2 upd_same
    · rw [decide_eq_false hb]
      refine iteF (pss_nil.w ?_)
      obtain ⟨c, hc⟩ : ∃ c : Int, atI (ns.map V.int) (i + 1 - 1) = some (.int c) := by
        have hl : i.toNat < ns.length := by
          rw [List.length_map] at hb
          omega
        refine ⟨ns[i.toNat], at_nat (n := i.toNat) (by omega) ?_⟩
        rw [List.getElem?_map, List.getElem?_eq_getElem hl]
        rfl
      refine wSs_cons ((ps_set (i := 3) nd rfl (.inl rfl) wE.pe).w (at_ix (at_ix (at_var 0 rfl) at_int (SqL.of hr1) rfl) (at_op (z := .int (i + 1 - 1)) op_sub (at_ix (at_var 0 rfl) at_int (SqL.of hr1) rfl) at_int (fun Q q => ⟨i + 1, 1, rfl, rfl, q⟩)) (sq keep1) hc (by exact fun _ _ => rfl) _ ?_))
      refine wSs_cons ((ps_asg wE.pe (pg_sub wE.pe wE.pe set_list)).w (at_op (z := .int ((sd * 48271 + c + 11) % 2147483647)) op_mod (at_int1 (at_op (z := .int (sd * 48271 + c + 11)) op_add (at_op (z := .int (sd * 48271 + c)) op_add (at_op (z := .int (sd * 48271)) op_mul (at_ix (at_var 0 rfl) at_int (SqL.of hr1) rfl) at_int (fun Q q => ⟨sd, 48271, rfl, rfl, .inr (by decide), q⟩)) (at_var 3 rfl) (fun Q q => ⟨_, c, rfl, rfl, q⟩)) at_int (fun Q q => ⟨_, 11, rfl, rfl, q⟩)) hint) at_int (fun Q q => ⟨_, 2147483647, rfl, rfl, (by decide : (0 : Int) < 2147483647), q⟩) _ ?_))
      refine at_k (at_var 0 rfl) (at_k at_int ⟨r, _, 2, 2, rfl, rfl, hr1, rfl, ?_⟩)
      have hr2 : upd H1 r (.lst [.ref scr, .int (i + 1), .int ((sd * 48271 + c + 11) % 2147483647), .int rest]) r = some (.lst [.ref scr, .int (i + 1), .int ((sd * 48271 + c + 11) % 2147483647), .int rest]) := upd_same
      have keep2 : ∀ (a : Addr) (u : HO), a ≠ r → H a = some u → upd H1 r (.lst [.ref scr, .int (i + 1), .int ((sd * 48271 + c + 11) % 2147483647), .int rest]) a = some u := k2
      revert hr2 keep2
      show _ → _ → wSs _ _ _ _ (upd H1 r (.lst [.ref scr, .int (i + 1), .int ((sd * 48271 + c + 11) % 2147483647), .int rest]))
      generalize upd H1 r (.lst [.ref scr, .int (i + 1), .int ((sd * 48271 + c + 11) % 2147483647), .int rest]) = H2
      intro hr2 keep2
      have k3 : ∀ {o : HO} (a : Addr) (u : HO), a ≠ r → H a = some u → upd H2 r o a = some u := fun {o} a u n e => by rw [upd_ne n]; exact keep2 a u n e
      obtain ⟨k, ek, hk⟩ := modk c
      refine wSs_cons ((ps_if wT.pt wSs.ps wSs.ps).w (at_cmp (k := decide ((10 : Int) ^ (18 : Int).toNat ≤ c)) op_ge (at_var 3 rfl) (at_op (z := .int ((10 : Int) ^ (18 : Int).toNat)) op_pow at_int at_int (fun Q q => ⟨10, 18, rfl, rfl, ⟨by decide, by decide, by decide⟩, q⟩)) (fun Q q => ⟨c, _, rfl, rfl, q⟩) ?_))
      have out : ∀ (q' : Int) (H' : Hp), (∀ a o, a ≠ r → H a = some o → H' a = some o) → H' r = some (.lst [.ref scr, .int (i + 1), .int ((sd * 48271 + c + 11) % 2147483647), .int q']) →
          wSs (cxOf CX0 P w K mg base ["_law_row", "_law_many", "_law_found", "_law_cell"] "_law_taken" (defScope s__law_taken) f cdv A outer s H E).nox ((defBody s__law_taken).drop 6) { nx := fun x H' => Q .non H', rt := Q } [some (.ref r), some (.int m), none, some (.int c)] H' := fun q' H' keep hr' => by
        refine wSs_cons ((ps_ret wE.pe).w (at_op (z := .int (c % m)) op_mod (at_int1 (at_var 3 rfl) hint) (at_var 1 rfl) (fun Q q => ⟨c, m, rfl, rfl, h0, q⟩) _ ?_))
        rw [ek]
        exact fin k (i + 1) _ q' _ hk (by omega) keep hr'
      by_cases hg : (10 : Int) ^ (18 : Int).toNat ≤ c
      · rw [decide_eq_true hg]
        refine iteT (wSs_cons ((ps_asg wE.pe (pg_sub wE.pe wE.pe set_list)).w (at_op (z := .int (c / m)) op_fdiv (at_var 3 rfl) (at_var 1 rfl) (fun Q q => ⟨c, m, rfl, rfl, ⟨h0, h1⟩, q⟩) _ ?_)))
        refine at_k (at_var 0 rfl) (at_k at_int ⟨r, _, 3, 3, rfl, rfl, hr2, rfl, ?_⟩)
        exact pss_nil.w (out (c / m) _ k3 upd_same)
      · rw [decide_eq_false hg]
        exact iteF (pss_nil.w (out rest _ keep2 hr2))
theorem fd_is_mask (F : FnP K "is_mask" s_is_mask f fd) (G : Gs mg) (gS : gSEEN mg) (gH : gHOLE mg) (gM : gMOST_MASK mg) : FnOk P w K mg base CX0 (k + 1) f fd ["value"] (spR K R_is_mask) := by
  have sc : FnScope ["value", "sign"] ["value"] (defScope s_is_mask) := ⟨rfl, rfl, rfl, by decide +kernel, rfl, by decide +kernel, by decide +kernel⟩
  refine fd_pure F sc _ (fun ds d ⟨m, e, _⟩ => by rw [e]; rfl) fun cdv A outer s H E hr W ds d hrow hR => ?_
  obtain ⟨m, rfl, hm, rfl⟩ := hR
  unfold maskB at hm
  simp only [Bool.and_eq_true, decide_eq_true_eq] at hm
  obtain ⟨⟨⟨⟨h1, h2⟩, h3⟩, h4⟩, h5⟩ := hm
  refine run_if (k := false) ((t_or (t_not (et_val (ed_isi (T := "str") (vr 0) G.isinstance G.str (by decide +kernel)))) fun _ => t_not (tc_chain ed_int (ed_callB G.len boot_len (ea_cons (vr 0) ea_nil) (c_lenS (by omega))) (fun _ => ed_gint gM) c_le c_le)).to ?_) (fun q => nomatch q) (fun _ => run_skip ?_)
  · have e1 : decide ((1 : Int) ≤ ((m.length : Nat) : Int)) = true := decide_eq_true (by omega)
    have e2 : decide (((m.length : Nat) : Int) ≤ (12 : Int)) = true := decide_eq_true (by omega)
    rw [e1, e2]
    rfl
  · refine run_ret ((ed_and (k := true) (l := true) ((ed_callB G.all boot_all (ea_cons (lcN0 1 (it_str (vr 0)) (by omega) (fun c => .bool (decide (c ∈ [120, 46]))) (fun c hc W1 l s H C cl fp => ed_cmp (vr 1) (ed_op (ed_gS [120] gS) (ed_gS [46] gH) (o_adds (by decide))) c_inS) sc.nd |>.ed sc.nd) ea_nil) (c_all (bs := m.map fun c => decide (c ∈ [120, 46])) rfl |> fun z => by rw [List.map_map] at z; exact z)).to ?_)
      (fun _ => ed_and (k := true) (l := true) ((ed_cmp (ed_ix (vr 0) ed_int (i_str (n := 0) (by omega) h4)) (ed_gS [120] gS) (c_eqS (l := [120]))).to ?_) fun _ => ed_one ((ed_cmp (ed_ix (vr 0) (ed_neg ed_int) (i_strL (by omega) h5)) (ed_gS [120] gS) (c_eqS (l := [120]))).to ?_)))) rfl
    · rw [List.all_map]
      exact congrArg PyData.bool h3
    · rfl
    · rfl
theorem fd_need_mask (F : FnP K "need_mask" s_need_mask f fd) (F1 : Fd P w K mg base k "is_mask" ["value"] (spR K R_is_mask)) : FnOk P w K mg base CX0 (k + 1) f fd ["mask"] (spR K R_need_mask) := by
  have sc : FnScope ["mask"] ["mask"] (defScope s_need_mask) := ⟨rfl, rfl, rfl, by decide +kernel, rfl, by decide +kernel, by decide +kernel⟩
  refine fd_pure F sc _ (fun ds d ⟨m, e, _⟩ => by rw [e]; rfl) fun cdv A outer s H E hr W ds d hrow hR => ?_
  obtain ⟨m, rfl, hm, rfl⟩ := hR
  exact run_if (k := false) (t_not (k := true) (et_val (ed_call F1 hr (ea_cons (vr 0) ea_nil) ⟨m, rfl, hm, rfl⟩))) (fun q => nomatch q) (fun _ => run_skip (run_end rfl))
theorem fd_is_from (F : FnP K "is_from" s_is_from f fd) (G : Gs mg) : FnOk P w K mg base CX0 (k + 1) f fd ["value", "low", "high"] (spR K R_is_from) := by
  have sc : FnScope ["value", "low", "high"] ["value", "low", "high"] (defScope s_is_from) := ⟨rfl, rfl, rfl, by decide +kernel, rfl, by decide +kernel, by decide +kernel⟩
  refine fd_pure F sc _ (fun ds d ⟨v, a, b, e, _⟩ => by rw [e]; rfl) fun cdv A outer s H E hr W ds d hrow hR => ?_
  obtain ⟨v, a, b, rfl, rfl⟩ := hR
  exact run_ret (ed_and (k := true) (l := decide (a ≤ v) && decide (v ≤ b)) (ed_isi (T := "int") (vr 0) G.isinstance G.int (by decide +kernel)) fun _ => ed_and (k := true) (l := decide (a ≤ v) && decide (v ≤ b)) (ed_not (k := false) (ed_isi (T := "bool") (vr 0) G.isinstance G.bool (by decide +kernel))) fun _ => ed_one (ed_chain (vr 1) (vr 0) (fun _ => vr 2) c_le c_le)) rfl
theorem fd_need_letters (F : FnP K "need_letters" s_need_letters f fd) (G : Gs mg) (gL : gLETTERS mg) (F1 : Fd P w K mg base k "is_from" ["value", "low", "high"] (spR K R_is_from)) : FnOk P w K mg base CX0 (k + 1) f fd ["letters"] (spR K R_need_letters) := by
  have sc : FnScope ["letters"] ["letters"] (defScope s_need_letters) := ⟨rfl, rfl, rfl, by decide +kernel, rfl, by decide +kernel, by decide +kernel⟩
  refine fd_pure F sc _ (fun ds d ⟨n, e, _⟩ => by rw [e]; rfl) fun cdv A outer s H E hr W ds d hrow hR => ?_
  obtain ⟨n, rfl, h1, h2, rfl⟩ := hR
  refine run_if (k := false) (t_not (k := true) (et_val ((ed_call F1 hr (ea_cons (vr 0) (ea_cons ed_int (ea_cons (ed_callB G.len boot_len (ea_cons (ed_gS [97, 98, 99, 100] gL) ea_nil) (c_lenS (by decide))) ea_nil))) ⟨(n : Int), 1, 4, rfl, rfl⟩).to ?_))) (fun q => nomatch q) (fun _ => run_skip (run_end rfl))
  have e1 : decide ((1 : Int) ≤ (n : Int)) = true := decide_eq_true (by omega)
  have e2 : decide ((n : Int) ≤ (4 : Int)) = true := decide_eq_true (by omega)
  rw [e1, e2]
  rfl
theorem fd_seen_by (F : FnP K "seen_by" s_seen_by f fd) (G : Gs mg) (gS : gSEEN mg) : FnOk P w K mg base CX0 (k + 1) f fd ["mask"] (spR K R_seen_by) := by
  have sc : FnScope ["mask", "at", "sign"] ["mask"] (defScope s_seen_by) := ⟨rfl, rfl, rfl, by decide +kernel, rfl, by decide +kernel, by decide +kernel⟩
  refine fd_pure F sc _ (fun ds d ⟨m, e, _⟩ => by rw [e]; rfl) fun cdv A outer s H E hr W ds d hrow hR => ?_
  obtain ⟨m, rfl, hl, rfl⟩ := hR
  refine run_ret (lcP1 1 2 (it_enum (vr 0) G.enumerate rfl) (by simpa using hl) (fun q => decide (q.2 = 120)) (fun q => nn q.1) (fun q hq W1 l s H C cl fp => tc (vr 2) (ed_gS [120] gS) (c_eqS (m := [120])) |>.to ?_) (fun q hq hc W1 l s H C cl fp => vr 1) sc.nd |>.ed sc.nd) ?_
  · simp
  · show PyData.list _ = PyData.list _
    unfold seenL
    rw [List.map_map]
    rfl
theorem fd_need_small (F : FnP K "need_small" s_need_small f fd) (G : Gs mg) (gW : gWID K mg) (gS : gSEE K mg) (F1 : Fd P w K mg base k "need_mask" ["mask"] (spR K R_need_mask)) (F2 : Fd P w K mg base k "need_letters" ["letters"] (spR K R_need_letters)) (F3 : Fd P w K mg base k "seen_by" ["mask"] (spR K R_seen_by)) : FnOk P w K mg base CX0 (k + 1) f fd ["mask", "letters"] (spR K R_need_small) := by
  have sc : FnScope ["mask", "letters"] ["mask", "letters"] (defScope s_need_small) := ⟨rfl, rfl, rfl, by decide +kernel, rfl, by decide +kernel, by decide +kernel⟩
  refine fd_pure F sc _ (fun ds d ⟨m, n, e, _⟩ => by rw [e]; rfl) fun cdv A outer s H E hr W ds d hrow hR => ?_
  obtain ⟨m, n, rfl, hs, rfl⟩ := hR
  have hm := maskB_len hs.mask
  have lo := hs.lo
  have hi := hs.hi
  have h1 := hs.wide
  have h2 := hs.seen
  have ix : ∀ a b c d : Nat, ([(a : Int), b, c, d].map PyData.int)[n - 1]? = some (nn ([a, b, c, d].getD (n - 1) 0)) := fun a b c d => by
    match n, lo, hi with
    | 1, _, _ => rfl
    | 2, _, _ => rfl
    | 3, _, _ => rfl
    | 4, _, _ => rfl
  refine run_expr (ed_call F1 hr (ea_cons (vr 0) ea_nil) ⟨m, rfl, hs.mask, rfl⟩) (run_expr (ed_call F2 hr (ea_cons (vr 1) ea_nil) ⟨n, rfl, lo, hi, rfl⟩) ?_)
  refine run_if (k := false) (t_or (k := false) (l := false) (tc (ed_callB G.len boot_len (ea_cons (vr 0) ea_nil) (c_lenS (by omega))) (ed_ix (ed_gtup gW) (ed_op (vr 1) ed_int o_sub) (i_tup (n := n - 1) (ix 12 8 5 4) (by omega))) c_gt |>.to ?_) fun _ => tc (ed_callB G.len boot_len (ea_cons (ed_call F3 hr (ea_cons (vr 0) ea_nil) ⟨m, rfl, by omega, rfl⟩) ea_nil) c_lenL) (ed_ix (ed_gtup gS) (ed_op (vr 1) ed_int o_sub) (i_tup (n := n - 1) (ix 12 4 2 1) (by omega))) c_gt |>.to ?_) (fun q => nomatch q) (fun _ => run_skip (run_end rfl))
  · exact decide_eq_false (by omega)
  · rw [List.length_map]
    exact decide_eq_false (by omega)
theorem fd_view_by (F : FnP K "view_by" s_view_by f fd) (G : Gs mg) (F1 : Fd P w K mg base k "seen_by" ["mask"] (spR K R_seen_by)) : FnOk P w K mg base CX0 (k + 1) f fd ["row", "mask", "place"] (spR K R_view_by) := by
  have sc : FnScope ["row", "mask", "place", "at"] ["row", "mask", "place"] (defScope s_view_by) := ⟨rfl, rfl, rfl, by decide +kernel, rfl, by decide +kernel, by decide +kernel⟩
  refine fd_pure F sc _ (fun ds d ⟨l, m, p, e, _⟩ => by rw [e]; rfl) fun cdv A outer s H E hr W ds d hrow hR => ?_
  obtain ⟨l, m, p, rfl, h1, h2, h3, rfl⟩ := hR
  have h4 := seenL_len m
  refine run_ret (ed_joinC (viewL l m p) (ed_S []) (lcN0 3 (it_list (enc := nn) (xs := seenL m) (ed_call F1 hr (ea_cons (vr 1) ea_nil) ⟨m, rfl, by omega, rfl⟩)) (by omega) (fun a => sg (l.getD (p + a) 0)) (fun a ha W2 lw2 s2 H2 C2 cl2 fp2 => ed_ix (vr 0) (ed_op (vr 2) (vr 3) o_add) (i_str (n := p + a) (by omega) (by
        have h5 := mem_seen ha
        have : p + a < l.length := by omega
        rw [List.getD_eq_getElem?_getD, List.getElem?_eq_getElem this]
        rfl) (by push_cast; rfl))) sc.nd |>.ed sc.nd) (by unfold viewL; rw [List.map_map]; rfl) (by unfold viewL; simp; omega)) rfl
theorem fd_longer (F : FnP K "longer" s_longer f fd) (G : Gs mg) (gL : gLETTERS mg) (F1 : Fd P w K mg base k "view_by" ["row", "mask", "place"] (spR K R_view_by)) : FnOk P w K mg base CX0 (k + 1) f fd ["rows", "mask", "letters"] (spR K R_longer) := by
  have sc : FnScope ["rows", "mask", "letters", "found", "row", "told", "letter", "wide", "view"] ["rows", "mask", "letters"] (defScope s_longer) := ⟨rfl, rfl, rfl, by decide +kernel, rfl, by decide +kernel, by decide +kernel⟩
  refine fd_pure F sc _ (fun ds d ⟨rs, m, n, e, _⟩ => by rw [e]; rfl) fun cdv A outer s H E hr W ds d hrow hR => ?_
  obtain ⟨rs, m, n, rfl, h1, h2, hm, hrl, hsz, hnx, rfl⟩ := hR
  have hml := maskB_len hm
  have hm1 := maskB_pos hm
  refine run_newL 3 (fun a => ?_) sc.nd
  refine run_for2 4 5 (it_list (xs := rs) (enc := rowT m) (vr 0)) (fun i Γ μ => Γ = [.d (rowsT m rs), .d (sD m), .d (nn n), .r a, .no, .no, .no, .no, .no] ∧ μ = [(a, .lst ((nextL m n (rs.take i)).map (rowT m)))]) ⟨rfl, rfl⟩ (fun W1 lw i r Γ' μ' hx ⟨e1, e2⟩ => ?_) (fun Γ' μ' ⟨e1, e2⟩ => ?_) sc.nd
  · subst e1
    subst e2
    have hr3 := hrl r (List.mem_of_getElem? hx)
    have hnl : nextL m n (rs.take (i + 1)) = nextL m n (rs.take i) ++ stepR m n r := by
      unfold nextL
      rw [List.take_add_one, hx, List.flatMap_append]
      simp
    have hle : (nextL m n (rs.take (i + 1))).length ≤ (nextL m n rs).length := by
      have : nextL m n rs = nextL m n (rs.take (i + 1)) ++ nextL m n (rs.drop (i + 1)) := by
        unfold nextL
        rw [← List.flatMap_append, List.take_append_drop]
      rw [this, List.length_append]
      omega
    rw [hnl, List.length_append] at hle
    refine run_for 6 (it_str (cs := letL n) (ed_sl (ed_gS [97, 98, 99, 100] gL) so_none (so_some (vr 2)) (s_strT n (by decide)))) (fun j Γ μ => Γ = [.d (rowsT m rs), .d (sD m), .d (nn n), .r a, .d (sD r), .d (.tuple ((viewsL r m).map sD)), .no, .no, .no] ∧ μ = [(a, .lst ((nextL m n (rs.take i) ++ (((letL n).take j).filter (okC m r)).map fun c => r ++ [c]).map (rowT m)))]) ⟨rfl, by simp⟩ (fun W3 lw3 j c Γ' μ' hc ⟨e1, e2⟩ => ?_) (fun Γ' μ' ⟨e1, e2⟩ => ?_) sc.nd
    · subst e1
      subst e2
      have hpl : ((((letL n).take j).filter (okC m r)).map fun c => r ++ [c]).length + (if okC m r c = true then 1 else 0) ≤ (stepR m n r).length := by
        unfold stepR
        rw [List.length_map, List.length_map]
        have h3 : (letL n).take (j + 1) = (letL n).take j ++ [c] := by rw [List.take_add_one, hc]; rfl
        have h4 : letL n = (letL n).take (j + 1) ++ (letL n).drop (j + 1) := (List.take_append_drop ..).symm
        have h5 : ((letL n).filter (okC m r)).length = (((letL n).take j).filter (okC m r)).length + (([c].filter (okC m r)).length + (((letL n).drop (j + 1)).filter (okC m r)).length) := by
          conv => lhs; rw [h4, h3]
          rw [List.filter_append, List.filter_append, List.length_append, List.length_append]
          omega
        rw [h5]
        by_cases q : okC m r c = true
        · rw [if_pos q, List.filter_cons_of_pos q]
          simp
        · rw [if_neg q]
          omega
      have ht : ((letL n).take (j + 1)).filter (okC m r) = ((letL n).take j).filter (okC m r) ++ (if okC m r c = true then [c] else []) := take_succ_filter hc
      have hwl : (r ++ [c]).length = r.length + 1 := by simp
      have hvs := viewsL_snoc r m c hm1
      have fin : ∀ b : Bool, okC m r c = b → (nextL m n (rs.take i) ++ (((letL n).take (j + 1)).filter (okC m r)).map fun c => r ++ [c]).map (rowT m) = (nextL m n (rs.take i) ++ (((letL n).take j).filter (okC m r)).map fun c => r ++ [c]).map (rowT m) ++ (if b = true then [rowT m (r ++ [c])] else []) := fun b hb => by
        rw [ht, hb]
        cases b with
        | true => simp
        | false => simp
      refine run_set 7 (ed_op (vr 4) (vr 6) (o_adds (m := [c]) (by simp; omega))) ?_ sc.nd
      refine run_if (k := decide (r.length + 1 < m.length)) (tc (ed_callB G.len boot_len (ea_cons (vr 7) ea_nil) (c_lenS (by omega))) (ed_callB G.len boot_len (ea_cons (vr 1) ea_nil) (c_lenS (by omega))) c_lt |>.to (decide_eq_decide.mpr (by rw [hwl]; omega))) (fun q => ?_) (fun q => ?_)
      · have q' := of_decide_eq_true q
        have hok : okC m r c = true := by unfold okC; rw [q]; rfl
        rw [if_pos q'] at hvs
        rw [if_pos hok] at hpl
        refine run_app (ys := (nextL m n (rs.take i) ++ (((letL n).take j).filter (okC m r)).map fun c => r ++ [c]).map (rowT m)) (d := rowT m (r ++ [c])) 3 0 ((ed_tup (ea_cons (vr 7) (ea_cons (vr 5) ea_nil)) (by simp)).to (by show _ = rowT m (r ++ [c]); unfold rowT; rw [hvs])) (by rw [List.length_map, List.length_append]; omega) (run_skip ?_)
        refine run_go [.d (rowsT m rs), .d (sD m), .d (nn n), .r a, .d (sD r), .d (.tuple ((viewsL r m).map sD)), .no, .no, .no] ⟨.inr rfl, .inr rfl, .inr rfl, .inr rfl, .inr rfl, .inr rfl, .inl rfl, .inl rfl, .inr rfl, trivial⟩ ?_
        refine ⟨rfl, ?_⟩
        rw [fin true hok]
        rfl
      · have q' := of_decide_eq_false q
        rw [if_neg q'] at hvs
        have hvl := viewsL_len r m
        refine run_set 8 (ed_call F1 hr (ea_cons (vr 7) (ea_cons (vr 1) (ea_cons (ed_op (ed_callB G.len boot_len (ea_cons (vr 7) ea_nil) (c_lenS (by omega))) (ed_callB G.len boot_len (ea_cons (vr 1) ea_nil) (c_lenS (by omega))) o_sub) ea_nil))) ⟨r ++ [c], m, r.length + 1 - m.length, ?_, by omega, by omega, by omega, rfl⟩) ?_ sc.nd
        · have e3 : (((r ++ [c]).length : Nat) : Int) - (m.length : Int) = ((r.length + 1 - m.length : Nat) : Int) := by omega
          rw [e3]
        · refine run_if (k := okC m r c) (tc (vr 8) (vr 5) c_ninTS |>.to (by unfold okC; rw [q, Bool.false_or])) (fun hok => ?_) (fun hok => run_skip (run_skip ?_))
          · rw [if_pos hok] at hpl
            refine run_app (ys := (nextL m n (rs.take i) ++ (((letL n).take j).filter (okC m r)).map fun c => r ++ [c]).map (rowT m)) (d := rowT m (r ++ [c])) 3 0 ((ed_tup (ea_cons (vr 7) (ea_cons (ed_op (vr 5) (ed_tup (ea_cons (vr 8) ea_nil) (by simp)) (o_catT (by simp; omega))) ea_nil)) (by simp)).to (by show _ = rowT m (r ++ [c]); unfold rowT; rw [hvs, List.map_append]; rfl)) (by rw [List.length_map, List.length_append]; omega) (run_skip (run_skip ?_))
            refine run_go [.d (rowsT m rs), .d (sD m), .d (nn n), .r a, .d (sD r), .d (.tuple ((viewsL r m).map sD)), .no, .no, .no] ⟨.inr rfl, .inr rfl, .inr rfl, .inr rfl, .inr rfl, .inr rfl, .inl rfl, .inl rfl, .inl rfl, trivial⟩ ?_
            refine ⟨rfl, ?_⟩
            rw [fin true hok]
            rfl
          · refine run_go [.d (rowsT m rs), .d (sD m), .d (nn n), .r a, .d (sD r), .d (.tuple ((viewsL r m).map sD)), .no, .no, .no] ⟨.inr rfl, .inr rfl, .inr rfl, .inr rfl, .inr rfl, .inr rfl, .inl rfl, .inl rfl, .inl rfl, trivial⟩ ?_
            refine ⟨rfl, ?_⟩
            rw [fin false hok]
            simp
    · subst e1
      subst e2
      refine run_go [.d (rowsT m rs), .d (sD m), .d (nn n), .r a, .no, .no, .no, .no, .no] ⟨.inr rfl, .inr rfl, .inr rfl, .inr rfl, .inl rfl, .inl rfl, .inr rfl, .inr rfl, .inr rfl, trivial⟩ ?_
      refine ⟨rfl, ?_⟩
      rw [List.take_length, hnl]
      rfl
  · subst e1
    subst e2
    refine run_retL 3 (hl := by simp) ?_
    rw [List.take_length]
theorem fd_levels_of (F : FnP K "levels_of" s_levels_of f fd) (F1 : Fd P w K mg base k "longer" ["rows", "mask", "letters"] (spR K R_longer)) : FnOk P w K mg base CX0 (k + 1) f fd ["mask", "letters"] (spR K R_levels_of) := by
  have sc : FnScope ["mask", "letters", "found", "rows", "row", "told"] ["mask", "letters"] (defScope s_levels_of) := ⟨rfl, rfl, rfl, by decide +kernel, rfl, by decide +kernel, by decide +kernel⟩
  refine fd_pure F sc _ (fun ds d ⟨m, n, e, _⟩ => by rw [e]; rfl) fun cdv A outer s H E hr W ds d hrow hR => ?_
  obtain ⟨m, n, rfl, hs, rfl⟩ := hR
  have hu := hr.units
  have hml := maskB_len hs.mask
  have hm1 := hs.pos
  obtain ⟨g1, g2⟩ := hs.topK
  have hK : topK m n ≤ 16 + m.length := by
    rcases Nat.lt_or_ge (16 + m.length) (topK m n) with h | h
    · exact absurd hs.ends (g2 _ h)
    · exact h
  refine run_parL0 2 3 (fun a => ed_lst (ea_cons (ed_tup (ea_cons (ed_S []) (ea_cons (ed_tup ea_nil (by simp)) ea_nil)) (by simp)) ea_nil) (by simp)) (fun a => ?_) sc.nd
  have e0 : (PyData.list [PyData.tuple [PyData.str (S []), PyData.tuple []]]) = rowsT m (lev m n 0) := by
    have : viewsL [] m = [] := by
      unfold viewsL
      have : ([] : List Nat).length + 1 - m.length = 0 := by simp; omega
      rw [this]
      rfl
    simp [lev, rowT, this]
  rw [e0]
  refine run_while (fun q Γ μ => q ≤ topK m n ∧ Γ = [.d (sD m), .d (nn n), .r a, .d (rowsT m (lev m n (topK m n - q))), .no, .no] ∧ μ = [(a, .lst ((List.range (topK m n - q)).map fun j => wD (lev m n j)))]) (fun q => !(lev m n (topK m n - q)).isEmpty) (topK m n) ⟨Nat.le_refl _, by rw [Nat.sub_self]; rfl, by rw [Nat.sub_self]; rfl⟩ (fun W1 lw q Γ' μ' ⟨hq, e1, e2⟩ => ?_) (fun W1 lw q Γ' μ' hb ⟨hq, e1, e2⟩ => ?_) (fun q Γ' μ' hb ⟨hq, e1, e2⟩ => ?_)
  · subst e1
    subst e2
    exact tc (vr 3) (ed_lst ea_nil (by simp)) (c_neNil hu (shp_lev hm1 hs.hi _)) |>.to (by rw [List.isEmpty_map])
  · subst e1
    subst e2
    have hq0 : 0 < q := by
      rcases Nat.eq_zero_or_pos q with e | e
      · subst e
        rw [Nat.sub_zero, g1] at hb
        cases hb
      · exact e
    have hlen := hs.len (topK m n - q)
    have hlen2 : (nextL m n (lev m n (topK m n - q))).length ≤ 8388608 := hs.len (topK m n - q + 1)
    refine run_app (ys := (List.range (topK m n - q)).map fun j => wD (lev m n j)) (d := wD (lev m n (topK m n - q))) 2 0 (lcP0 4 5 (it_list (xs := lev m n (topK m n - q)) (enc := rowT m) (vr 3)) (by omega) sD (fun r hr W2 lw2 s2 H2 C2 cl2 fp2 => vr 4) sc.nd |>.ed sc.nd) (by simp; omega) ?_
    refine run_set 3 (ed_call F1 hr (ea_cons (vr 3) (ea_cons (vr 0) (ea_cons (vr 1) ea_nil))) ⟨lev m n (topK m n - q), m, n, rfl, hs.lo, hs.hi, hs.mask, fun r hr => ?_, by omega, by omega, rfl⟩) ?_ sc.nd
    · have := ((mem_lev hm1 hs.hi).mp hr).1
      omega
    · refine run_go [.d (sD m), .d (nn n), .r a, .d (rowsT m (lev m n (topK m n - (q - 1)))), .no, .no] ⟨.inr rfl, .inr rfl, .inr rfl, .inr ?_, .inr rfl, .inr rfl, trivial⟩ ?_
      · have e : topK m n - (q - 1) = (topK m n - q) + 1 := by omega
        rw [e]
        rfl
      · refine ⟨q - 1, by omega, by omega, rfl, ?_⟩
        have e : topK m n - (q - 1) = (topK m n - q) + 1 := by omega
        rw [e, List.range_succ, List.map_append]
        rfl
  · subst e1
    subst e2
    have e : topK m n - q = topK m n := by
      rcases Nat.lt_or_ge (topK m n - q) (topK m n) with h | h
      · have := g2 _ h
        simp only [Bool.not_eq_false', List.isEmpty_iff] at hb
        exact absurd hb this
      · omega
    rw [e]
    exact run_retL 2 (hl := by simp) rfl
theorem fd_longest_rows (F : FnP K "longest_rows" s_longest_rows f fd) (F1 : Fd P w K mg base k "need_small" ["mask", "letters"] (spR K R_need_small)) (F2 : Fd P w K mg base k "levels_of" ["mask", "letters"] (spR K R_levels_of)) : FnOk P w K mg base CX0 (k + 1) f fd ["mask", "letters"] (spR K R_longest_rows) := by
  have sc : FnScope ["mask", "letters"] ["mask", "letters"] (defScope s_longest_rows) := ⟨rfl, rfl, rfl, by decide +kernel, rfl, by decide +kernel, by decide +kernel⟩
  refine fd_pure F sc _ (fun ds d ⟨m, n, e, _⟩ => by rw [e]; rfl) fun cdv A outer s H E hr W ds d hrow hR => ?_
  obtain ⟨m, n, rfl, hs, rfl⟩ := hR
  have hp := hs.topK_pos
  refine run_expr (ed_call F1 hr (ea_cons (vr 0) (ea_cons (vr 1) ea_nil)) ⟨m, n, rfl, hs, rfl⟩) (run_ret (ed_ix (ed_call F2 hr (ea_cons (vr 0) (ea_cons (vr 1) ea_nil)) ⟨m, n, rfl, hs, rfl⟩) (ed_neg ed_int) (i_listL (d := wD (lev m n (topK m n - 1))) ?_)) rfl)
  rw [List.getLast?_eq_getElem?, List.length_map, List.length_range, List.getElem?_map, List.getElem?_range (by omega)]
  rfl
theorem fd_longest (F : FnP K "longest" s_longest f fd) (G : Gs mg) (F1 : Fd P w K mg base k "need_small" ["mask", "letters"] (spR K R_need_small)) (F2 : Fd P w K mg base k "levels_of" ["mask", "letters"] (spR K R_levels_of)) : FnOk P w K mg base CX0 (k + 1) f fd ["mask", "letters"] (spR K R_longest) := by
  have sc : FnScope ["mask", "letters"] ["mask", "letters"] (defScope s_longest) := ⟨rfl, rfl, rfl, by decide +kernel, rfl, by decide +kernel, by decide +kernel⟩
  refine fd_pure F sc _ (fun ds d ⟨m, n, e, _⟩ => by rw [e]; rfl) fun cdv A outer s H E hr W ds d hrow hR => ?_
  obtain ⟨m, n, rfl, hs, rfl⟩ := hR
  refine run_expr (ed_call F1 hr (ea_cons (vr 0) (ea_cons (vr 1) ea_nil)) ⟨m, n, rfl, hs, rfl⟩) (run_ret (ed_op (ed_callB G.len boot_len (ea_cons (ed_call F2 hr (ea_cons (vr 0) (ea_cons (vr 1) ea_nil)) ⟨m, n, rfl, hs, rfl⟩) ea_nil) c_lenL) ed_int o_sub) ?_)
  rw [List.length_map, List.length_range]
theorem fd_count_rows (F : FnP K "count_rows" s_count_rows f fd) (G : Gs mg) (gR : gMOST_ROW mg) (F1 : Fd P w K mg base k "need_small" ["mask", "letters"] (spR K R_need_small)) (F2 : Fd P w K mg base k "is_from" ["value", "low", "high"] (spR K R_is_from)) (F3 : Fd P w K mg base k "levels_of" ["mask", "letters"] (spR K R_levels_of)) : FnOk P w K mg base CX0 (k + 1) f fd ["mask", "letters", "length"] (spR K R_count_rows) := by
  have sc : FnScope ["mask", "letters", "length", "told"] ["mask", "letters", "length"] (defScope s_count_rows) := ⟨rfl, rfl, rfl, by decide +kernel, rfl, by decide +kernel, by decide +kernel⟩
  refine fd_pure F sc _ (fun ds d ⟨m, n, q, e, _⟩ => by rw [e]; rfl) fun cdv A outer s H E hr W ds d hrow hR => ?_
  obtain ⟨m, n, q, rfl, hs, hq, rfl⟩ := hR
  refine run_expr (ed_call F1 hr (ea_cons (vr 0) (ea_cons (vr 1) ea_nil)) ⟨m, n, rfl, hs, rfl⟩) ?_
  refine run_if (k := false) (t_not (k := true) (et_val ((ed_call F2 hr (ea_cons (vr 2) (ea_cons ed_int (ea_cons (ed_gint gR) ea_nil))) ⟨(q : Int), 0, 60, rfl, rfl⟩).to (congrArg PyData.bool (by rw [decide_eq_true (by omega), decide_eq_true (by omega)]; rfl))))) (fun q => nomatch q) (fun _ => run_skip ?_)
  refine run_set (d := .list ((List.range (topK m n)).map fun j => wD (lev m n j))) 3 (ed_call F3 hr (ea_cons (vr 0) (ea_cons (vr 1) ea_nil)) ⟨m, n, rfl, hs, rfl⟩) ?_ sc.nd
  refine run_ret (ed_if (k := decide (q < topK m n)) (x := nn (lev m n q).length) (y := nn 0) (tc (vr 2) (lenL G (vr 3)) c_lt |>.to (decide_eq_decide.mpr (by rw [List.length_map, List.length_range]; omega))) (fun h => lenLw G (ed_ix (vr 3) (vr 2) (i_list (n := q) (by rw [List.getElem?_map, List.getElem?_range (of_decide_eq_true h)]; rfl)))) (fun _ => ed_int)) ?_
  unfold cntR
  by_cases h : q < topK m n
  · rw [if_pos h, if_pos (decide_eq_true h)]
  · rw [if_neg h, if_neg (by simpa using h)]
theorem fd_law_open2 (F : FnP K "_law_open" s__law_open f fd) (G : Gs mg) : FnOk P w K mg base CX0 (k + 1) f fd ["_law_mask"] (spR K R_open) := by
  have sc : FnScope ["_law_mask", "_law_at"] ["_law_mask"] (defScope s__law_open) := ⟨rfl, rfl, rfl, by decide +kernel, rfl, by decide +kernel, by decide +kernel⟩
  refine fd_pure F sc _ (fun ds d ⟨m, e, _⟩ => by rw [e]; rfl) fun cdv A outer s H E hr W ds d hrow hR => ?_
  obtain ⟨m, rfl, h1, rfl⟩ := hR
  refine run_ret (lcN1 1 (it_range (n := m.length) (ed_callB G.len boot_len (ea_cons (vr 0) ea_nil) (c_lenS (by omega))) G.range) (by simp; omega) (fun i => decide (m.getD i 0 = 120)) nn (fun i hi W1 lw s H C cl fp => tc (ed_ix (vr 0) (vr 1) (i_str (c := m.getD i 0) (n := i) (by omega) (by
      have : i < m.length := by simpa using hi
      rw [List.getD_eq_getElem?_getD, List.getElem?_eq_getElem this]
      rfl))) (ed_S [120]) (c_eqS (l := [m.getD i 0]) (m := [120])) |>.to (by simp)) (fun i hi hc W1 lw s H C cl fp => vr 1) sc.nd |>.ed sc.nd) rfl
theorem fd_law_views2 (F : FnP K "_law_views" s__law_views f fd) (G : Gs mg) (F1 : Fd P w K mg base k "_law_open" ["_law_mask"] (spR K R_open)) : FnOk P w K mg base CX0 (k + 1) f fd ["_law_line", "_law_mask"] (spR K R_lviews) := by
  have sc : FnScope ["_law_line", "_law_mask", "_law_found", "_law_place", "_law_at"] ["_law_line", "_law_mask"] (defScope s__law_views) := ⟨rfl, rfl, rfl, by decide +kernel, rfl, by decide +kernel, by decide +kernel⟩
  refine fd_pure F sc _ (fun ds d ⟨m, n, e, _⟩ => by rw [e]; rfl) fun cdv A outer s H E hr W ds d hrow hR => ?_
  obtain ⟨l, m, rfl, h1, h2, h3, rfl⟩ := hR
  have ho : (openL m).length ≤ m.length := by
    unfold openL
    refine Nat.le_trans (List.length_filter_le ..) ?_
    simp
  have hll : (lawV l m).length = l.length + 1 - m.length := by simp [lawV]
  refine run_newL 2 (fun a => ?_) sc.nd
  refine run_for 3 (it_range (n := l.length + 1 - m.length) (ed_op (ed_op (ed_callB G.len boot_len (ea_cons (vr 0) ea_nil) (c_lenS (by omega))) (ed_callB G.len boot_len (ea_cons (vr 1) ea_nil) (c_lenS (by omega))) o_sub) ed_int o_add) G.range)
    (fun i Γ μ => Γ = [.d (sD l), .d (sD m), .r a, .no, .no] ∧ μ = [(a, .lst (((lawV l m).take i).map sD))]) ⟨rfl, rfl⟩ (fun W1 lw i x Γ' μ' hx ⟨e1, e2⟩ => ?_) (fun Γ' μ' ⟨e1, e2⟩ => ?_) sc.nd
  · subst e1
    subst e2
    have hi : i < l.length + 1 - m.length := by
      have := (List.getElem?_eq_some_iff.mp hx).1
      simpa using this
    have hxi : x = i := by
      rw [List.getElem?_range hi] at hx
      exact (Option.some.inj hx).symm
    subst hxi
    have hv : (lawV l m)[x]? = some ((openL m).map fun a => l.getD (x + a) 0) := by
      unfold lawV
      rw [List.getElem?_map, List.getElem?_range hi]
      rfl
    refine run_app (ys := ((lawV l m).take x).map sD) 2 0 (ed_joinC ((openL m).map fun a => l.getD (x + a) 0) (ed_S []) (lcN0 4 (it_list (enc := nn) (xs := openL m) (ed_call F1 hr (ea_cons (vr 1) ea_nil) ⟨m, rfl, h3, rfl⟩)) (by omega) (fun a => sg (l.getD (x + a) 0)) (fun a ha W2 lw2 s2 H2 C2 cl2 fp2 => ed_ix (vr 0) (ed_op (vr 3) (vr 4) o_add) (i_str (n := x + a) (by omega) (by
        have h4 : a < m.length := by
          have := (List.mem_filter.mp ha).1
          simpa using this
        have : x + a < l.length := by omega
        rw [List.getD_eq_getElem?_getD, List.getElem?_eq_getElem this]
        rfl) (by push_cast; rfl))) sc.nd |>.ed sc.nd) (by rw [List.map_map]; rfl) (by simp; omega)) (by rw [List.length_map, List.length_take]; omega) ?_
    refine run_go [.d (sD l), .d (sD m), .r a, .no, .no] ⟨.inr rfl, .inr rfl, .inr rfl, .inl rfl, .inr rfl, trivial⟩ ?_
    refine ⟨rfl, ?_⟩
    show [(a, MO.lst (((lawV l m).take x).map sD ++ [sD ((openL m).map fun a => l.getD (x + a) 0)]))] = _
    rw [List.take_add_one, hv, List.map_append]
    rfl
  · subst e1
    subst e2
    refine run_retL 2 (hl := by simp) ?_
    rw [List.length_range, ← hll, List.take_length]
theorem fd_law_tells (F : FnP K "_law_tells" s__law_tells f fd) (G : Gs mg) (F3 : Fd P w K mg base k "_law_views" ["_law_line", "_law_mask"] (spR K R_lviews)) : FnOk P w K mg base CX0 (k + 1) f fd ["_law_line", "_law_mask"] (spR K R_ltells) := by
  have sc : FnScope ["_law_line", "_law_mask", "_law_told"] ["_law_line", "_law_mask"] (defScope s__law_tells) := ⟨rfl, rfl, rfl, by decide +kernel, rfl, by decide +kernel, by decide +kernel⟩
  refine fd_pure F sc _ (fun ds d ⟨l, m, e, _⟩ => by rw [e]; rfl) fun cdv A outer s H E hr W ds d hrow hR => ?_
  obtain ⟨l, m, rfl, h1, h2, h3, rfl⟩ := hR
  have hl := viewsL_len l m
  refine run_set 2 (ed_call F3 hr (ea_cons (vr 0) (ea_cons (vr 1) ea_nil)) ⟨l, m, rfl, by omega, by omega, by omega, rfl⟩) (run_ret (ed_cmp (ed_lenSet (ws := viewsL l m) (vr 2) G.len G.set rfl (by rw [lawV_eq]) (by omega)) (ed_callB G.len boot_len (ea_cons (vr 2) ea_nil) c_lenL) c_eqI) ?_) sc.nd
  refine congrArg PyData.bool (decide_eq_decide.mpr ?_)
  rw [List.length_map, lawV_eq, ← uq_len_iff]
  omega
end
end HW
set_option maxHeartbeats 4000000
namespace HW
open PySem PySem.Spec PyProof.Rows L2 Tx
open SX (S)
section
variable {P : Program} {w : World} {K : PySem.W.Frag} {mg : Str → Option Value} {base : Heap} {f : Addr} {fd : FuncData} {k : Nat}
theorem fd_the_law (F : FnP K "law" s_law f fd) (G : Gs mg) (F0 : DRAW P w K mg base k) (F1 : Fd P w K mg base k "longest_rows" ["mask", "letters"] (spR K R_longest_rows)) (F2 : Fd P w K mg base k "longest" ["mask", "letters"] (spR K R_longest)) (F3 : Fd P w K mg base k "count_rows" ["mask", "letters", "length"] (spR K R_count_rows)) (F4 : Fd P w K mg base k "_law_tells" ["_law_line", "_law_mask"] (spR K R_ltells)) : FnOk P w K mg base CX0 (k + 1) f fd ["_law_script"] (spLaw K) := by
  have sc : FnScope ["_law_script", "_law_row", "_law_letters", "_law_mask", "_law_some", "_law_length", "_law_turn", "_law_line", "_law_sign", "_law_letter", "_law_turned"] ["_law_script"] (defScope s_law) := ⟨rfl, rfl, rfl, by decide +kernel, rfl, by decide +kernel, by decide +kernel⟩
  refine fd_law (rest := (defBody s_law).drop 1) F sc rfl rfl (h := fun cdv A outer s H E hr W r scr ns hrow => ?_)
  have hu := hr.units
  refine run_setP (P := fun z => ∃ n : Nat, z = nn n ∧ (n = 2 ∨ n = 3)) 2 ?hlet (fun d hd => ?_) sc.nd
  case hlet =>
    refine ev_op (A := fun z => z = .int 2) (B := fun z => ∃ q : Nat, z = nn q ∧ q < 2) ed_int.ev (ev_op (ev_takenN 4 F0 hr hrow 1 ed_int rfl) (B := fun z => z = .int 3) ed_int.ev ?_) ?_
    · rintro x y ⟨q, rfl, hq⟩ rfl
      exact ⟨_, ⟨q / 3, rfl, by omega⟩, o_div (by unfold CDiv; omega)⟩
    · rintro x y rfl ⟨q, rfl, hq⟩
      exact ⟨_, ⟨2 + q, rfl, by omega⟩, o_add⟩
  obtain ⟨n0, e, hn0⟩ := hd
  subst e
  refine run_setP (P := fun z => ∃ m ∈ M9, z = sD m) 3 ?hmk (fun d hd => ?_) sc.nd
  case hmk =>
    refine Ev.imp (ev_pick (M9.map sD) ?hl (ev_takenN 9 F0 hr hrow 1 ed_int rfl)) ?hi
    case hl => exact ed_lst (ea_cons (ed_S [120, 46, 46, 46, 120]) (ea_cons (ed_S [120, 120, 46, 120, 120]) (ea_cons (ed_S [120, 120, 46, 46, 120, 46, 120]) (ea_cons (ed_S [120, 46, 120, 46, 120]) (ea_cons (ed_S [120, 120, 120]) (ea_cons (ed_S [120, 46, 46, 120, 46, 46, 120]) (ea_cons (ed_S [120, 46, 120, 46, 46, 120]) (ea_cons (ed_S [120, 120]) (ea_cons (ed_S [120, 46, 120, 120]) ea_nil))))))))) (by show 9 ≤ 1000; decide)
    case hi =>
      intro z hz
      obtain ⟨m, hm, rfl⟩ := List.mem_map.mp hz
      exact ⟨m, hm, rfl⟩
  obtain ⟨m0, hm0, e⟩ := hd
  subst e
  refine run_ifVJ (A := fun _ => True) (fun Γ μ => ∃ m ∈ M9, wk Γ [.no, .r r, .d (nn n0), .d (sD m), .no, .no, .no, .no, .no, .no, .no] ∧ μ = []) (EvW.t (tvw_and (A := fun _ => True) (EdT.ev (tc (vr 3) (ed_S [120, 120, 46, 46, 120, 46, 120]) c_eqS) trivial) (fun _ => tvw_and1 (tc_ev (e := Expr.Tuple [] 0 ⟨0, 0, 0, 0⟩) (B := fun z => z = .int 0) (ev_takenN 3 F0 hr hrow 1 ed_int rfl) ed_int.ev (fun x y ⟨q, ex, _⟩ ey => ⟨decide ((0 : Int) < (q : Int)), trivial, by subst ex; subst ey; exact c_gt⟩))) (fun h => h))) (fun _ => ?h1) (fun _ => ?h2) (fun Γ' μ' hj => ?_)
  case h2 => exact run_go [.no, .r r, .d (nn n0), .d (sD m0), .no, .no, .no, .no, .no, .no, .no] (wk_0 (wk_s (wk_s (wk_s (wk_0 (wk_0 (wk_0 (wk_0 (wk_0 (wk_0 (wk_0 wk_n))))))))))) ⟨m0, hm0, (wk_0 (wk_s (wk_s (wk_s (wk_0 (wk_0 (wk_0 (wk_0 (wk_0 (wk_0 (wk_0 wk_n))))))))))), rfl⟩
  case h1 =>
    refine run_set (d := sD [120, 120, 120]) 3 (ed_S [120, 120, 120]) ?_ sc.nd
    exact run_go [.no, .r r, .d (nn n0), .d (sD [120, 120, 120]), .no, .no, .no, .no, .no, .no, .no] (wk_0 (wk_s (wk_s (wk_s (wk_0 (wk_0 (wk_0 (wk_0 (wk_0 (wk_0 (wk_0 wk_n))))))))))) ⟨[120, 120, 120], by decide, (wk_0 (wk_s (wk_s (wk_s (wk_0 (wk_0 (wk_0 (wk_0 (wk_0 (wk_0 (wk_0 wk_n))))))))))), rfl⟩
  obtain ⟨m1, hm1, wkΓ, eμ⟩ := hj
  subst eμ
  refine run_weak ?_ wkΓ
  clear wkΓ hm0
  refine run_ifJ (k := decide (n0 = 3)) (fun Γ μ => ∃ (m : List Nat) (n L : Nat), (m, n, L) ∈ T14 ∧ wk Γ [.no, .r r, .d (nn n), .d (sD m), .no, .no, .no, .no, .no, .no, .no] ∧ μ = []) (EdT.to (tc (vr 2) ed_int c_eqI) (decide_eq_decide.mpr (by omega))) (fun h => ?h1) (fun h => ?h2) (fun Γ' μ' hj => ?_)
  case h2 =>
    have h := of_decide_eq_false h
    have hn : n0 = 2 := by omega
    subst hn
    obtain ⟨L, hL⟩ := m9_t m1 hm1
    exact run_go [.no, .r r, .d (nn 2), .d (sD m1), .no, .no, .no, .no, .no, .no, .no] (wk_0 (wk_s (wk_s (wk_s (wk_0 (wk_0 (wk_0 (wk_0 (wk_0 (wk_0 (wk_0 wk_n))))))))))) ⟨m1, 2, L, hL, (wk_0 (wk_s (wk_s (wk_s (wk_0 (wk_0 (wk_0 (wk_0 (wk_0 (wk_0 (wk_0 wk_n))))))))))), rfl⟩
  case h1 =>
    have hn := of_decide_eq_true h
    subst hn
    refine run_setP (P := fun z => ∃ m ∈ M8, z = sD m) 3 ?hmk (fun d hd => ?_) sc.nd
    case hmk =>
      refine Ev.imp (ev_pick (M8.map sD) ?hl (ev_takenN 8 F0 hr hrow 1 ed_int rfl)) ?hi
      case hl => exact ed_lst (ea_cons (ed_S [120, 46, 46, 46, 120]) (ea_cons (ed_S [120, 46, 46, 120]) (ea_cons (ed_S [120, 120]) (ea_cons (ed_S [120, 46, 120]) (ea_cons (ed_S [120]) (ea_cons (ed_S [120]) (ea_cons (ed_S [120, 120]) (ea_cons (ed_S [120]) ea_nil)))))))) (by show 8 ≤ 1000; decide)
      case hi =>
        intro z hz
        obtain ⟨m, hm, rfl⟩ := List.mem_map.mp hz
        exact ⟨m, hm, rfl⟩
    obtain ⟨m2, hm2, e⟩ := hd
    subst e
    obtain ⟨L, hL⟩ := m8_t m2 hm2
    exact run_go [.no, .r r, .d (nn 3), .d (sD m2), .no, .no, .no, .no, .no, .no, .no] (wk_0 (wk_s (wk_s (wk_s (wk_0 (wk_0 (wk_0 (wk_0 (wk_0 (wk_0 (wk_0 wk_n))))))))))) ⟨m2, 3, L, hL, (wk_0 (wk_s (wk_s (wk_s (wk_0 (wk_0 (wk_0 (wk_0 (wk_0 (wk_0 (wk_0 wk_n))))))))))), rfl⟩
  obtain ⟨m, n, L, hT, wkΓ, eμ⟩ := hj
  subst eμ
  refine run_weak ?_ wkΓ
  clear wkΓ hm1 hn0
  obtain ⟨hs, hn3, hL, hne, hfew, hend, htop⟩ := t14_ok hT
  have hmp := hs.pos
  have hml := maskB_len hs.mask
  obtain ⟨rs, ers⟩ : ∃ rs, rs = lev m n L := ⟨_, rfl⟩
  have hrs : ∀ l ∈ rs, l.length = L ∧ lowL n l ∧ tellsB l m = true := fun l hl => (mem_lev hmp hs.hi).mp (by rw [← ers]; exact hl)
  rw [← ers] at hne hfew
  have hasc : rs.Pairwise (· < ·) := by rw [ers]; exact lev_asc hmp hs.hi L
  have shr : Shp 1 (wD rs) := shp_w fun l hl => low_128 hs.hi (hrs l hl).2.1
  have hr1 : 1 ≤ rs.length := List.length_pos_iff.mpr hne
  refine run_set (d := wD rs) 4 (Ed.to (ed_call F1 hr (ea_cons (vr 3) (ea_cons (vr 2) ea_nil)) ⟨m, n, rfl, hs, rfl⟩) (by rw [htop, Nat.add_sub_cancel, ers])) ?_ sc.nd
  refine run_if (k := false) (EdT.to (t_or (k := (rs.map sD).isEmpty) (l := false) (tc (vr 4) (ed_lst ea_nil (by decide)) (c_eqNil hu shr)) (fun _ => tc (vr 4) (Ed.to (ed_sortSet (vr 4) G.sorted G.set hu (Nat.le_trans (len_uq rs) hfew)) (by rw [sU_id hasc])) (c_neSame hu shr))) ?hemp) (fun q => nomatch q) (fun _ => run_skip ?_)
  case hemp =>
    rw [Bool.or_false, List.isEmpty_eq_false_iff]
    intro e
    exact hne (List.map_eq_nil_iff.mp e)
  have g0 : rs[0]? = some (rs.getD 0 []) := by rw [List.getD_eq_getElem?_getD, List.getElem?_eq_getElem (by omega)]; rfl
  have h0 := (hrs _ (List.mem_of_getElem? g0)).1
  refine run_set (d := nn L) 5 (Ed.to (lenS G (ed_ix (z := sD (rs.getD 0 [])) (vr 4) ed_int (i_list (n := 0) (by rw [List.getElem?_map, g0]; rfl) rfl))) (by rw [h0])) ?_ sc.nd
  refine run_ifVJ (A := fun _ => True) (fun Γ μ => wk Γ [.no, .r r, .d (nn n), .d (sD m), .d (wD rs), .d (nn L), .no, .no, .no, .no, .no] ∧ μ = []) (tc_ev (e := Expr.Tuple [] 0 ⟨0, 0, 0, 0⟩) (B := fun z => z = .int 0) (ev_takenN 4 F0 hr hrow 1 ed_int rfl) ed_int.ev (fun x y ⟨q, ex, _⟩ ey => ⟨decide ((q : Int) = 0), trivial, by subst ex; subst ey; exact c_eqI⟩)) (fun _ => ?h1) (fun _ => ?h2) (fun Γ' μ' hj => ?_)
  case h2 => exact run_go [.no, .r r, .d (nn n), .d (sD m), .d (wD rs), .d (nn L), .no, .no, .no, .no, .no] (wk_0 (wk_s (wk_s (wk_s (wk_s (wk_s (wk_0 (wk_0 (wk_0 (wk_0 (wk_0 wk_n))))))))))) ⟨(wk_0 (wk_s (wk_s (wk_s (wk_s (wk_s (wk_0 (wk_0 (wk_0 (wk_0 (wk_0 wk_n))))))))))), rfl⟩
  case h1 =>
    refine run_if (k := false) (EdT.to (t_or (k := false) (l := false) (tc (x := nn L) (Ed.to (ed_call F2 hr (ea_cons (vr 3) (ea_cons (vr 2) ea_nil)) ⟨m, n, rfl, hs, rfl⟩) ?hlong) (vr 5) (c_neSame hu Shp.int)) (fun _ => tc (x := nn rs.length) (Ed.to (ed_call F3 hr (ea_cons (vr 3) (ea_cons (vr 2) (ea_cons (vr 5) ea_nil))) ⟨m, n, L, rfl, hs, by omega, rfl⟩) ?hcnt) (lenLw G (vr 4)) (c_neSame hu Shp.int))) rfl) (fun q => nomatch q) (fun _ => run_skip ?_)
    case hlong =>
      rw [htop]
      refine congrArg PyData.int ?_
      omega
    case hcnt =>
      rw [cntR, if_pos (by omega), ers]
    exact run_go [.no, .r r, .d (nn n), .d (sD m), .d (wD rs), .d (nn L), .no, .no, .no, .no, .no] (wk_0 (wk_s (wk_s (wk_s (wk_s (wk_s (wk_0 (wk_0 (wk_0 (wk_0 (wk_0 wk_n))))))))))) ⟨(wk_0 (wk_s (wk_s (wk_s (wk_s (wk_s (wk_0 (wk_0 (wk_0 (wk_0 (wk_0 wk_n))))))))))), rfl⟩
  obtain ⟨wkΓ, eμ⟩ := hj
  subst eμ
  refine run_weak ?_ wkΓ
  clear wkΓ
  have abc : (([97, 98, 99] : List Nat).take n) = letL n := by
    have : n = 0 ∨ n = 1 ∨ n = 2 ∨ n = 3 := by omega
    rcases this with rfl | rfl | rfl | rfl <;> rfl
  have slc : ∀ {X : Cx}, SlD X (sD [97, 98, 99]) none (some (n : Int)) (sD (letL n)) := fun {X} => by
    have := s_strT (X := X) (l := [97, 98, 99]) n (z := (n : Int)) (by simp) rfl
    rwa [abc] at this
  refine run_forS 6 (it_range (n := 6) ed_int G.range) (fun _ => [.no, .r r, .d (nn n), .d (sD m), .d (wD rs), .d (nn L), .no, .no, .no, .no, .no]) (fun _ => []) (fun W1 lw i x hx => ?_) (run_ret ed_bl rfl) sc.nd
  clear hx
  have hrow1 := lw.row.trans hrow
  refine run_setP (P := fun z => ∃ l ∈ rs, z = sD l) 7 ?hline (fun d hd => ?_) sc.nd
  case hline =>
    refine ev_ix (A := fun z => z = wD rs) (vr 4 : Ed _ _ _ _ _ (wD rs)).ev (ev_takenN rs.length F0 hr hrow1 1 (lenLw G (vr 4)) rfl (by omega) (by omega)) ?_
    rintro a b rfl ⟨q, rfl, hq⟩
    exact ⟨sD rs[q], ⟨_, List.getElem_mem hq, rfl⟩, i_list (n := q) (by rw [List.getElem?_map, List.getElem?_eq_getElem hq]; rfl)⟩
  obtain ⟨l, hlm, e⟩ := hd
  subst e
  obtain ⟨hl1, hl2, hl3⟩ := hrs l hlm
  refine run_if (k := false) (EdW.t (tw_or (k := false) (l := false) (EdT.to (tc (lenS G (vr 7)) (vr 5) c_neI) ?ha) (fun _ => tw_or (k := false) (l := false) (t_not (k := true) (et_val (Ed.to (ed_call F4 hr (ea_cons (vr 7) (ea_cons (vr 3) ea_nil)) ⟨l, m, rfl, by omega, hmp, by omega, rfl⟩) (congrArg PyData.bool hl3)))) (fun _ => tw_or1 (t_not (k := true) (et_val ?hb)))))) (fun q => nomatch q) (fun _ => run_skip ?_)
  case ha => rw [hl1]; simp
  case hb =>
    refine Ed.to (ed_callB G.all boot_all (ea_cons (LcEv.ed (lcN0 8 (it_str (cs := l) (vr 7)) (by omega) (fun c => .bool (decide (c ∈ letL n))) (fun c hc W2 lw2 s H C cl fp => ?_) sc.nd) sc.nd) ea_nil) (?_ : CallD _ _ _ (.bool ((l.map fun c => decide (c ∈ letL n)).all id)))) ?_
    · exact ed_cmp (vr 8) (ed_sl (ed_S [97, 98, 99]) so_none (so_some (vr 2)) slc) c_inS
    · have z := c_all (X := (cxOf CX0 P w K mg base ["_law_script", "_law_row", "_law_letters", "_law_mask", "_law_some", "_law_length", "_law_turn", "_law_line", "_law_sign", "_law_letter", "_law_turned"] "law" (defScope s_law) f cdv A outer s H E).nox) (bs := l.map fun c => decide (c ∈ letL n)) rfl
      rw [List.map_map] at z
      exact z
    · rw [List.all_map]
      refine congrArg PyData.bool (List.all_eq_true.mpr fun c hc => decide_eq_true ?_)
      exact (mem_letL hs.hi).mpr (hl2 c hc)
  refine run_if (k := false) (et_val ?hany) (fun q => nomatch q) (fun _ => run_skip ?_)
  case hany =>
    refine Ed.to (ed_callB G.any boot_any (ea_cons (LcEv.ed (lcN0 9 (it_str (cs := letL n) (ed_sl (ed_S [97, 98, 99]) so_none (so_some (vr 2)) slc)) (by rw [letL_len hs.hi]; omega) (fun c => .bool false) (fun c hc W2 lw2 s H C cl fp => ?_) sc.nd) sc.nd) ea_nil) (?_ : CallD _ _ _ (.bool (((letL n).map fun _ => false).any id)))) ?_
    · have hc := (mem_letL hs.hi).mp hc
      have e1 : tellsB (l ++ [c]) m = false := lev_end hmp hs.hi hend (by simp; omega) (fun x hx => by
        rcases List.mem_append.mp hx with h | h
        · exact hl2 x h
        · rw [List.mem_singleton.mp h]; exact hc)
      have e2 : tellsB (c :: l) m = false := lev_end hmp hs.hi hend (by simp; omega) (fun x hx => by
        rcases List.mem_cons.mp hx with h | h
        · rw [h]; exact hc
        · exact hl2 x h)
      refine Ed.to (ed_or (k := false) (l := false) (Ed.to (ed_call F4 hr (ea_cons (x := sD (l ++ [c])) (ed_op (y := sD [c]) (vr 7) (vr 9) (o_adds (by simp; omega))) (ea_cons (vr 3) ea_nil)) ⟨l ++ [c], m, rfl, by simp; omega, hmp, by omega, rfl⟩) (congrArg PyData.bool e1)) (fun _ => ed_one (Ed.to (ed_call F4 hr (ea_cons (x := sD ([c] ++ l)) (ed_op (x := sD [c]) (vr 9) (vr 7) (o_adds (by simp; omega))) (ea_cons (vr 3) ea_nil)) ⟨[c] ++ l, m, rfl, by simp; omega, hmp, by omega, rfl⟩) (congrArg PyData.bool e2)))) rfl
    · have z := c_any (X := (cxOf CX0 P w K mg base ["_law_script", "_law_row", "_law_letters", "_law_mask", "_law_some", "_law_length", "_law_turn", "_law_line", "_law_sign", "_law_letter", "_law_turned"] "law" (defScope s_law) f cdv A outer s H E).nox) (bs := (letL n).map fun _ => false) rfl
      rw [List.map_map] at z
      exact z
    · refine congrArg PyData.bool ?_
      rw [List.any_map, List.any_eq_false]
      intro c _ h
      exact nomatch h
  refine run_set (d := sD l.reverse) 10 (ed_revS (vr 7) (by omega)) ?_ sc.nd
  refine run_if (k := false) (EdT.to (t_and (k := decide (m = m.reverse)) (l := false) (tc (vr 3) (ed_revS (vr 3) (by omega)) c_eqS) (fun q => EdT.to (tc (vr 10) (vr 4) c_ninLS) ?hin)) (by simp)) (fun q => nomatch q) (fun _ => run_skip ?_)
  case hin =>
    have := lev_rev hmp hs.hi (by rw [← ers]; exact hlm) (of_decide_eq_true q)
    rw [← ers] at this
    rw [decide_eq_true this]
    rfl
  have hsw : l.map (swapC n) ∈ rs := by rw [ers]; exact lev_swap hmp hs.hi (by rw [← ers]; exact hlm)
  refine run_if (k := false) (EdT.to (tc (x := sD (l.map (swapC n))) (ed_joinC (l.map (swapC n)) (ed_S []) (LcEv.ed (lcN0 8 (it_str (cs := l) (vr 7)) (by omega) (fun c => sg (swapC n c)) (fun c hc W2 lw2 s H C cl fp => ?hel) sc.nd) sc.nd) ?hmm (by rw [List.length_map]; omega)) (vr 4) c_ninLS) (by rw [decide_eq_true hsw]; rfl)) (fun q => nomatch q) (fun _ => run_skip run_e)
  case hmm => rw [List.map_map]; rfl
  case hel =>
    have hc := hl2 c hc
    obtain ⟨rest, hocc⟩ := occ_abc (c := c) (by omega)
    refine ed_ix (ed_S [97, 98, 99]) (ed_op (ed_op (vr 2) ed_int o_sub) (ed_index1 (ed_S [97, 98, 99]) (vr 8) hocc) o_sub) (i_str (n := n - 1 - (c - 97)) (by simp) ?_ ?_)
    · unfold swapC
      have : n - 1 - (c - 97) = 0 ∨ n - 1 - (c - 97) = 1 ∨ n - 1 - (c - 97) = 2 := by omega
      rcases this with h | h | h <;> rw [h] <;> rfl
    · omega
end
end HW
set_option maxHeartbeats 4000000
namespace HW
open PySem PySem.Spec PyProof.Rows L2 Tx
open SX (S)
theorem facts {P : Program} {w : World} {K : PySem.W.Frag} {h : Heap} {mg : Str → Option Value} {f : Addr} (X : K.In h) (G0 : h.Ns mainGlobals mg) (hfa : mg ("law" : Str) = some (.ref f)) (c : He.SaysD Tx.fa Tx.fn K) (cx : Tx.ex K = true) :
    ∃ fd : FuncData, (∀ (s : Shared) (v : Value), BindsTo s fd ⟨[v], []⟩ [("_law_script", v)]) ∧ ∀ base : Heap, K.In base → base.Ns mainGlobals mg → FnOk P w K mg base CX0 6 f fd ["_law_script"] (spLaw K) := by
  obtain ⟨q__law_taken, F__law_taken⟩ := c.def_ 12 (d := d__law_taken) rfl
  have g__law_taken := He.glo_ok X G0 (c.fact 12 (f := .glo "_law_taken") rfl)
  obtain ⟨q_is_mask, F_is_mask⟩ := c.def_ 1 (d := d_is_mask) rfl
  have g_is_mask := He.glo_ok X G0 (c.fact 1 (f := .glo "is_mask") rfl)
  obtain ⟨q_need_mask, F_need_mask⟩ := c.def_ 2 (d := d_need_mask) rfl
  have g_need_mask := He.glo_ok X G0 (c.fact 2 (f := .glo "need_mask") rfl)
  obtain ⟨q_is_from, F_is_from⟩ := c.def_ 0 (d := d_is_from) rfl
  have g_is_from := He.glo_ok X G0 (c.fact 0 (f := .glo "is_from") rfl)
  obtain ⟨q_need_letters, F_need_letters⟩ := c.def_ 3 (d := d_need_letters) rfl
  have g_need_letters := He.glo_ok X G0 (c.fact 3 (f := .glo "need_letters") rfl)
  obtain ⟨q_seen_by, F_seen_by⟩ := c.def_ 4 (d := d_seen_by) rfl
  have g_seen_by := He.glo_ok X G0 (c.fact 4 (f := .glo "seen_by") rfl)
  obtain ⟨q_need_small, F_need_small⟩ := c.def_ 6 (d := d_need_small) rfl
  have g_need_small := He.glo_ok X G0 (c.fact 6 (f := .glo "need_small") rfl)
  obtain ⟨q_view_by, F_view_by⟩ := c.def_ 5 (d := d_view_by) rfl
  have g_view_by := He.glo_ok X G0 (c.fact 5 (f := .glo "view_by") rfl)
  obtain ⟨q_longer, F_longer⟩ := c.def_ 7 (d := d_longer) rfl
  have g_longer := He.glo_ok X G0 (c.fact 7 (f := .glo "longer") rfl)
  obtain ⟨q_levels_of, F_levels_of⟩ := c.def_ 8 (d := d_levels_of) rfl
  have g_levels_of := He.glo_ok X G0 (c.fact 8 (f := .glo "levels_of") rfl)
  obtain ⟨q_longest_rows, F_longest_rows⟩ := c.def_ 10 (d := d_longest_rows) rfl
  have g_longest_rows := He.glo_ok X G0 (c.fact 10 (f := .glo "longest_rows") rfl)
  obtain ⟨q_longest, F_longest⟩ := c.def_ 9 (d := d_longest) rfl
  have g_longest := He.glo_ok X G0 (c.fact 9 (f := .glo "longest") rfl)
  obtain ⟨q_count_rows, F_count_rows⟩ := c.def_ 11 (d := d_count_rows) rfl
  have g_count_rows := He.glo_ok X G0 (c.fact 11 (f := .glo "count_rows") rfl)
  obtain ⟨q__law_open, F__law_open⟩ := c.def_ 13 (d := d__law_open) rfl
  have g__law_open := He.glo_ok X G0 (c.fact 13 (f := .glo "_law_open") rfl)
  obtain ⟨q__law_views, F__law_views⟩ := c.def_ 14 (d := d__law_views) rfl
  have g__law_views := He.glo_ok X G0 (c.fact 14 (f := .glo "_law_views") rfl)
  obtain ⟨q__law_tells, F__law_tells⟩ := c.def_ 15 (d := d__law_tells) rfl
  have g__law_tells := He.glo_ok X G0 (c.fact 15 (f := .glo "_law_tells") rfl)
  obtain ⟨q_law, F_law⟩ := c.def_ 16 (d := d_law) rfl
  have g_law := He.glo_ok X G0 (c.fact 16 (f := .glo "law") rfl)
  have e := hfa.symm.trans g_law
  cases e
  have n_isinstance := He.free_ok X G0 (c.fact 22 (f := .free "isinstance") rfl)
  have n_str := He.free_ok X G0 (c.fact 27 (f := .free "str") rfl)
  have n_int := He.free_ok X G0 (c.fact 21 (f := .free "int") rfl)
  have n_len := He.free_ok X G0 (c.fact 23 (f := .free "len") rfl)
  have n_all := He.free_ok X G0 (c.fact 17 (f := .free "all") rfl)
  have n_range := He.free_ok X G0 (c.fact 24 (f := .free "range") rfl)
  have n_set := He.free_ok X G0 (c.fact 25 (f := .free "set") rfl)
  have n_enumerate := He.free_ok X G0 (c.fact 20 (f := .free "enumerate") rfl)
  have n_zip := He.free_ok X G0 (c.fact 28 (f := .free "zip") rfl)
  have n_min := He.free_ok X G0 (c.fact 29 (f := .free "min") rfl)
  have n_max := He.free_ok X G0 (c.fact 30 (f := .free "max") rfl)
  have n_sorted := He.free_ok X G0 (c.fact 26 (f := .free "sorted") rfl)
  have n_any := He.free_ok X G0 (c.fact 18 (f := .free "any") rfl)
  have n_tuple := He.free_ok X G0 (c.fact 31 (f := .free "tuple") rfl)
  have n_list := He.free_ok X G0 (c.fact 32 (f := .free "list") rfl)
  have n_bool := He.free_ok X G0 (c.fact 19 (f := .free "bool") rfl)
  have n_dict := He.free_ok X G0 (c.fact 33 (f := .free "dict") rfl)
  have n_abs := He.free_ok X G0 (c.fact 34 (f := .free "abs") rfl)
  have n_sum := He.free_ok X G0 (c.fact 35 (f := .free "sum") rfl)
  have k_SEEN := He.str_ok X G0 (c.fact 36 (f := .str "SEEN" "x") rfl)
  have k_HOLE := He.str_ok X G0 (c.fact 37 (f := .str "HOLE" ".") rfl)
  have k_LETTERS := He.str_ok X G0 (c.fact 38 (f := .str "LETTERS" "abcd") rfl)
  have k_MOST_MASK := He.int_ok X G0 (c.fact 39 (f := .int "MOST_MASK" 12) rfl)
  have k_MOST_ROW := He.int_ok X G0 (c.fact 40 (f := .int "MOST_ROW" 60) rfl)
  unfold Tx.ex at cx
  simp only [Bool.and_eq_true] at cx
  obtain ⟨⟨c_MOST_WIDTHS, c_MOST_SEEN⟩, _⟩ := cx
  have k_MOST_WIDTHS := HX.tupI_ok X G0 c_MOST_WIDTHS
  have k_MOST_SEEN := HX.tupI_ok X G0 c_MOST_SEEN
  have G : Gs mg := ⟨n_isinstance, n_str, n_int, n_len, n_all, n_range, n_set, n_enumerate, n_zip, n_min, n_max, n_sorted, n_any, n_tuple, n_list, n_bool, n_dict, n_abs, n_sum⟩
  have b := FunD.bindsA (ps := ["_law_script"]) F_law fun _ _ _ _ _ _ us hl => match us, hl with | [_], _ => rfl
  refine ⟨q_law, fun s v => b s [v] rfl, fun base _ _ => ?_⟩
  have A__law_taken : Fd P w K mg base 1 "_law_taken" ["_law_row", "_law_many"] (spW K R_taken_pre R_taken_post) := ⟨_, _, fd_taken (k := 0) F__law_taken n_int n_len, g__law_taken, FunD.kp F__law_taken, FunD.bindsN F__law_taken fun _ _ _ _ _ _ us hl => match us, hl with | [_, _], _ => rfl⟩
  have A_is_mask : Fd P w K mg base 1 "is_mask" ["value"] (spR K R_is_mask) := ⟨_, _, fd_is_mask (k := 0) F_is_mask G k_SEEN k_HOLE k_MOST_MASK, g_is_mask, FunD.kp F_is_mask, FunD.bindsN F_is_mask fun _ _ _ _ _ _ us hl => match us, hl with | [_], _ => rfl⟩
  have A_need_mask : Fd P w K mg base 2 "need_mask" ["mask"] (spR K R_need_mask) := ⟨_, _, fd_need_mask (k := 1) F_need_mask (A_is_mask.mono (by decide)), g_need_mask, FunD.kp F_need_mask, FunD.bindsN F_need_mask fun _ _ _ _ _ _ us hl => match us, hl with | [_], _ => rfl⟩
  have A_is_from : Fd P w K mg base 1 "is_from" ["value", "low", "high"] (spR K R_is_from) := ⟨_, _, fd_is_from (k := 0) F_is_from G, g_is_from, FunD.kp F_is_from, FunD.bindsN F_is_from fun _ _ _ _ _ _ us hl => match us, hl with | [_, _, _], _ => rfl⟩
  have A_need_letters : Fd P w K mg base 2 "need_letters" ["letters"] (spR K R_need_letters) := ⟨_, _, fd_need_letters (k := 1) F_need_letters G k_LETTERS (A_is_from.mono (by decide)), g_need_letters, FunD.kp F_need_letters, FunD.bindsN F_need_letters fun _ _ _ _ _ _ us hl => match us, hl with | [_], _ => rfl⟩
  have A_seen_by : Fd P w K mg base 1 "seen_by" ["mask"] (spR K R_seen_by) := ⟨_, _, fd_seen_by (k := 0) F_seen_by G k_SEEN, g_seen_by, FunD.kp F_seen_by, FunD.bindsN F_seen_by fun _ _ _ _ _ _ us hl => match us, hl with | [_], _ => rfl⟩
  have A_need_small : Fd P w K mg base 3 "need_small" ["mask", "letters"] (spR K R_need_small) := ⟨_, _, fd_need_small (k := 2) F_need_small G k_MOST_WIDTHS k_MOST_SEEN (A_need_mask.mono (by decide)) (A_need_letters.mono (by decide)) (A_seen_by.mono (by decide)), g_need_small, FunD.kp F_need_small, FunD.bindsN F_need_small fun _ _ _ _ _ _ us hl => match us, hl with | [_, _], _ => rfl⟩
  have A_view_by : Fd P w K mg base 2 "view_by" ["row", "mask", "place"] (spR K R_view_by) := ⟨_, _, fd_view_by (k := 1) F_view_by G (A_seen_by.mono (by decide)), g_view_by, FunD.kp F_view_by, FunD.bindsN F_view_by fun _ _ _ _ _ _ us hl => match us, hl with | [_, _, _], _ => rfl⟩
  have A_longer : Fd P w K mg base 3 "longer" ["rows", "mask", "letters"] (spR K R_longer) := ⟨_, _, fd_longer (k := 2) F_longer G k_LETTERS (A_view_by.mono (by decide)), g_longer, FunD.kp F_longer, FunD.bindsN F_longer fun _ _ _ _ _ _ us hl => match us, hl with | [_, _, _], _ => rfl⟩
  have A_levels_of : Fd P w K mg base 4 "levels_of" ["mask", "letters"] (spR K R_levels_of) := ⟨_, _, fd_levels_of (k := 3) F_levels_of (A_longer.mono (by decide)), g_levels_of, FunD.kp F_levels_of, FunD.bindsN F_levels_of fun _ _ _ _ _ _ us hl => match us, hl with | [_, _], _ => rfl⟩
  have A_longest_rows : Fd P w K mg base 5 "longest_rows" ["mask", "letters"] (spR K R_longest_rows) := ⟨_, _, fd_longest_rows (k := 4) F_longest_rows (A_need_small.mono (by decide)) (A_levels_of.mono (by decide)), g_longest_rows, FunD.kp F_longest_rows, FunD.bindsN F_longest_rows fun _ _ _ _ _ _ us hl => match us, hl with | [_, _], _ => rfl⟩
  have A_longest : Fd P w K mg base 5 "longest" ["mask", "letters"] (spR K R_longest) := ⟨_, _, fd_longest (k := 4) F_longest G (A_need_small.mono (by decide)) (A_levels_of.mono (by decide)), g_longest, FunD.kp F_longest, FunD.bindsN F_longest fun _ _ _ _ _ _ us hl => match us, hl with | [_, _], _ => rfl⟩
  have A_count_rows : Fd P w K mg base 5 "count_rows" ["mask", "letters", "length"] (spR K R_count_rows) := ⟨_, _, fd_count_rows (k := 4) F_count_rows G k_MOST_ROW (A_need_small.mono (by decide)) (A_is_from.mono (by decide)) (A_levels_of.mono (by decide)), g_count_rows, FunD.kp F_count_rows, FunD.bindsN F_count_rows fun _ _ _ _ _ _ us hl => match us, hl with | [_, _, _], _ => rfl⟩
  have A__law_open : Fd P w K mg base 1 "_law_open" ["_law_mask"] (spR K R_open) := ⟨_, _, fd_law_open2 (k := 0) F__law_open G, g__law_open, FunD.kp F__law_open, FunD.bindsN F__law_open fun _ _ _ _ _ _ us hl => match us, hl with | [_], _ => rfl⟩
  have A__law_views : Fd P w K mg base 2 "_law_views" ["_law_line", "_law_mask"] (spR K R_lviews) := ⟨_, _, fd_law_views2 (k := 1) F__law_views G (A__law_open.mono (by decide)), g__law_views, FunD.kp F__law_views, FunD.bindsN F__law_views fun _ _ _ _ _ _ us hl => match us, hl with | [_, _], _ => rfl⟩
  have A__law_tells : Fd P w K mg base 3 "_law_tells" ["_law_line", "_law_mask"] (spR K R_ltells) := ⟨_, _, fd_law_tells (k := 2) F__law_tells G (A__law_views.mono (by decide)), g__law_tells, FunD.kp F__law_tells, FunD.bindsN F__law_tells fun _ _ _ _ _ _ us hl => match us, hl with | [_, _], _ => rfl⟩
  exact fd_the_law (k := 5) F_law G (A__law_taken.mono (by decide)) (A_longest_rows.mono (by decide)) (A_longest.mono (by decide)) (A_count_rows.mono (by decide)) (A__law_tells.mono (by decide))
end HW
open PySem PySem.W PySem.Calls PyProof.Rows
theorem PySem.Challenge.cw_holedwindows_k08_longest_rows_checked_holds : PySem.Challenge.rw_holedwindows_k08_longest_rows_checked.Holds := by
  w_on; o_law
  refine HandSHeadRun.head_any (r := OpenLaw.row PySem.Challenge.rw_holedwindows_k08_longest_rows_checked) (q := view (OpenLaw.row PySem.Challenge.rw_holedwindows_k08_longest_rows_checked).prog [33]) (H := Tx.hk) (ob := Tx.ob) (M := 6000) (loose := Tx.names) (d := HandSHeadRun.topDef (OpenLaw.row PySem.Challenge.rw_holedwindows_k08_longest_rows_checked).prog 33) (kwd := []) Tx.ob_eq
    (by kernel_rfl) (fun s => by kernel_rfl) Tx.run (by kernel_rfl) (by kernel_rfl) (by kernel_rfl) (by rfl) (by first | assumption | decide +kernel) (by decide +kernel) ⟨rfl, rfl, rfl, rfl, rfl, by decide +kernel⟩ ?hw ?hc
  case hw => w_witness2
  case hc =>
    refine L2.walk_ofE (l := PySem.Challenge.rw_holedwindows_k08_longest_rows_checked) (n := 63) (k := 6) (x := "_law_script") (CX := L2.CX0) rfl (by decide) (by kernel_rfl) ⟨rfl, by decide, by decide⟩ ?F (fun _ _ _ _ z => z)
    intro w mg fa h Y G hmg0
    obtain ⟨K, KX, c, cx⟩ := Y
    have hmg : mg ("law" : PySem.Str) = some (.ref fa) := by
      have e : (HandSHeadRun.topDef (OpenLaw.row PySem.Challenge.rw_holedwindows_k08_longest_rows_checked).prog 33).name = ("law" : PySem.Str) := by kernel_rfl
      rw [← e]
      exact hmg0
    obtain ⟨fd, hb, hF⟩ := HW.facts (P := (PySem.Challenge.rw_holedwindows_k08_longest_rows_checked).prog) (w := w) KX G hmg c cx
    exact ⟨K, fd, HW.spLaw K, KX, hb, fun H a ns hl _ hS => ⟨a, ns, rfl, hl, hS, fun _ => rfl⟩, hF⟩

