import PyProof.Rows.All
import Wide.All
import OpenK.AllK
import Wide.FinOn
import KE.KStateDown
import HandS.ForMost
import HandS.Head0
import HandS.Head1
import HandS.Head2
import HandS.HeadEnd
import HandS.HeadHook1
import HandS.HeadHook2
import HandS.Defaults
import HandS.Codes
import HandS.IsInst
import KE.GoesEnum
import HandS.Strs
import HandS.Zip
import HandS.TupAny
import HandS.TupMul
import PyProof.StrOps2
import HandS.NoneIn
import HandS.Style
import KE.KRevSl
import HandS.Replace
import KE.DataMinMax
import KE.SortData
import KE.DataCmp
import HandS.Flow
import HandS.Wide
import HandS.Set
import HandS.SetFor
import HandS.ExcInit
import HandS.ExcField
import HandS.TryOnly
import HandS.TryMany
import HandS.WordsExc
import HandS.ClsMeth
import HandS.Iter
import PyProof.SeqIndex
import PySem.Challenge.RW_holedwindows_k03_whole_views
set_option Elab.async false
set_option linter.all false
set_option maxRecDepth 100000
set_option maxHeartbeats 4000000
namespace HX
open PySem PySem.Spec PyProof.Rows L2 He
/-! the head's Hook with one more question ex -/
abbrev AlE : Type := AlD × Bool
def obsE (n : Nat) (fa : List Fa) (fn : List DefD) (ex : PySem.W.Frag → Bool) (g : Addr → Option Obj) : AlE := (obsD fa fn (frG g (asD g n)), ex (frG g (asD g n)))
def hookE (n : Nat) (fa : List Fa) (fn : List DefD) (ex : PySem.W.Frag → Bool) : PySem.W.Hook where
  α := AlE
  obs := fun s => obsE n fa fn ex s.heap.get?
  val := fun _ => (valD fn, true)
  says := fun _ h => ∃ K : PySem.W.Frag, K.In h ∧ SaysD fa fn K ∧ ex K = true
  of := fun _ _ e => ⟨_, frG_in, congrArg (fun z : AlE => z.1) e, congrArg (fun z : AlE => z.2) e⟩
  keeps := fun _ _ _ ⟨K, hK, c⟩ k => ⟨K, PySem.W.Frag.In.keeps hK k, c⟩
theorem obsE_eq {n : Nat} {fa : List Fa} {fn : List DefD} {ex : PySem.W.Frag → Bool} {g : Addr → Option Obj} {s : Shared} (h : ∀ a, g a = s.heap.get? a) : obsE n fa fn ex g = (hookE n fa fn ex).obs s := by
  have e : g = s.heap.get? := funext h
  rw [e] <;> rfl
/-- a constant that is a tuple of ints -/
def intV : Value → Option Int
  | .int i _ => some i
  | _ => none
def tupI (x : Str) (ns : List Int) (K : PySem.W.Frag) : Bool := match PySem.W.nsIn K mainGlobals x with
  | some (some (.ref a)) => match K.lookup a with
    | some ⟨.type T, _, .seq its _, _⟩ => decide (T = "tuple") && decide (its.toList.map intV = ns.map some) && decide (its.size ≤ 1000)
    | _ => false
  | _ => false
theorem vals_intV : ∀ {us : List Value} {ns : List Int}, us.map intV = ns.map some → Vals (ns.map V.int) us
  | [], [], _ => .nil
  | [], _ :: _, h => nomatch h
  | _ :: _, [], h => nomatch h
  | u :: us, n :: ns, h => by
    rw [List.map_cons, List.map_cons] at h
    have h1 := (List.cons.inj h).1
    have h2 := (List.cons.inj h).2
    refine .cons ?_ (vals_intV h2)
    cases u with
    | int i t =>
      have e : i = n := Option.some.inj h1
      subst e
      exact ⟨t, rfl⟩
    | _ => cases h1
abbrev gTup (K : PySem.W.Frag) (mg : Str → Option Value) (x : Str) (ns : List Int) : Prop := ∃ a, mg x = some (.ref a) ∧ ∀ H : Hp, SqT K H a (ns.map V.int)
theorem tupI_ok {K : PySem.W.Frag} {h : Heap} {mg : Str → Option Value} {x : Str} {ns : List Int} (X : K.In h) (G : h.Ns mainGlobals mg) (c : tupI x ns K = true) : gTup K mg x ns := by
  unfold tupI at c
  cases e : PySem.W.nsIn K mainGlobals x with
  | none => rw [e] at c; cases c
  | some o =>
    cases o with
    | none => rw [e] at c; cases c
    | some v =>
      cases v with
      | ref a =>
        rw [e] at c
        refine ⟨a, PySem.W.mg_of X G e, fun H => ?_⟩
        cases q : K.lookup a with
        | none =>
          simp only [q] at c
          cases c
        | some ob =>
          simp only [q] at c
          obtain ⟨cls, dd, dt, sl⟩ := ob
          cases cls with
          | type T =>
            cases dt with
            | seq its n =>
              simp only [Bool.and_eq_true, decide_eq_true_eq] at c
              obtain ⟨⟨c1, c2⟩, c3⟩ := c
              subst c1
              exact .inr ⟨_, its, n, q, rfl, rfl, Nat.le_trans c3 (by decide), vals_intV c2⟩
            | _ => cases c
          | _ => cases c
      | _ => rw [e] at c; cases c
end HX
set_option maxHeartbeats 4000000
/-! A layer of my own over HandS: expressions that evaluate to plain data, statements over a state of data. -/
namespace HW
open PySem PySem.Spec PyProof.Rows L2

/-! ### heaps -/
/-- the heap without the addresses of L -/
def off (L : List Addr) (H : Hp) : Hp := fun a => if a ∈ L then none else H a
theorem off_in {L : List Addr} {H : Hp} {a : Addr} (h : a ∈ L) : off L H a = none := if_pos h
theorem off_out {L : List Addr} {H : Hp} {a : Addr} (h : a ∉ L) : off L H a = H a := if_neg h
theorem off_some {L : List Addr} {H : Hp} {a : Addr} {o : HO} (h : off L H a = some o) : a ∉ L ∧ H a = some o := by
  by_cases q : a ∈ L
  · rw [off_in q] at h; cases h
  · rw [off_out q] at h; exact ⟨q, h⟩
theorem off_nil {H : Hp} : off [] H = H := funext fun a => off_out (by simp)
/-- H' keeps all that H has but at L -/
def XT (L : List Addr) (H H' : Hp) : Prop := ∀ a o, off L H a = some o → off L H' a = some o
theorem XT.refl {L : List Addr} {H : Hp} : XT L H H := fun _ _ h => h
theorem XT.trans {L : List Addr} {H H1 H2 : Hp} (a : XT L H H1) (b : XT L H1 H2) : XT L H H2 := fun x o h => b x o (a x o h)
theorem XT.same {L : List Addr} {H H' : Hp} (e : Same H H') : XT L H H' := fun a o h => by
  obtain ⟨h1, h2⟩ := off_some h
  rw [off_out h1]
  exact e a o h2
theorem same_off {L : List Addr} {H : Hp} : Same (off L H) H := fun _ _ h => (off_some h).2
theorem same_offs {L L' : List Addr} {H : Hp} (h : ∀ a ∈ L', a ∈ L) : Same (off L H) (off L' H) := fun a o e => by
  obtain ⟨h1, h2⟩ := off_some e
  rw [off_out (fun q => h1 (h a q))]
  exact h2

/-! ### data -/
mutual
/-- no dict within -/
def nod : PyData → Bool
  | .dict _ => false
  | .list xs => nodAll xs
  | .tuple xs => nodAll xs
  | _ => true
def nodAll : List PyData → Bool
  | [] => true
  | x :: xs => nod x && nodAll xs
end
theorem nodAll_iff : ∀ {xs : List PyData}, nodAll xs = true ↔ ∀ x ∈ xs, nod x = true
  | [] => by simp [nodAll]
  | x :: xs => by simp [nodAll, nodAll_iff (xs := xs)]
theorem nodAll_map {α : Type} {f : α → PyData} (h : ∀ x, nod (f x) = true) (l : List α) : nodAll (l.map f) = true := nodAll_iff.mpr fun y hy => by
  obtain ⟨x, _, rfl⟩ := List.mem_map.mp hy
  exact h x
mutual
theorem nod_of_lay : ∀ {d : PyData}, d.canLay0 = true → nod d = true
  | .none, _ => rfl
  | .bool _, _ => rfl
  | .int _, _ => rfl
  | .str _, _ => rfl
  | .list xs, h => nodAll_of_lay (xs := xs) h
  | .tuple xs, h => nodAll_of_lay (xs := xs) h
  | .dict _, h => nomatch h
theorem nodAll_of_lay : ∀ {xs : List PyData}, PyData.canLayAll0 xs = true → nodAll xs = true
  | [], _ => rfl
  | x :: xs, h => by
    have q : x.canLay0 = true ∧ PyData.canLayAll0 xs = true := by simpa [PyData.canLayAll0] using h
    show (nod x && nodAll xs) = true
    rw [nod_of_lay q.1, nodAll_of_lay q.2]
    rfl
end
/-- an object of which only the place is told -/
abbrev ptD (a : Addr) : PyData := .dict [(.int a, .none)]
/-- a key as data -/
def kD : L2.Key → PyData
  | .inl i => .int i
  | .inr x => .str x
/-- a locked dict as data: its keys are numbers and texts, or tuples of them -/
abbrev dkD (kvs : List (PyData × PyData)) : PyData := .dict ((.none, .none) :: kvs)
abbrev dtD (kvs : List (PyData × PyData)) : PyData := .dict ((.bool true, .none) :: kvs)
mutual
/-- the value v is the data d -/
inductive Va (K : PySem.W.Frag) (H : Hp) : V → PyData → Prop
  | non : Va K H .non .none
  | bl (b : Bool) : Va K H (.bl b) (.bool b)
  | int (i : Int) : Va K H (.int i) (.int i)
  | str (x : Str) : Va K H (.str x) (.str x)
  | lst {a : Addr} {xs : List V} {ds : List PyData} : H a = some (.lst xs) → VaAll K H xs ds → Va K H (.ref a) (.list ds)
  | tup {a : Addr} {xs : List V} {ds : List PyData} : SqT K H a xs → VaAll K H xs ds → Va K H (.ref a) (.tuple ds)
  | dct {a : Addr} : H a = some (.dK []) → Va K H (.ref a) (.dict [])
  | ptr (a : Addr) : Va K H (.ref a) (.dict [(.int a, .none)])
  | dcf {a : Addr} {o : Obj} {ks : List (Key × V)} {ds : List PyData} {kvs : List (PyData × PyData)} : H a = some (.frz o (.dK ks)) → VaAll K H (ks.map (·.2)) ds → kvs = (ks.map fun p => kD p.1).zip ds → Va K H (.ref a) (dkD kvs)
  | dtf {a : Addr} {o : Obj} {ks : List (List Key × V)} {ds : List PyData} {kvs : List (PyData × PyData)} : H a = some (.frz o (.dT ks)) → VaAll K H (ks.map (·.2)) ds → kvs = (ks.map fun p => PyData.tuple (p.1.map kD)).zip ds → Va K H (.ref a) (dtD kvs)
inductive VaAll (K : PySem.W.Frag) (H : Hp) : List V → List PyData → Prop
  | nil : VaAll K H [] []
  | cons {v : V} {vs : List V} {d : PyData} {ds : List PyData} : Va K H v d → VaAll K H vs ds → VaAll K H (v :: vs) (d :: ds)
end
section
variable {K : PySem.W.Frag} {H H' : Hp}
theorem SqT.up {a : Addr} {xs : List V} (e : Same H H') (h : SqT K H a xs) : SqT K H' a xs := by
  rcases h with (h | ⟨o, h⟩) | h
  · exact .inl (.inl (e _ _ h))
  · exact .inl (.inr ⟨o, e _ _ h⟩)
  · exact .inr h
mutual
theorem Va.up (e : Same H H') : ∀ {v : V} {d : PyData}, Va K H v d → Va K H' v d
  | _, _, .non => .non
  | _, _, .bl b => .bl b
  | _, _, .int i => .int i
  | _, _, .str x => .str x
  | _, _, .lst h hs => .lst (e _ _ h) (VaAll.up e hs)
  | _, _, .tup h hs => .tup (SqT.up e h) (VaAll.up e hs)
  | _, _, .dct h => .dct (e _ _ h)
  | _, _, .ptr a => .ptr a
  | _, _, .dcf h hs q => .dcf (e _ _ h) (VaAll.up e hs) q
  | _, _, .dtf h hs q => .dtf (e _ _ h) (VaAll.up e hs) q
theorem VaAll.up (e : Same H H') : ∀ {vs : List V} {ds : List PyData}, VaAll K H vs ds → VaAll K H' vs ds
  | _, _, .nil => .nil
  | _, _, .cons h hs => .cons (Va.up e h) (VaAll.up e hs)
end
mutual
theorem Va.dp : ∀ {v : V} {d : PyData}, Va K H v d → nod d = true → Dp K H v d
  | _, _, .non, _ => .non
  | _, _, .bl b, _ => .bl b
  | _, _, .int i, _ => .int i
  | _, _, .str x, _ => .str x
  | _, _, .lst h hs, n => .lst (SqL.of h) (VaAll.dp hs n)
  | _, _, .tup h hs, n => .tup h (VaAll.dp hs n)
  | _, _, .dct _, n => nomatch n
  | _, _, .ptr _, n => nomatch n
  | _, _, .dcf _ _ _, n => nomatch n
  | _, _, .dtf _ _ _, n => nomatch n
theorem VaAll.dp : ∀ {vs : List V} {ds : List PyData}, VaAll K H vs ds → nodAll ds = true → DpAll K H vs ds
  | _, _, .nil, _ => .nil
  | _, _, .cons h hs, n => by
    obtain ⟨n1, n2⟩ := Bool.and_eq_true_iff.mp n
    exact .cons (Va.dp h n1) (VaAll.dp hs n2)
end
theorem VaAll.length : ∀ {vs : List V} {ds : List PyData}, VaAll K H vs ds → vs.length = ds.length
  | _, _, .nil => rfl
  | _, _, .cons _ hs => by rw [List.length_cons, List.length_cons, VaAll.length hs]
theorem VaAll.get : ∀ {vs : List V} {ds : List PyData} {i : Nat} {v : V}, VaAll K H vs ds → vs[i]? = some v → ∃ d, ds[i]? = some d ∧ Va K H v d
  | _, _, i, _, .nil, e => by simp at e
  | _, _, 0, _, .cons h _, e => by
    have e : _ = _ := Option.some.inj e
    subst e
    exact ⟨_, rfl, h⟩
  | _, _, i + 1, v, .cons _ hs, e => by
    obtain ⟨d, h1, h2⟩ := VaAll.get (i := i) (v := v) hs (by simpa using e)
    exact ⟨d, by simpa using h1, h2⟩
theorem VaAll.at : ∀ {vs : List V} {ds : List PyData} {i : Nat} {d : PyData}, VaAll K H vs ds → ds[i]? = some d → ∃ v, vs[i]? = some v ∧ Va K H v d
  | _, _, i, _, .nil, e => by simp at e
  | _, _, 0, _, .cons h _, e => by
    have e : _ = _ := Option.some.inj e
    subst e
    exact ⟨_, rfl, h⟩
  | _, _, i + 1, d, .cons _ hs, e => by
    obtain ⟨v, h1, h2⟩ := VaAll.at (i := i) (d := d) hs (by simpa using e)
    exact ⟨v, by simpa using h1, h2⟩
theorem VaAll.app : ∀ {vs ws : List V} {ds es : List PyData}, VaAll K H vs ds → VaAll K H ws es → VaAll K H (vs ++ ws) (ds ++ es)
  | _, _, _, _, .nil, s => s
  | _, _, _, _, .cons h hs, s => .cons h (VaAll.app hs s)
theorem VaAll.take : ∀ {vs : List V} {ds : List PyData} (n : Nat), VaAll K H vs ds → VaAll K H (vs.take n) (ds.take n)
  | _, _, 0, _ => .nil
  | _, _, _ + 1, .nil => .nil
  | _, _, n + 1, .cons h hs => .cons h (VaAll.take n hs)
theorem VaAll.drop : ∀ {vs : List V} {ds : List PyData} (n : Nat), VaAll K H vs ds → VaAll K H (vs.drop n) (ds.drop n)
  | _, _, 0, r => r
  | _, _, _ + 1, .nil => .nil
  | _, _, n + 1, .cons _ hs => VaAll.drop n hs
theorem VaAll.ints : ∀ {vs : List V} {ns : List Int}, VaAll K H vs (ns.map PyData.int) → vs = ns.map V.int
  | _, [], h => by cases h; rfl
  | _, n :: ns, h => by
    cases h with
    | cons h hs => cases h; rw [VaAll.ints hs]; rfl
theorem VaAll.bls : ∀ {vs : List V} {bs : List Bool}, VaAll K H vs (bs.map PyData.bool) → vs = bs.map V.bl
  | _, [], h => by cases h; rfl
  | _, n :: ns, h => by
    cases h with
    | cons h hs => cases h; rw [VaAll.bls hs]; rfl
theorem VaAll.strs : ∀ {vs : List V} {xs : List Str}, VaAll K H vs (xs.map PyData.str) → vs = xs.map V.str
  | _, [], h => by cases h; rfl
  | _, n :: ns, h => by
    cases h with
    | cons h hs => cases h; rw [VaAll.strs hs]; rfl
end

/-! ### the state: slots of data, local mutable objects, the world around -/
inductive DV where
  | no | d (x : PyData) | r (a : Addr)
inductive MO where
  | lst (ds : List PyData) | dK (kvs : List (Key × PyData)) | dT (kvs : List (List Key × PyData))
abbrev Mu := List (Addr × MO)
/-- H0: all that must stay; M: hidden objects (the callers' mutable ones); row: the draws' row, its script -/
structure Wd where
  H0 : Hp
  M : List Addr
  row : Option (Addr × Addr × List Int)
def RowC (H : Hp) (r scr : Addr) : Prop := ∃ i s q : Int, H r = some (.lst [.ref scr, .int i, .int s, .int q]) ∧ 0 ≤ i
def Wd.isRow (W : Wd) (a : Addr) : Prop := ∃ scr ns, W.row = some (a, scr, ns)
structure Fr (W : Wd) (H : Hp) : Prop where
  keep : ∀ a o, ¬ W.isRow a → W.H0 a = some o → H a = some o
  row : ∀ r scr ns, W.row = some (r, scr, ns) → RowC H r scr
structure WdOk (K : PySem.W.Frag) (W : Wd) : Prop where
  hid : ∀ a ∈ W.M, W.H0 a ≠ none
  row : ∀ r scr ns, W.row = some (r, scr, ns) → r ∈ W.M ∧ SqL K W.H0 scr (ns.map V.int) ∧ scr ≠ r ∧ ns.length ≤ 63
def SltR (K : PySem.W.Frag) (H : Hp) : Option V → DV → Prop
  | _, .no => True
  | o, .d d => ∃ v, o = some v ∧ Va K H v d
  | o, .r a => o = some (.ref a)
structure Slots (K : PySem.W.Frag) (H : Hp) (σ : L2.St) (Γ : List DV) : Prop where
  len : σ.length = Γ.length
  at_ : ∀ (i : Nat) (dv : DV), Γ[i]? = some dv → ∃ o, σ[i]? = some o ∧ SltR K H o dv
def MOk (K : PySem.W.Frag) (Ho H : Hp) (a : Addr) : MO → Prop
  | .lst ds => ∃ xs, H a = some (.lst xs) ∧ VaAll K Ho xs ds
  | .dK kvs => ∃ ks : List (Key × V), H a = some (.dK ks) ∧ Paired (fun (p : Key × V) (q : Key × PyData) => p.1 = q.1 ∧ Va K Ho p.2 q.2) ks kvs
  | .dT kvs => ∃ ks : List (List Key × V), H a = some (.dT ks) ∧ Paired (fun (p : List Key × V) (q : List Key × PyData) => p.1 = q.1 ∧ Va K Ho p.2 q.2) ks kvs
abbrev hd (W : Wd) (μ : Mu) : List Addr := W.M ++ μ.map (·.1)
structure Rep (K : PySem.W.Frag) (W : Wd) (Γ : List DV) (μ : Mu) (σ : L2.St) (H : Hp) : Prop where
  wd : WdOk K W
  fr : Fr W H
  sl : Slots K (off (hd W μ) H) σ Γ
  mu : ∀ p ∈ μ, W.H0 p.1 = none ∧ MOk K (off (hd W μ) H) H p.1 p.2
  nd : (μ.map (·.1)).Nodup
section
variable {K : PySem.W.Frag} {H H' Ho Ho' : Hp} {W : Wd} {Γ : List DV} {μ : Mu} {σ : L2.St}
theorem SltR.up (e : Same H H') {o : Option V} {dv : DV} (h : SltR K H o dv) : SltR K H' o dv := by
  cases dv with
  | no => trivial
  | d x => obtain ⟨v, e1, e2⟩ := h; exact ⟨v, e1, e2.up e⟩
  | r a => exact h
theorem Slots.up (e : Same H H') (h : Slots K H σ Γ) : Slots K H' σ Γ := ⟨h.len, fun i dv q => by
  obtain ⟨o, h1, h2⟩ := h.at_ i dv q
  exact ⟨o, h1, h2.up e⟩⟩
theorem Slots.set (h : Slots K H σ Γ) (i : Nat) {v : V} {d : PyData} (r : Va K H v d) : Slots K H (σ.set i (some v)) (Γ.set i (.d d)) := ⟨by rw [List.length_set, List.length_set, h.len], fun j dv q => by
  by_cases hj : j = i
  · subst hj
    have hl : j < Γ.length := by
      have := (List.getElem?_eq_some_iff.mp q).1
      simpa using this
    rw [List.getElem?_set_self hl] at q
    cases q
    exact ⟨_, List.getElem?_set_self (by rw [h.len]; exact hl), v, rfl, r⟩
  · rw [List.getElem?_set_ne (Ne.symm hj)] at q ⊢
    exact h.at_ j dv q⟩
theorem Slots.setr (h : Slots K H σ Γ) (i : Nat) {a : Addr} : Slots K H (σ.set i (some (.ref a))) (Γ.set i (.r a)) := ⟨by rw [List.length_set, List.length_set, h.len], fun j dv q => by
  by_cases hj : j = i
  · subst hj
    have hl : j < Γ.length := by
      have := (List.getElem?_eq_some_iff.mp q).1
      simpa using this
    rw [List.getElem?_set_self hl] at q
    cases q
    exact ⟨_, List.getElem?_set_self (by rw [h.len]; exact hl), rfl⟩
  · rw [List.getElem?_set_ne (Ne.symm hj)] at q ⊢
    exact h.at_ j dv q⟩
theorem Slots.no (h : Slots K H σ Γ) (i : Nat) {x : Option V} : Slots K H (σ.set i x) (Γ.set i .no) := ⟨by rw [List.length_set, List.length_set, h.len], fun j dv q => by
  by_cases hj : j = i
  · subst hj
    have hl : j < Γ.length := by
      have := (List.getElem?_eq_some_iff.mp q).1
      simpa using this
    rw [List.getElem?_set_self hl] at q
    cases q
    exact ⟨_, List.getElem?_set_self (by rw [h.len]; exact hl), trivial⟩
  · rw [List.getElem?_set_ne (Ne.symm hj)] at q ⊢
    exact h.at_ j dv q⟩
theorem pmp {α β : Type} {F G : α → β → Prop} : ∀ {l₁ : List α} {l₂ : List β}, Paired F l₁ l₂ → (∀ a b, F a b → G a b) → Paired G l₁ l₂
  | _, _, .nil, _ => .nil
  | _, _, .cons r t, f => .cons (f _ _ r) (pmp t f)
theorem MOk.up (e : Same Ho Ho') {a : Addr} (e2 : ∀ o, H a = some o → H' a = some o) {m : MO} (h : MOk K Ho H a m) : MOk K Ho' H' a m := by
  cases m with
  | lst ds => obtain ⟨xs, h1, h2⟩ := h; exact ⟨xs, e2 _ h1, h2.up e⟩
  | dK kvs => obtain ⟨xs, h1, h2⟩ := h; exact ⟨xs, e2 _ h1, pmp h2 fun _ _ z => ⟨z.1, z.2.up e⟩⟩
  | dT kvs => obtain ⟨xs, h1, h2⟩ := h; exact ⟨xs, e2 _ h1, pmp h2 fun _ _ z => ⟨z.1, z.2.up e⟩⟩
theorem MOk.ne {a : Addr} {m : MO} (h : MOk K Ho H a m) : H a ≠ none := by
  cases m with
  | lst ds => obtain ⟨xs, h1, h2⟩ := h; rw [h1]; simp
  | dK kvs => obtain ⟨xs, h1, h2⟩ := h; rw [h1]; simp
  | dT kvs => obtain ⟨xs, h1, h2⟩ := h; rw [h1]; simp
theorem Fr.dom (h : Fr W H) {a : Addr} (q : W.H0 a ≠ none) : H a ≠ none := by
  by_cases hr : W.isRow a
  · obtain ⟨scr, ns, e⟩ := hr
    obtain ⟨i, s, q, e1, _⟩ := h.row _ _ _ e
    rw [e1]; simp
  · cases e : W.H0 a with
    | none => exact absurd e q
    | some o => rw [h.keep a o hr e]; simp
theorem Fr.same (h : Fr W H) (e : Same H H') : Fr W H' := ⟨fun a o n q => e a o (h.keep a o n q), fun r scr ns q => by
  obtain ⟨i, s, z, e1, e2⟩ := h.row r scr ns q
  exact ⟨i, s, z, e _ _ e1, e2⟩⟩
theorem Rep.ne (R : Rep K W Γ μ σ H) : ∀ a ∈ hd W μ, H a ≠ none := fun a ha => by
  rcases List.mem_append.mp ha with h | h
  · exact R.fr.dom (R.wd.hid a h)
  · obtain ⟨p, hp, rfl⟩ := List.mem_map.mp h
    exact (R.mu p hp).2.ne
/-- all is kept -/
theorem Rep.same (R : Rep K W Γ μ σ H) (e : Same H H') : Rep K W Γ μ σ H' :=
  ⟨R.wd, R.fr.same e, R.sl.up (XT.same e), fun p hp => ⟨(R.mu p hp).1, (R.mu p hp).2.up (XT.same e) (e _)⟩, R.nd⟩
/-- a new object is no hidden one -/
theorem new_out {L : List Addr} (hL : ∀ a ∈ L, H a ≠ none) {p : Addr} (hp : H p = none) : p ∉ L := fun q => hL p q hp
theorem same_new {p : Addr} {o : HO} (hp : H p = none) : Same H (upd H p o) := fun b u e => by
  rw [upd_ne (ne_of_none e hp)]
  exact e
theorem off_upd {L : List Addr} {p : Addr} {o : HO} (h : p ∉ L) : off L (upd H p o) p = some o := by rw [off_out h, upd_same]

/-- the world grows: what stands now must stay -/
structure Wle (W W' : Wd) : Prop where
  m : ∀ a ∈ W.M, a ∈ W'.M
  row : W'.row = W.row
  keep : ∀ a o, ¬ W.isRow a → W.H0 a = some o → W'.H0 a = some o
theorem Wle.refl {W : Wd} : Wle W W := ⟨fun _ h => h, rfl, fun _ _ _ h => h⟩
theorem Wle.isRow {W W' : Wd} (l : Wle W W') (a : Addr) : W'.isRow a ↔ W.isRow a := by
  unfold Wd.isRow
  rw [l.row]
theorem Wle.trans {W W1 W2 : Wd} (a : Wle W W1) (b : Wle W1 W2) : Wle W W2 :=
  ⟨fun x h => b.m x (a.m x h), b.row.trans a.row, fun x o n h => b.keep x o (fun q => n ((a.isRow x).mp q)) (a.keep x o n h)⟩
theorem Fr.down {W W' : Wd} (l : Wle W W') (h : Fr W' H) : Fr W H :=
  ⟨fun a o n q => h.keep a o (fun z => n ((l.isRow a).mp z)) (l.keep a o n q), fun r scr ns q => h.row r scr ns (l.row.trans q)⟩
/-- from the grown world back, where the local objects are new to the smaller one -/
theorem Rep.down {W W' : Wd} (l : Wle W W') (ok : WdOk K W) (hm : ∀ p ∈ μ, W.H0 p.1 = none) (R : Rep K W' Γ μ σ H) : Rep K W Γ μ σ H := by
  have e : Same (off (hd W' μ) H) (off (hd W μ) H) := same_offs fun a ha => by
    rcases List.mem_append.mp ha with h | h
    · exact List.mem_append_left _ (l.m a h)
    · exact List.mem_append_right _ h
  exact ⟨ok, R.fr.down l, R.sl.up e, fun p hp => ⟨hm p hp, (R.mu p hp).2.up e fun _ z => z⟩, R.nd⟩
/-- the world as it stands: everything but the local objects and the row must stay -/
def Wd.now (W : Wd) (μ : Mu) (H : Hp) : Wd := { W with H0 := off (μ.map (·.1)) H }
theorem Rep.mu_new (R : Rep K W Γ μ σ H) {a : Addr} (h : W.H0 a ≠ none) : a ∉ μ.map (·.1) := fun q => by
  obtain ⟨p, hp, rfl⟩ := List.mem_map.mp q
  exact h (R.mu p hp).1
theorem Rep.now_le (R : Rep K W Γ μ σ H) : Wle W (W.now μ H) := ⟨fun _ h => h, rfl, fun a o n h => by
  have q : a ∉ μ.map (·.1) := R.mu_new (by rw [h]; simp)
  show off (μ.map (·.1)) H a = some o
  rw [off_out q]
  exact R.fr.keep a o n h⟩
theorem SqL.up {a : Addr} {xs : List V} (e : ∀ o, H a = some o → H' a = some o) (h : SqL K H a xs) : SqL K H' a xs := by
  rcases h with (h | ⟨o, h⟩) | h
  · exact .inl (.inl (e _ h))
  · exact .inl (.inr ⟨o, e _ h⟩)
  · exact .inr h
theorem Rep.now_ok (R : Rep K W Γ μ σ H) : WdOk K (W.now μ H) := ⟨fun a ha => by
  show off (μ.map (·.1)) H a ≠ none
  rw [off_out (R.mu_new (R.wd.hid a ha))]
  exact R.fr.dom (R.wd.hid a ha), fun r scr ns q => by
  obtain ⟨h1, h2, h3, h4⟩ := R.wd.row r scr ns q
  refine ⟨h1, SqL.up (fun o e => ?_) h2, h3, h4⟩
  show off (μ.map (·.1)) H scr = some o
  rw [off_out (R.mu_new (by rw [e]; simp))]
  refine R.fr.keep scr o (fun ⟨s2, n2, z⟩ => ?_) e
  have q' : W.row = some (r, scr, ns) := q
  rw [q'] at z
  cases z
  exact h3 rfl⟩
theorem Rep.now (R : Rep K W Γ μ σ H) : Rep K (W.now μ H) Γ μ σ H :=
  ⟨R.now_ok, ⟨fun a o n q => (off_some q).2, R.fr.row⟩, R.sl, fun p hp => ⟨off_in (List.mem_map.mpr ⟨p, hp, rfl⟩), (R.mu p hp).2⟩, R.nd⟩
/-- a world that hides more: the new objects at L -/
def Wd.hide (W : Wd) (L : List Addr) : Wd := { W with M := L ++ W.M }
end
end HW
set_option maxHeartbeats 4000000
namespace HW
open PySem PySem.Spec PyProof.Rows L2

/-! ### judgements -/
/-- what e wants -/
def wE (X : Cx) (e : Expr) : TE := fun σ H Q => ∀ (pins : List (Addr × Obj)) (s : Shared), Inv X pins σ H s → wpAny (model X.prog X.w) X.A (eval e X.env) (EP X pins σ Q) X.xe s
theorem wE.pe {X : Cx} {e : Expr} : PE X e (wE X e) := ⟨fun pins s _ _ _ I h => h pins s I⟩
theorem _root_.L2.PE.w {X : Cx} {e : Expr} {t : TE} (h : PE X e t) {σ : L2.St} {H : Hp} {Q : VK} (q : t σ H Q) : wE X e σ H Q := fun pins s I => h.run pins s σ H Q I q
def wA (X : Cx) (es : List Expr) : TA := fun σ H Q => ∀ (pos : Pos) (pins : List (Addr × Obj)) (s : Shared), Inv X pins σ H s → wpAny (model X.prog X.w) X.A (spliced (backTo pos (starEach es X.env))) (AP X pins σ Q) X.xe s
theorem wA.pa {X : Cx} {es : List Expr} : PA X es (wA X es) := ⟨fun pos pins s _ _ _ I h => h pos pins s I⟩
theorem _root_.L2.PA.w {X : Cx} {es : List Expr} {t : TA} (h : PA X es t) {σ : L2.St} {H : Hp} {Q : List V → Hp → Prop} (q : t σ H Q) : wA X es σ H Q := fun pos pins s I => h.run pos pins s σ H Q I q
def wT (X : Cx) (e : Expr) : TT := fun σ H Q => ∀ (pins : List (Addr × Obj)) (s : Shared), Inv X pins σ H s → wpAny (model X.prog X.w) X.A (isTrue e X.env (eval e X.env)) (TP X pins σ Q) X.xe s
theorem wT.pt {X : Cx} {e : Expr} : PT X e (wT X e) := ⟨fun pins s _ _ _ I h => h pins s I⟩
theorem _root_.L2.PT.w {X : Cx} {e : Expr} {t : TT} (h : PT X e t) {σ : L2.St} {H : Hp} {Q : Bool → Hp → Prop} (q : t σ H Q) : wT X e σ H Q := fun pins s I => h.run pins s σ H Q I q
def wS (X : Cx) (st : Stmt) : TS := fun D σ H => ∀ (pins : List (Addr × Obj)) (s : Shared), Inv X pins σ H s → wpAny (model X.prog X.w) X.A (exec st X.env) (SP X pins D) X.xe s
theorem wS.ps {X : Cx} {st : Stmt} : PS X st (wS X st) := ⟨fun pins s _ _ _ I h => h pins s I⟩
theorem _root_.L2.PS.w {X : Cx} {st : Stmt} {t : TS} (h : PS X st t) {σ : L2.St} {H : Hp} {D : Ends} (q : t D σ H) : wS X st D σ H := fun pins s I => h.run pins s σ H D I q
def wSs (X : Cx) (sts : List Stmt) : TS := fun D σ H => ∀ (pins : List (Addr × Obj)) (s : Shared), Inv X pins σ H s → wpAny (model X.prog X.w) X.A (execs sts X.env) (SP X pins D) X.xe s
theorem wSs.ps {X : Cx} {sts : List Stmt} : PSs X sts (wSs X sts) := ⟨fun pins s _ _ _ I h => h pins s I⟩
theorem _root_.L2.PSs.w {X : Cx} {sts : List Stmt} {t : TS} (h : PSs X sts t) {σ : L2.St} {H : Hp} {D : Ends} (q : t D σ H) : wSs X sts D σ H := fun pins s I => h.run pins s σ H D I q
/-- one statement, then the rest -/
theorem wSs_cons {X : Cx} {st : Stmt} {rest : List Stmt} {σ : L2.St} {H : Hp} {D : Ends} (h : wS X st { D with nx := wSs X rest D } σ H) : wSs X (st :: rest) D σ H := (pss_cons wS.ps wSs.ps).w h

/-- e gives data with P -/
def Ev (X : Cx) (W : Wd) (Γ : List DV) (μ : Mu) (e : Expr) (P : PyData → Prop) : Prop :=
  ∀ σ H, Rep X.K W Γ μ σ H → ∀ Q : VK, (∀ v d H2, Rep X.K W Γ μ σ H2 → XT (hd W μ) H H2 → Va X.K (off (hd W μ) H2) v d → P d → Q v H2) → wE X e σ H Q
def Ed (X : Cx) (W : Wd) (Γ : List DV) (μ : Mu) (e : Expr) (d : PyData) : Prop :=
  ∀ σ H, Rep X.K W Γ μ σ H → ∀ Q : VK, (∀ v H2, Rep X.K W Γ μ σ H2 → XT (hd W μ) H H2 → Va X.K (off (hd W μ) H2) v d → Q v H2) → wE X e σ H Q
def EvA (X : Cx) (W : Wd) (Γ : List DV) (μ : Mu) (es : List Expr) (P : List PyData → Prop) : Prop :=
  ∀ σ H, Rep X.K W Γ μ σ H → ∀ Q : List V → Hp → Prop, (∀ vs ds H2, Rep X.K W Γ μ σ H2 → XT (hd W μ) H H2 → VaAll X.K (off (hd W μ) H2) vs ds → P ds → Q vs H2) → wA X es σ H Q
def EdA (X : Cx) (W : Wd) (Γ : List DV) (μ : Mu) (es : List Expr) (ds : List PyData) : Prop :=
  ∀ σ H, Rep X.K W Γ μ σ H → ∀ Q : List V → Hp → Prop, (∀ vs H2, Rep X.K W Γ μ σ H2 → XT (hd W μ) H H2 → VaAll X.K (off (hd W μ) H2) vs ds → Q vs H2) → wA X es σ H Q
/-- e as a test gives b; gives a b with P -/
def EdT (X : Cx) (W : Wd) (Γ : List DV) (μ : Mu) (e : Expr) (b : Bool) : Prop :=
  ∀ σ H, Rep X.K W Γ μ σ H → ∀ Q : Bool → Hp → Prop, (∀ H2, Rep X.K W Γ μ σ H2 → XT (hd W μ) H H2 → Q b H2) → wT X e σ H Q
def EvT (X : Cx) (W : Wd) (Γ : List DV) (μ : Mu) (e : Expr) (P : Bool → Prop) : Prop :=
  ∀ σ H, Rep X.K W Γ μ σ H → ∀ Q : Bool → Hp → Prop, (∀ b H2, Rep X.K W Γ μ σ H2 → XT (hd W μ) H H2 → P b → Q b H2) → wT X e σ H Q
/-- and, or: whatever the 'whole' is -/
def wW (X : Cx) (e : Expr) : TT := fun σ H Q => ∀ (whole : Sem Value) (pins : List (Addr × Obj)) (s : Shared), Inv X pins σ H s → wpAny (model X.prog X.w) X.A (isTrue e X.env whole) (TP X pins σ Q) X.xe s
theorem wW.pw {X : Cx} {e : Expr} : PW X e (wW X e) := ⟨fun whole pins s _ _ _ I h => h whole pins s I⟩
theorem _root_.L2.PW.w {X : Cx} {e : Expr} {t : TT} (h : PW X e t) {σ : L2.St} {H : Hp} {Q : Bool → Hp → Prop} (q : t σ H Q) : wW X e σ H Q := fun whole pins s I => h.run whole pins s σ H Q I q
def EdW (X : Cx) (W : Wd) (Γ : List DV) (μ : Mu) (e : Expr) (b : Bool) : Prop :=
  ∀ σ H, Rep X.K W Γ μ σ H → ∀ Q : Bool → Hp → Prop, (∀ H2, Rep X.K W Γ μ σ H2 → XT (hd W μ) H H2 → Q b H2) → wW X e σ H Q
def EvW (X : Cx) (W : Wd) (Γ : List DV) (μ : Mu) (e : Expr) (P : Bool → Prop) : Prop :=
  ∀ σ H, Rep X.K W Γ μ σ H → ∀ Q : Bool → Hp → Prop, (∀ b H2, Rep X.K W Γ μ σ H2 → XT (hd W μ) H H2 → P b → Q b H2) → wW X e σ H Q

section
variable {X : Cx} {W : Wd} {Γ : List DV} {μ : Mu} {e a b : Expr} {es : List Expr} {d x y z : PyData} {ds : List PyData} {P A B C : PyData → Prop} {pos : Pos}
theorem Ed.ev (h : Ed X W Γ μ e d) : Ev X W Γ μ e (fun z => z = d) := fun σ H R Q k => h σ H R Q fun v H2 R2 x2 r => k v d H2 R2 x2 r rfl
theorem Ed.evP (h : Ed X W Γ μ e d) (p : P d) : Ev X W Γ μ e P := fun σ H R Q k => h σ H R Q fun v H2 R2 x2 r => k v d H2 R2 x2 r p
theorem Ev.ed (h : Ev X W Γ μ e (fun z => z = d)) : Ed X W Γ μ e d := fun σ H R Q k => h σ H R Q fun v d' H2 R2 x2 r e => k v H2 R2 x2 (e ▸ r)
theorem Ev.imp (h : Ev X W Γ μ e A) (i : ∀ d, A d → B d) : Ev X W Γ μ e B := fun σ H R Q k => h σ H R Q fun v d H2 R2 x2 r p => k v d H2 R2 x2 r (i d p)
theorem Ed.to (h : Ed X W Γ μ e x) (q : x = y) : Ed X W Γ μ e y := q ▸ h
theorem EdA.ev {ds : List PyData} {P : List PyData → Prop} (h : EdA X W Γ μ es ds) (p : P ds) : EvA X W Γ μ es P := fun σ H R Q k => h σ H R Q fun v H2 R2 x2 r => k v ds H2 R2 x2 r p
theorem EdT.ev {b : Bool} {P : Bool → Prop} (h : EdT X W Γ μ e b) (p : P b) : EvT X W Γ μ e P := fun σ H R Q k => h σ H R Q fun H2 R2 x2 => k b H2 R2 x2 p
theorem EdT.to {b b' : Bool} (h : EdT X W Γ μ e b) (q : b = b') : EdT X W Γ μ e b' := q ▸ h
theorem EvT.imp {A B : Bool → Prop} (h : EvT X W Γ μ e A) (i : ∀ b, A b → B b) : EvT X W Γ μ e B := fun σ H R Q k => h σ H R Q fun b H2 R2 x2 p => k b H2 R2 x2 (i b p)

/-! ### names, constants -/
/-- a local name -/
theorem vr (i : Nat) {n : Str} (hd_ : Γ[i]? = some (.d d) := by rfl) (hN : X.N[i]? = some n := by rfl) (hv : Vis X.env.scope n := by first | exact Or.inl rfl | exact Or.inr (Or.inl rfl) | exact Or.inr (Or.inr rfl))
    (h1 : (n == ("__debug__" : Str)) = false := by decide) (h2 : (n == ("__classdict__" : Str)) = false := by decide) : Ed X W Γ μ (.Name n pos) d := fun σ H R Q k => by
  obtain ⟨o, e1, v, e2, r⟩ := R.sl.at_ i _ hd_
  subst e2
  exact (pe_var hN hv h1 h2).w ⟨v, e1, k v H R XT.refl r⟩
theorem ed_c {v : V} (h : PE X e (tC v)) (r : ∀ H, Va X.K H v d) : Ed X W Γ μ e d := fun σ H R Q k => h.w (k v H R XT.refl (r _))
theorem ed_int {i : Int} {j p} : Ed X W Γ μ (.Constant (.int i) j p) (.int i) := ed_c pe_int fun _ => .int i
theorem ed_bl {i : Bool} {j p} : Ed X W Γ μ (.Constant (.bool i) j p) (.bool i) := ed_c pe_bl fun _ => .bl i
theorem ed_non {j p} : Ed X W Γ μ (.Constant .none j p) .none := ed_c pe_non fun _ => .non
theorem ed_str {i : Str} {j p} : Ed X W Γ μ (.Constant (.str i) j p) (.str i) := ed_c pe_str fun _ => .str i
/-- a constant of the module -/
theorem ed_gstr {n z : Str} (hm : ∃ t, X.mg n = some (.str z t)) (hg : Gl X n := by rfl) (h1 : (n == ("__debug__" : Str)) = false := by decide) : Ed X W Γ μ (.Name n pos) (.str z) := by
  obtain ⟨t, hm⟩ := hm
  exact ed_c (pe_glob hg hm (v := .str z) ⟨t, rfl⟩ h1) fun _ => .str z
theorem ed_gint {n : Str} {z : Int} (hm : ∃ t, X.mg n = some (.int z t)) (hg : Gl X n := by rfl) (h1 : (n == ("__debug__" : Str)) = false := by decide) : Ed X W Γ μ (.Name n pos) (.int z) := by
  obtain ⟨t, hm⟩ := hm
  exact ed_c (pe_glob hg hm (v := .int z) ⟨t, rfl⟩ h1) fun _ => .int z

/-! ### two values -/
/-- on the data x and y, z comes -/
def rD (K : PySem.W.Frag) (x y z : PyData) : R2 := fun a b H Q => ∃ L : List Addr, (∀ l ∈ L, H l ≠ none) ∧ Va K (off L H) a x ∧ Va K (off L H) b y ∧ ∀ v H2, Same H H2 → Va K (off L H2) v z → Q v H2
def OpD (X : Cx) (f : Value → Value → Sem Value) (x y z : PyData) : Prop := OpR X f (rD X.K x y z)
theorem OpR.to {f : Value → Value → Sem Value} {r r' : R2} (h : OpR X f r) (i : ∀ a b H Q, r' a b H Q → r a b H Q) : OpR X f r' := fun pins s σ H x y v u Q I rx ry q => h pins s σ H x y v u Q I rx ry (i _ _ _ _ q)
theorem bin_ev {r : V → V → Hp → VK → Prop} (ha : Ev X W Γ μ a A) (hb : Ev X W Γ μ b B) (hz : ∀ x y, A x → B y → ∃ z, C z ∧ ∀ va vb H Q, rD X.K x y z va vb H Q → r va vb H Q) {σ : L2.St} {H : Hp} (R : Rep X.K W Γ μ σ H) {Q : VK}
    (k : ∀ v d H2, Rep X.K W Γ μ σ H2 → XT (hd W μ) H H2 → Va X.K (off (hd W μ) H2) v d → C d → Q v H2) :
    wE X a σ H fun va H1 => wE X b σ H1 fun vb H2 => r va vb H2 Q := by
  refine ha σ H R _ fun va x H1 R1 e1 r1 p1 => hb σ H1 R1 _ fun vb y H2 R2 e2 r2 p2 => ?_
  obtain ⟨z, pz, hr⟩ := hz x y p1 p2
  exact hr _ _ _ _ ⟨hd W μ, R2.ne, r1.up e2, r2, fun v H3 e3 r3 => k v z H3 (R2.same e3) ((e1.trans e2).trans (XT.same e3)) r3 pz⟩
def rAny (X : Cx) (f : Value → Value → Sem Value) : R2 := fun va vb H Q => ∃ x y z, OpD X f x y z ∧ rD X.K x y z va vb H Q
theorem rAny.ok {f : Value → Value → Sem Value} : OpR X f (rAny X f) := fun pins s σ H x y v u Q I rx ry ⟨_, _, _, o, q⟩ => o pins s σ H x y v u Q I rx ry q
def IxD (X : Cx) (x y z : PyData) : Prop := IxR X (rD X.K x y z)
def rAnyI (X : Cx) : R2 := fun va vb H Q => ∃ x y z, IxD X x y z ∧ rD X.K x y z va vb H Q
theorem rAnyI.ok : IxR X (rAnyI X) := fun e1 e2 pins s σ H x y v u Q I rx ry ⟨_, _, _, o, q⟩ hs => o e1 e2 pins s σ H x y v u Q I rx ry q hs
theorem ev_op {op : Operator} (ha : Ev X W Γ μ a A) (hb : Ev X W Γ μ b B) (hz : ∀ x y, A x → B y → ∃ z, C z ∧ OpD X (binaryOp op) x y z) : Ev X W Γ μ (.BinOp a op b pos) C := fun σ H R Q k => by
  refine (pe_op (rAny.ok (X := X)) wE.pe wE.pe).w ?_
  exact bin_ev (r := rAny X (binaryOp op)) ha hb (fun x y px py => (hz x y px py).imp fun z h => ⟨h.1, fun va vb H Q q => ⟨x, y, z, h.2, q⟩⟩) R k
theorem ed_op {op : Operator} (ha : Ed X W Γ μ a x) (hb : Ed X W Γ μ b y) (hz : OpD X (binaryOp op) x y z) : Ed X W Γ μ (.BinOp a op b pos) z :=
  (ev_op (C := fun w => w = z) ha.ev hb.ev fun _ _ e1 e2 => ⟨z, rfl, by rw [e1, e2]; exact hz⟩).ed
theorem ev_cmp {op : CmpOp} (ha : Ev X W Γ μ a A) (hb : Ev X W Γ μ b B) (hz : ∀ x y, A x → B y → ∃ z, C z ∧ OpD X (compareOp op) x y z) (hm : behindInMarks op b = false := by first | exact nomark _ | rfl) : Ev X W Γ μ (.Compare a [op] [b] pos) C := fun σ H R Q k => by
  refine (pe_cmpR (rAny.ok (X := X)) wE.pe wE.pe hm).w ?_
  exact bin_ev (r := rAny X (compareOp op)) ha hb (fun x y px py => (hz x y px py).imp fun z h => ⟨h.1, fun va vb H Q q => ⟨x, y, z, h.2, q⟩⟩) R k
theorem ed_cmp {op : CmpOp} (ha : Ed X W Γ μ a x) (hb : Ed X W Γ μ b y) (hz : OpD X (compareOp op) x y z) (hm : behindInMarks op b = false := by first | exact nomark _ | rfl) : Ed X W Γ μ (.Compare a [op] [b] pos) z :=
  (ev_cmp (C := fun w => w = z) ha.ev hb.ev (fun _ _ e1 e2 => ⟨z, rfl, by rw [e1, e2]; exact hz⟩) hm).ed
/-- a subscript -/
theorem ev_ix (ha : Ev X W Γ μ a A) (hb : Ev X W Γ μ b B) (hz : ∀ x y, A x → B y → ∃ z, C z ∧ IxD X x y z) (hs : PlainIx b := by exact fun _ _ => rfl) : Ev X W Γ μ (.Subscript a b pos) C := fun σ H R Q k => by
  refine (pe_ix (rAnyI.ok (X := X)) wE.pe wE.pe hs).w ?_
  exact bin_ev (r := rAnyI X) ha hb (fun x y px py => (hz x y px py).imp fun z h => ⟨h.1, fun va vb H Q q => ⟨x, y, z, h.2, q⟩⟩) R k
theorem ed_ix (ha : Ed X W Γ μ a x) (hb : Ed X W Γ μ b y) (hz : IxD X x y z) (hs : PlainIx b := by exact fun _ _ => rfl) : Ed X W Γ μ (.Subscript a b pos) z :=
  (ev_ix (C := fun w => w = z) ha.ev hb.ev (fun _ _ e1 e2 => ⟨z, rfl, by rw [e1, e2]; exact hz⟩) hs).ed

/-! ### tests -/
theorem et_val {k : Bool} (h : Ed X W Γ μ e (.bool k)) (he : ∀ whole, isTrue e X.env whole = (do let v ← whole; standAt e.pos; holding [v] (truthy v)) := by intro _; rfl) : EdT X W Γ μ e k := fun σ H R Q q => by
  refine (pt_val wE.pe he).w ?_
  refine h σ H R _ fun v H2 R2 e2 r => ?_
  cases r
  exact ⟨k, rfl, q H2 R2 e2⟩
end
section
variable {X : Cx} {W : Wd} {Γ : List DV} {μ : Mu} {e a b : Expr} {rest : List Expr} {pos : Pos} {x y z : PyData} {k l : Bool}
theorem tc_ev {e : Expr} {P : Bool → Prop} {A B : PyData → Prop} {op : CmpOp} (ha : Ev X W Γ μ a A) (hb : Ev X W Γ μ b B) (hz : ∀ x y, A x → B y → ∃ k, P k ∧ OpD X (compareOp op) x y (.bool k)) (hm : behindInMarks op b = false := by first | exact nomark _ | rfl) : EvT X W Γ μ (.Compare a [op] [b] pos) P := fun σ H R Q q => by
  refine (pt_cmpR (rAny.ok (X := X)) wE.pe wE.pe hm).w ?_
  refine bin_ev (r := rAny X (compareOp op)) (C := fun z => ∃ k, z = .bool k ∧ P k) ha hb (fun x y px py => ?_) R fun v d H2 R2 e2 r p => ?_
  · obtain ⟨k, pk, o⟩ := hz x y px py
    exact ⟨.bool k, ⟨k, rfl, pk⟩, fun va vb H Q q => ⟨x, y, _, o, q⟩⟩
  · obtain ⟨k, rfl, pk⟩ := p
    cases r
    exact ⟨k, rfl, q k H2 R2 e2 pk⟩
/-- a comparison as a test -/
theorem tc {op : CmpOp} (ha : Ed X W Γ μ a x) (hb : Ed X W Γ μ b y) (hz : OpD X (compareOp op) x y (.bool k)) (hm : behindInMarks op b = false := by first | exact nomark _ | rfl) : EdT X W Γ μ (.Compare a [op] [b] pos) k := fun σ H R Q q =>
  tc_ev (e := a) (P := fun z => z = k) ha.ev hb.ev (fun _ _ e1 e2 => ⟨k, rfl, by rw [e1, e2]; exact hz⟩) hm σ H R Q fun b' H2 R2 e2 p => p ▸ q H2 R2 e2
theorem t_not (h : EdT X W Γ μ a k) : EdT X W Γ μ (.UnaryOp .Not a pos) (!k) := fun σ H R Q q => (pt_not wT.pt).w (h σ H R _ fun H2 R2 e2 => q H2 R2 e2)
theorem tv_not {P : Bool → Prop} (h : EvT X W Γ μ a fun k => P (!k)) : EvT X W Γ μ (.UnaryOp .Not a pos) P := fun σ H R Q q => (pt_not wT.pt).w (h σ H R _ fun b H2 R2 e2 p => q (!b) H2 R2 e2 p)
theorem tw_and1 (h : EdT X W Γ μ a k) : EdW X W Γ μ (.BoolOp .And [a] pos) k := fun σ H R Q q => (pw_and1 wT.pt).w (h σ H R Q q)
theorem tw_or1 (h : EdT X W Γ μ a k) : EdW X W Γ μ (.BoolOp .Or [a] pos) k := fun σ H R Q q => (pw_or1 wT.pt).w (h σ H R Q q)
theorem tw_and (h : EdT X W Γ μ a k) (h2 : k = true → EdW X W Γ μ (.BoolOp .And (b :: rest) pos) l) : EdW X W Γ μ (.BoolOp .And (a :: b :: rest) pos) (k && l) := fun σ H R Q q => (pw_and wT.pt wW.pw).w (h σ H R _ fun H2 R2 e2 => by
  cases k with
  | true => exact iteT (h2 rfl σ H2 R2 Q fun H3 R3 e3 => q H3 R3 (e2.trans e3))
  | false => exact iteF (q H2 R2 e2))
theorem tw_or (h : EdT X W Γ μ a k) (h2 : k = false → EdW X W Γ μ (.BoolOp .Or (b :: rest) pos) l) : EdW X W Γ μ (.BoolOp .Or (a :: b :: rest) pos) (k || l) := fun σ H R Q q => (pw_or wT.pt wW.pw).w (h σ H R _ fun H2 R2 e2 => by
  cases k with
  | true => exact iteT (q H2 R2 e2)
  | false => exact iteF (h2 rfl σ H2 R2 Q fun H3 R3 e3 => q H3 R3 (e2.trans e3)))
theorem EdW.t (h : EdW X W Γ μ e k) : EdT X W Γ μ e k := fun σ H R Q q => wW.pw.pt.w (h σ H R Q q)
theorem t_and (h : EdT X W Γ μ a k) (h2 : k = true → EdT X W Γ μ b l) : EdT X W Γ μ (.BoolOp .And [a, b] pos) (k && l) := (tw_and h fun e => tw_and1 (h2 e)).t
theorem t_or (h : EdT X W Γ μ a k) (h2 : k = false → EdT X W Γ μ b l) : EdT X W Γ μ (.BoolOp .Or [a, b] pos) (k || l) := (tw_or h fun e => tw_or1 (h2 e)).t
/-- with open answers -/
theorem tvw_and1 {P : Bool → Prop} (h : EvT X W Γ μ a P) : EvW X W Γ μ (.BoolOp .And [a] pos) P := fun σ H R Q q => (pw_and1 wT.pt).w (h σ H R Q q)
theorem tvw_or1 {P : Bool → Prop} (h : EvT X W Γ μ a P) : EvW X W Γ μ (.BoolOp .Or [a] pos) P := fun σ H R Q q => (pw_or1 wT.pt).w (h σ H R Q q)
theorem tvw_and {A P : Bool → Prop} (h : EvT X W Γ μ a A) (h2 : A true → EvW X W Γ μ (.BoolOp .And (b :: rest) pos) P) (h3 : A false → P false) : EvW X W Γ μ (.BoolOp .And (a :: b :: rest) pos) P := fun σ H R Q q => (pw_and wT.pt wW.pw).w (h σ H R _ fun k H2 R2 e2 p => by
  cases k with
  | true => exact iteT (h2 p σ H2 R2 Q fun b H3 R3 e3 p3 => q b H3 R3 (e2.trans e3) p3)
  | false => exact iteF (q false H2 R2 e2 (h3 p)))
theorem tvw_or {A P : Bool → Prop} (h : EvT X W Γ μ a A) (h2 : A false → EvW X W Γ μ (.BoolOp .Or (b :: rest) pos) P) (h3 : A true → P true) : EvW X W Γ μ (.BoolOp .Or (a :: b :: rest) pos) P := fun σ H R Q q => (pw_or wT.pt wW.pw).w (h σ H R _ fun k H2 R2 e2 p => by
  cases k with
  | true => exact iteT (q true H2 R2 e2 (h3 p))
  | false => exact iteF (h2 p σ H2 R2 Q fun b H3 R3 e3 p3 => q b H3 R3 (e2.trans e3) p3))
theorem EvW.t {P : Bool → Prop} (h : EvW X W Γ μ e P) : EvT X W Γ μ e P := fun σ H R Q q => wW.pw.pt.w (h σ H R Q q)
/-- .. as values -/
theorem ed_one {op} (h : Ed X W Γ μ a x) : Ed X W Γ μ (.BoolOp op [a] pos) x := fun σ H R Q q => (pe_one wE.pe).w (h σ H R Q q)
theorem ed_and (h : Ed X W Γ μ a (.bool k)) (h2 : k = true → Ed X W Γ μ (.BoolOp .And (b :: rest) pos) (.bool l)) : Ed X W Γ μ (.BoolOp .And (a :: b :: rest) pos) (.bool (k && l)) := fun σ H R Q q => (pe_and wE.pe wE.pe).w (h σ H R _ fun v H2 R2 e2 r => by
  cases r
  refine ⟨k, rfl, ?_⟩
  cases k with
  | true => exact iteT (h2 rfl σ H2 R2 Q fun v H3 R3 e3 r3 => q v H3 R3 (e2.trans e3) r3)
  | false => exact iteF (q _ H2 R2 e2 (.bl false)))
theorem ed_or (h : Ed X W Γ μ a (.bool k)) (h2 : k = false → Ed X W Γ μ (.BoolOp .Or (b :: rest) pos) (.bool l)) : Ed X W Γ μ (.BoolOp .Or (a :: b :: rest) pos) (.bool (k || l)) := fun σ H R Q q => (pe_or wE.pe wE.pe).w (h σ H R _ fun v H2 R2 e2 r => by
  cases r
  refine ⟨k, rfl, ?_⟩
  cases k with
  | true => exact iteT (q _ H2 R2 e2 (.bl true))
  | false => exact iteF (h2 rfl σ H2 R2 Q fun v H3 R3 e3 r3 => q v H3 R3 (e2.trans e3) r3))
theorem ed_not (h : Ed X W Γ μ a (.bool k)) : Ed X W Γ μ (.UnaryOp .Not a pos) (.bool (!k)) := fun σ H R Q q => (pe_not wE.pe).w (h σ H R _ fun v H2 R2 e2 r => by
  cases r
  exact ⟨k, rfl, q _ H2 R2 e2 (.bl _)⟩)
theorem ed_if {c : Expr} (h : EdT X W Γ μ c k) (h1 : k = true → Ed X W Γ μ a x) (h2 : k = false → Ed X W Γ μ b y) : Ed X W Γ μ (.IfExp c a b pos) (if k = true then x else y) := fun σ H R Q q => (pe_ifExp wT.pt wE.pe wE.pe).w (h σ H R _ fun H2 R2 e2 => by
  cases k with
  | true =>
    rw [if_pos rfl] at q
    exact iteT (h1 rfl σ H2 R2 Q fun v H3 R3 e3 r3 => q v H3 R3 (e2.trans e3) r3)
  | false =>
    rw [if_neg Bool.false_ne_true] at q
    exact iteF (h2 rfl σ H2 R2 Q fun v H3 R3 e3 r3 => q v H3 R3 (e2.trans e3) r3))
theorem ev_if {c : Expr} {A : Bool → Prop} {P : PyData → Prop} (h : EvT X W Γ μ c A) (h1 : A true → Ev X W Γ μ a P) (h2 : A false → Ev X W Γ μ b P) : Ev X W Γ μ (.IfExp c a b pos) P := fun σ H R Q q => (pe_ifExp wT.pt wE.pe wE.pe).w (h σ H R _ fun k H2 R2 e2 p => by
  cases k with
  | true => exact iteT (h1 p σ H2 R2 Q fun v d H3 R3 e3 r3 p3 => q v d H3 R3 (e2.trans e3) r3 p3)
  | false => exact iteF (h2 p σ H2 R2 Q fun v d H3 R3 e3 r3 p3 => q v d H3 R3 (e2.trans e3) r3 p3))
theorem ed_chain {c : Expr} {op op' : CmpOp} {w : PyData} (ha : Ed X W Γ μ a x) (hb : Ed X W Γ μ b y) (hc : k = true → Ed X W Γ μ c w) (hz : OpD X (compareOp op) x y (.bool k)) (hz' : OpD X (compareOp op') y w (.bool l)) (hm : lastMarks [op, op'] [b, c] = false := by with_unfolding_all rfl) :
    Ed X W Γ μ (.Compare a [op, op'] [b, c] pos) (.bool (k && l)) := fun σ H R Q q => (pe_chain hz hz' wE.pe wE.pe wE.pe hm).w (ha σ H R _ fun v H2 R2 e2 r2 => hb σ H2 R2 _ fun u H3 R3 e3 r3 => ⟨hd W μ, R3.ne, r2.up e3, r3, fun t H4 e4 r4 => by
  cases r4
  refine ⟨k, rfl, ?_⟩
  have R4 := R3.same e4
  cases k with
  | true =>
    refine iteT (hc rfl σ H4 R4 _ fun t H5 R5 e5 r5 => ⟨hd W μ, R5.ne, (r3.up (XT.same e4)).up e5, r5, fun t' H6 e6 r6 => q t' H6 (R5.same e6) ((((e2.trans e3).trans (XT.same e4)).trans e5).trans (XT.same e6)) r6⟩)
  | false => exact iteF (q _ H4 R4 ((e2.trans e3).trans (XT.same e4)) (.bl false))⟩)

theorem tc_chain {c : Expr} {op op' : CmpOp} {w : PyData} (ha : Ed X W Γ μ a x) (hb : Ed X W Γ μ b y) (hc : k = true → Ed X W Γ μ c w) (hz : OpD X (compareOp op) x y (.bool k)) (hz' : OpD X (compareOp op') y w (.bool l)) (hm : lastMarks [op, op'] [b, c] = false := by with_unfolding_all rfl) :
    EdT X W Γ μ (.Compare a [op, op'] [b, c] pos) (k && l) := fun σ H R Q q => (pt_chain hz hz' wE.pe wE.pe wE.pe hm).w (ha σ H R _ fun v H2 R2 e2 r2 => hb σ H2 R2 _ fun u H3 R3 e3 r3 => ⟨hd W μ, R3.ne, r2.up e3, r3, fun t H4 e4 r4 => by
  cases r4
  refine ⟨k, rfl, ?_⟩
  have R4 := R3.same e4
  cases k with
  | true =>
    refine iteT (hc rfl σ H4 R4 _ fun t H5 R5 e5 r5 => ⟨hd W μ, R5.ne, (r3.up (XT.same e4)).up e5, r5, fun t' H6 e6 r6 => ?_⟩)
    cases r6
    exact ⟨l, rfl, q H6 (R5.same e6) ((((e2.trans e3).trans (XT.same e4)).trans e5).trans (XT.same e6))⟩
  | false => exact iteF ⟨false, rfl, q H4 R4 ((e2.trans e3).trans (XT.same e4))⟩⟩)

/-! ### arguments, calls -/
theorem ea_nil : EdA X W Γ μ [] [] := fun σ H R Q q => pa_nil.w (q [] H R XT.refl .nil)
theorem ea_cons {es : List Expr} {ds : List PyData} (h : Ed X W Γ μ e x) (hr : EdA X W Γ μ es ds) (hs : starEach (e :: es) X.env = (false, eval e X.env) :: starEach es X.env := by rfl) : EdA X W Γ μ (e :: es) (x :: ds) := fun σ H R Q q =>
  (pa_cons wE.pe wA.pa hs).w (h σ H R _ fun v H2 R2 e2 r2 => hr σ H2 R2 _ fun vs H3 R3 e3 r3 => q _ H3 R3 (e2.trans e3) (.cons (r2.up e3) r3))
theorem eva_cons {es : List Expr} {A : PyData → Prop} {As : List PyData → Prop} (h : Ev X W Γ μ e A) (hr : EvA X W Γ μ es As) (hs : starEach (e :: es) X.env = (false, eval e X.env) :: starEach es X.env := by rfl) : EvA X W Γ μ (e :: es) (fun l => ∃ x r, l = x :: r ∧ A x ∧ As r) := fun σ H R Q q =>
  (pa_cons wE.pe wA.pa hs).w (h σ H R _ fun v d H2 R2 e2 r2 p2 => hr σ H2 R2 _ fun vs ds H3 R3 e3 r3 p3 => q _ _ H3 R3 (e2.trans e3) (.cons (r2.up e3) r3) ⟨_, _, rfl, p2, p3⟩)
theorem eva_nil : EvA X W Γ μ [] (fun l => l = []) := fun σ H R Q q => pa_nil.w (q [] [] H R XT.refl .nil rfl)
/-- a tuple, a list displayed -/
theorem ed_tup {es : List Expr} {ds : List PyData} {x1} (h : EdA X W Γ μ es ds) (hl : ds.length ≤ 1000) : Ed X W Γ μ (.Tuple es x1 pos) (.tuple ds) := fun σ H R Q q =>
  (pe_tup wA.pa).w (h σ H R _ fun vs H2 R2 e2 r2 => ⟨by rw [r2.length]; exact Nat.le_trans hl (by decide), fun p hp => by
    have s := same_new (o := .tup vs) hp
    exact q _ _ (R2.same s) (e2.trans (XT.same s)) (.tup (.inl (.inl (off_upd (new_out R2.ne hp)))) (r2.up (XT.same s)))⟩)
theorem ed_lst {es : List Expr} {ds : List PyData} (h : EdA X W Γ μ es ds) (hl : ds.length ≤ 1000) : Ed X W Γ μ (.List es pos) (.list ds) := fun σ H R Q q =>
  (pe_lst wA.pa).w (h σ H R _ fun vs H2 R2 e2 r2 => ⟨by rw [r2.length]; exact Nat.le_trans hl (by decide), fun p hp => by
    have s := same_new (o := .lst vs) hp
    exact q _ _ (R2.same s) (e2.trans (XT.same s)) (.lst (off_upd (new_out R2.ne hp)) (r2.up (XT.same s)))⟩)
theorem ev_lst {es : List Expr} {As : List PyData → Prop} (h : EvA X W Γ μ es As) (hl : ∀ ds, As ds → ds.length ≤ 1000) : Ev X W Γ μ (.List es pos) (fun z => ∃ ds, z = .list ds ∧ As ds) := fun σ H R Q q =>
  (pe_lst wA.pa).w (h σ H R _ fun vs ds H2 R2 e2 r2 p2 => ⟨by rw [r2.length]; exact Nat.le_trans (hl ds p2) (by decide), fun p hp => by
    have s := same_new (o := .lst vs) hp
    exact q _ _ _ (R2.same s) (e2.trans (XT.same s)) (.lst (off_upd (new_out R2.ne hp)) (r2.up (XT.same s))) ⟨ds, rfl, p2⟩⟩)
/-- a built-in function on data -/
def rDc (K : PySem.W.Frag) (ds : List PyData) (z : PyData) : List V → Hp → VK → Prop := fun vs H Q => ∃ L : List Addr, (∀ l ∈ L, H l ≠ none) ∧ VaAll K (off L H) vs ds ∧ ∀ v H2, Same H H2 → Va K (off L H2) v z → Q v H2
def CallD (X : Cx) (f : Value) (ds : List PyData) (z : PyData) : Prop := CallR X f (rDc X.K ds z)
theorem CallR.to {f : Value} {r r' : List V → Hp → VK → Prop} (h : CallR X f r) (i : ∀ vs H Q, r' vs H Q → r vs H Q) : CallR X f r' := fun pins s σ H vs us Q I rv q => h pins s σ H vs us Q I rv (i _ _ _ q)
theorem ev_callB {n : Str} {id : String} {es : List Expr} {As : List PyData → Prop} {C : PyData → Prop} {p : Pos} (hm : X.mg n = none) (hv : bootBuiltins n = some (.builtin id)) (ha : EvA X W Γ μ (e :: es) As) (hz : ∀ ds, As ds → ∃ z, C z ∧ CallD X (.builtin id) ds z) (hg : Gl X n := by rfl)
    (hn : n ≠ "__name__" := by decide) (hdb : (n == ("__debug__" : Str)) = false := by decide)
    (he : starEach (e :: es) X.env = (false, eval e X.env) :: starEach es X.env := by rfl) (hpl : (backTo pos (starEach es X.env)).any (·.1) = false := by rfl) : Ev X W Γ μ (.Call (.Name n p) (e :: es) [] pos) C := fun σ H R Q q =>
  (pe_callB (r := fun vs H Q => ∃ ds z, CallD X (.builtin id) ds z ∧ rDc X.K ds z vs H Q) (fun pins s σ H vs us Q I rv ⟨_, _, o, q⟩ => o pins s σ H vs us Q I rv q) hg hm hv wA.pa hn hdb he hpl).w
    (ha σ H R _ fun vs ds H2 R2 e2 r2 p2 => by
      obtain ⟨z, pz, o⟩ := hz ds p2
      exact ⟨ds, z, o, hd W μ, R2.ne, r2, fun v H3 e3 r3 => q v z H3 (R2.same e3) (e2.trans (XT.same e3)) r3 pz⟩)
theorem ed_callB {n : Str} {id : String} {es : List Expr} {ds : List PyData} {p : Pos} (hm : X.mg n = none) (hv : bootBuiltins n = some (.builtin id)) (ha : EdA X W Γ μ (e :: es) ds) (hz : CallD X (.builtin id) ds z) (hg : Gl X n := by rfl)
    (hn : n ≠ "__name__" := by decide) (hdb : (n == ("__debug__" : Str)) = false := by decide)
    (he : starEach (e :: es) X.env = (false, eval e X.env) :: starEach es X.env := by rfl) (hpl : (backTo pos (starEach es X.env)).any (·.1) = false := by rfl) : Ed X W Γ μ (.Call (.Name n p) (e :: es) [] pos) z :=
  (ev_callB (C := fun w => w = z) hm hv (ha.ev (P := fun l => l = ds) rfl) (fun _ e => ⟨z, rfl, e ▸ hz⟩) hg hn hdb he hpl).ed
theorem ev_callT {n : Str} {id : String} {es : List Expr} {As : List PyData → Prop} {C : PyData → Prop} {p : Pos} (hm : X.mg n = none) (hv : bootBuiltins n = some (.type id)) (ha : EvA X W Γ μ (e :: es) As) (hz : ∀ ds, As ds → ∃ z, C z ∧ CallD X (.type id) ds z) (hg : Gl X n := by rfl)
    (hn : n ≠ "__name__" := by decide) (hdb : (n == ("__debug__" : Str)) = false := by decide)
    (he : starEach (e :: es) X.env = (false, eval e X.env) :: starEach es X.env := by rfl) (hpl : (backTo pos (starEach es X.env)).any (·.1) = false := by rfl) : Ev X W Γ μ (.Call (.Name n p) (e :: es) [] pos) C := fun σ H R Q q =>
  (pe_callTy (r := fun vs H Q => ∃ ds z, CallD X (.type id) ds z ∧ rDc X.K ds z vs H Q) (fun pins s σ H vs us Q I rv ⟨_, _, o, q⟩ => o pins s σ H vs us Q I rv q) hg hm hv wA.pa hn hdb he hpl).w
    (ha σ H R _ fun vs ds H2 R2 e2 r2 p2 => by
      obtain ⟨z, pz, o⟩ := hz ds p2
      exact ⟨ds, z, o, hd W μ, R2.ne, r2, fun v H3 e3 r3 => q v z H3 (R2.same e3) (e2.trans (XT.same e3)) r3 pz⟩)
theorem ed_callT {n : Str} {id : String} {es : List Expr} {ds : List PyData} {p : Pos} (hm : X.mg n = none) (hv : bootBuiltins n = some (.type id)) (ha : EdA X W Γ μ (e :: es) ds) (hz : CallD X (.type id) ds z) (hg : Gl X n := by rfl)
    (hn : n ≠ "__name__" := by decide) (hdb : (n == ("__debug__" : Str)) = false := by decide)
    (he : starEach (e :: es) X.env = (false, eval e X.env) :: starEach es X.env := by rfl) (hpl : (backTo pos (starEach es X.env)).any (·.1) = false := by rfl) : Ed X W Γ μ (.Call (.Name n p) (e :: es) [] pos) z :=
  (ev_callT (C := fun w => w = z) hm hv (ha.ev (P := fun l => l = ds) rfl) (fun _ e => ⟨z, rfl, e ▸ hz⟩) hg hn hdb he hpl).ed

end
end HW
set_option maxHeartbeats 4000000
namespace HW
open PySem PySem.Spec PyProof.Rows L2

/-! ### a local object is hidden, and told again -/
section
variable {K : PySem.W.Frag} {H H' : Hp} {W W' : Wd} {Γ Γ' : List DV} {μ : Mu} {σ σ' : L2.St} {D : Addr} {m : MO}
def Wd.park (W : Wd) (μ : Mu) (D : Addr) (H : Hp) : Wd := ⟨off (μ.map (·.1)) H, D :: W.M, W.row⟩
theorem mem_park {a : Addr} : a ∈ hd (W.park μ D H) μ ↔ a ∈ hd W ((D, m) :: μ) := by
  unfold Wd.park hd
  simp only [List.mem_append, List.mem_cons, List.map_cons]
  constructor
  · rintro ((h | h) | h)
    · exact .inr (.inl h)
    · exact .inl h
    · exact .inr (.inr h)
  · rintro (h | h | h)
    · exact .inl (.inr h)
    · exact .inl (.inl h)
    · exact .inr h
theorem off_cong {L L' : List Addr} (h : ∀ a, a ∈ L ↔ a ∈ L') : off L H = off L' H := by
  funext a
  unfold off
  by_cases q : a ∈ L
  · rw [if_pos q, if_pos ((h a).mp q)]
  · rw [if_neg q, if_neg (fun z => q ((h a).mpr z))]
theorem Rep.isRow_M (wd : WdOk K W) {a : Addr} (h : W.isRow a) : a ∈ W.M := by
  obtain ⟨scr, ns, e⟩ := h
  exact (wd.row _ _ _ e).1
theorem Rep.park (R : Rep K W Γ ((D, m) :: μ) σ H) : Rep K (W.park μ D H) Γ μ σ H := by
  have hD : W.H0 D = none ∧ MOk K (off (hd W ((D, m) :: μ)) H) H D m := R.mu (D, m) List.mem_cons_self
  have nd : D ∉ μ.map (·.1) ∧ (μ.map (·.1)).Nodup := by
    have := R.nd
    rw [List.map_cons] at this
    exact List.nodup_cons.mp this
  have nmu : ∀ a, W.H0 a ≠ none → a ∉ μ.map (·.1) := fun a h q => by
    obtain ⟨p, hp, rfl⟩ := List.mem_map.mp q
    exact h (R.mu p (List.mem_cons_of_mem _ hp)).1
  have oc : off (hd W ((D, m) :: μ)) H = off (hd (W.park μ D H) μ) H := off_cong fun a => (mem_park (m := m)).symm
  refine ⟨⟨fun a ha => ?_, fun r scr ns q => ?_⟩, ⟨fun a o n q => (off_some q).2, R.fr.row⟩, oc ▸ R.sl, fun p hp => ⟨off_in (List.mem_map.mpr ⟨p, hp, rfl⟩), oc ▸ (R.mu p (List.mem_cons_of_mem _ hp)).2⟩, nd.2⟩
  · show off (μ.map (·.1)) H a ≠ none
    rcases List.mem_cons.mp ha with h | h
    · rw [h, off_out nd.1]
      exact hD.2.ne
    · rw [off_out (nmu a (R.wd.hid a h))]
      exact R.fr.dom (R.wd.hid a h)
  · obtain ⟨h1, h2, h3, h4⟩ := R.wd.row r scr ns q
    refine ⟨List.mem_cons_of_mem _ h1, SqL.up (fun o e => ?_) h2, h3, h4⟩
    show off (μ.map (·.1)) H scr = some o
    rw [off_out (nmu scr (by rw [e]; simp))]
    refine R.fr.keep scr o (fun ⟨s2, n2, z⟩ => ?_) e
    have q' : W.row = some (r, scr, ns) := q
    rw [q'] at z
    cases z
    exact h3 rfl
/-- what stood off the hidden objects stands -/
theorem park_xt (R : Rep K W Γ ((D, m) :: μ) σ H) (R' : Rep K (W.park μ D H) Γ' μ σ' H') : XT (hd W ((D, m) :: μ)) H H' := fun a o e => by
  obtain ⟨h1, h2⟩ := off_some e
  rw [off_out h1]
  refine R'.fr.keep a o (fun q => h1 ((mem_park (m := m)).mp (List.mem_append_left _ (Rep.isRow_M R'.wd q)))) ?_
  show off (μ.map (·.1)) H a = some o
  rw [off_out (fun q => h1 (List.mem_append_right _ (by rw [List.map_cons]; exact List.mem_cons_of_mem _ q)))]
  exact h2
theorem Rep.unpark (R : Rep K W Γ ((D, m) :: μ) σ H) (R' : Rep K (W.park μ D H) Γ' μ σ' H') : Rep K W Γ' ((D, m) :: μ) σ' H' := by
  have hD : W.H0 D = none ∧ MOk K (off (hd W ((D, m) :: μ)) H) H D m := R.mu (D, m) List.mem_cons_self
  have oc : off (hd (W.park μ D H) μ) H' = off (hd W ((D, m) :: μ)) H' := off_cong fun a => mem_park (m := m)
  have xt := park_xt R R'
  have nd : D ∉ μ.map (·.1) ∧ (μ.map (·.1)).Nodup := by
    have := R.nd
    rw [List.map_cons] at this
    exact List.nodup_cons.mp this
  have nrow : ¬ (W.park μ D H).isRow D := fun ⟨scr, ns, e⟩ => (R.wd.hid D (R.wd.row _ _ _ e).1) hD.1
  have keepD : ∀ o, H D = some o → H' D = some o := fun o e => R'.fr.keep D o nrow (by
    show off (μ.map (·.1)) H D = some o
    rw [off_out nd.1]
    exact e)
  have nmu : ∀ a, W.H0 a ≠ none → a ∉ μ.map (·.1) := fun a h q => by
    obtain ⟨p, hp, rfl⟩ := List.mem_map.mp q
    exact h (R.mu p (List.mem_cons_of_mem _ hp)).1
  refine ⟨R.wd, ⟨fun a o n q => ?_, R'.fr.row⟩, oc ▸ R'.sl, fun p hp => ?_, R.nd⟩
  · refine R'.fr.keep a o n ?_
    show off (μ.map (·.1)) H a = some o
    rw [off_out (nmu a (by rw [q]; simp))]
    exact R.fr.keep a o n q
  · rcases List.mem_cons.mp hp with h | h
    · rw [h]
      exact ⟨hD.1, hD.2.up xt keepD⟩
    · exact ⟨(R.mu p hp).1, oc ▸ (R'.mu p h).2⟩
theorem park_le (R : Rep K W Γ ((D, m) :: μ) σ H) : Wle W (W.park μ D H) := ⟨fun a h => List.mem_cons_of_mem _ h, rfl, fun a o n h => by
  show off (μ.map (·.1)) H a = some o
  rw [off_out fun q => by
    obtain ⟨p, hp, z⟩ := List.mem_map.mp q
    have := (R.mu p (List.mem_cons_of_mem _ hp)).1
    rw [z, h] at this
    cases this]
  exact R.fr.keep a o n h⟩
/-- a new local object -/
theorem Rep.born (R : Rep K W Γ μ σ H) {o : HO} (hp : H D = none) (hm : MOk K (off (hd W μ) H) (upd H D o) D m) : Rep K W Γ ((D, m) :: μ) σ (upd H D o) := by
  have s := same_new (o := o) hp
  have nD : D ∉ hd W μ := new_out R.ne hp
  have sub : Same (off (hd W μ) H) (off (hd W ((D, m) :: μ)) (upd H D o)) := fun a u e => by
    obtain ⟨h1, h2⟩ := off_some e
    have na : a ≠ D := fun q => by rw [q, hp] at h2; cases h2
    rw [off_out (fun q => by
      rcases List.mem_append.mp q with z | z
      · exact h1 (List.mem_append_left _ z)
      · rw [List.map_cons] at z
        rcases List.mem_cons.mp z with z | z
        · exact na z
        · exact h1 (List.mem_append_right _ z)), upd_ne na]
    exact h2
  have h0 : W.H0 D = none := by
    cases e : W.H0 D with
    | none => rfl
    | some u => exact absurd hp (R.fr.dom (by rw [e]; simp))
  refine ⟨R.wd, R.fr.same s, R.sl.up sub, fun p hp' => ?_, ?_⟩
  · rcases List.mem_cons.mp hp' with h | h
    · rw [h]
      exact ⟨h0, hm.up sub fun _ z => z⟩
    · exact ⟨(R.mu p h).1, (R.mu p h).2.up sub fun u e => s _ _ e⟩
  · rw [List.map_cons]
    exact List.nodup_cons.mpr ⟨fun q => nD (List.mem_append_right _ q), R.nd⟩
/-- a local object changes -/
theorem Rep.chg {j : Nat} {m' : MO} (R : Rep K W Γ μ σ H) {o : HO} (hj : μ[j]? = some (D, m)) (hm : MOk K (off (hd W μ) H) (upd H D o) D m') : Rep K W Γ (μ.set j (D, m')) σ (upd H D o) := by
  have hmem : (D, m) ∈ μ := List.mem_of_getElem? hj
  have h0 : W.H0 D = none := (R.mu _ hmem).1
  have keys : (μ.set j (D, m')).map (·.1) = μ.map (·.1) := by
    rw [List.map_set]
    obtain ⟨hl, he⟩ := List.getElem?_eq_some_iff.mp hj
    apply List.ext_getElem (by simp)
    intro i h1 h2
    by_cases q : i = j
    · subst q
      simp [he]
    · rw [List.getElem_set_ne (Ne.symm q)]
  have hh : hd W (μ.set j (D, m')) = hd W μ := by unfold hd; rw [keys]
  have inD : D ∈ hd W μ := List.mem_append_right _ (List.mem_map.mpr ⟨_, hmem, rfl⟩)
  have oe : off (hd W μ) (upd H D o) = off (hd W μ) H := by
    funext a
    unfold off
    by_cases q : a ∈ hd W μ
    · rw [if_pos q, if_pos q]
    · rw [if_neg q, if_neg q, upd_ne (fun (z : a = D) => q (by rw [z]; exact inD))]
  have nrow : ¬ W.isRow D := fun ⟨scr, ns, e⟩ => (R.wd.hid D (R.wd.row _ _ _ e).1) h0
  refine ⟨R.wd, ⟨fun a u n e => ?_, fun r scr ns e => ?_⟩, ?_, fun p hp => ?_, by rw [keys]; exact R.nd⟩
  · rw [upd_ne (fun z => by rw [z, h0] at e; cases e)]
    exact R.fr.keep a u n e
  · obtain ⟨i, s, q, e1, e2⟩ := R.fr.row r scr ns e
    refine ⟨i, s, q, ?_, e2⟩
    rw [upd_ne (fun (z : r = D) => nrow ⟨scr, ns, by rw [← z]; exact e⟩)]
    exact e1
  · rw [hh, oe]
    exact R.sl
  · rw [hh, oe]
    obtain ⟨i, hi⟩ := List.getElem?_of_mem hp
    by_cases q : i = j
    · subst q
      rw [List.getElem?_set_self (List.getElem?_eq_some_iff.mp hj).1] at hi
      cases hi
      exact ⟨h0, hm⟩
    · rw [List.getElem?_set_ne (Ne.symm q)] at hi
      have hp' : p ∈ μ := List.mem_of_getElem? hi
      have ne : p.1 ≠ D := fun z => by
        have n := R.nd
        have e1 : (μ.map (·.1))[i]? = some D := by rw [List.getElem?_map, hi]; exact congrArg some z
        have e2 : (μ.map (·.1))[j]? = some D := by rw [List.getElem?_map, hj]; rfl
        exact q (nd_ix n e1 e2)
      refine ⟨(R.mu p hp').1, (R.mu p hp').2.up (Same.refl _) fun u e => ?_⟩
      rw [upd_ne ne]
      exact e
end

/-! ### statements -/
/-- the state is one of Φ, in the world W -/
def StP (K : PySem.W.Frag) (W : Wd) (Φ : List DV → Mu → Prop) : L2.St → Hp → Prop := fun σ H => ∃ Γ μ, Φ Γ μ ∧ Rep K W Γ μ σ H
def Run (X : Cx) (W : Wd) (Γ : List DV) (μ : Mu) (sts : List Stmt) (D : Ends) : Prop := ∀ σ H, Rep X.K W Γ μ σ H → wSs X sts D σ H
/-- what a def hands back: data with P, all else as it was -/
def RetP (K : PySem.W.Frag) (W : Wd) (P : PyData → Prop) : VK := fun v H => Fr W H ∧ ∃ d, P d ∧ Va K (off W.M H) v d
section
variable {X : Cx} {W W0 : Wd} {Γ : List DV} {μ : Mu} {e c : Expr} {rest sts a b : List Stmt} {D : Ends} {d : PyData} {P : PyData → Prop} {pos p : Pos}
theorem run_nil (h : ∀ σ H, Rep X.K W Γ μ σ H → D.nx σ H) : Run X W Γ μ [] D := fun σ H R => pss_nil.w (h σ H R)
theorem run_pass (h : Run X W Γ μ rest D) : Run X W Γ μ (.Pass pos :: rest) D := fun σ H R => wSs_cons (ps_pass.w (h σ H R))
/-- x = e -/
theorem run_setP (i : Nat) {n : Str} (he : Ev X W Γ μ e P) (h : ∀ d, P d → Run X W (Γ.set i (.d d)) μ rest D) (nd : X.N.Nodup) (hN : X.N[i]? = some n := by rfl) (hx : Loc X.env.scope n := by first | exact Or.inl rfl | exact Or.inr rfl)
    (hs : swapsWith e (some (.Name n p)) pos.line X.env = pure false := by rfl) (hf : X.fn n = true ∨ X.env.scope.names.lookup n = some .local := by first | exact .inr rfl | exact .inl rfl) : Run X W Γ μ (.Assign [.Name n p] e pos :: rest) D := fun σ H R =>
  wSs_cons ((ps_set nd hN hx wE.pe hs hf).w (he σ H R _ fun v d H2 R2 e2 r p => h d p _ _ ⟨R2.wd, R2.fr, R2.sl.set i r, R2.mu, R2.nd⟩))
theorem run_set (i : Nat) {n : Str} (he : Ed X W Γ μ e d) (h : Run X W (Γ.set i (.d d)) μ rest D) (nd : X.N.Nodup) (hN : X.N[i]? = some n := by rfl) (hx : Loc X.env.scope n := by first | exact Or.inl rfl | exact Or.inr rfl)
    (hs : swapsWith e (some (.Name n p)) pos.line X.env = pure false := by rfl) (hf : X.fn n = true ∨ X.env.scope.names.lookup n = some .local := by first | exact .inr rfl | exact .inl rfl) : Run X W Γ μ (.Assign [.Name n p] e pos :: rest) D :=
  run_setP i he.ev (fun _ q => q ▸ h) nd hN hx hs hf
/-- x = [] : a local list -/
theorem run_newL (i : Nat) {n : Str} {p2 : Pos} (h : ∀ l, Run X W (Γ.set i (.r l)) ((l, .lst []) :: μ) rest D) (nd : X.N.Nodup) (hN : X.N[i]? = some n := by rfl) (hx : Loc X.env.scope n := by first | exact Or.inl rfl | exact Or.inr rfl)
    (hs : swapsWith (.List [] p2) (some (.Name n p)) pos.line X.env = pure false := by rfl) (hf : X.fn n = true ∨ X.env.scope.names.lookup n = some .local := by first | exact .inr rfl | exact .inl rfl) : Run X W Γ μ (.Assign [.Name n p] (.List [] p2) pos :: rest) D := fun σ H R =>
  wSs_cons ((ps_set nd hN hx (pe_lst pa_nil) hs hf).w ⟨Nat.zero_le _, fun l hl => h l _ _ (by
    have R1 := R.born (m := .lst []) (o := .lst []) hl ⟨[], upd_same, .nil⟩
    exact ⟨R1.wd, R1.fr, R1.sl.setr i, R1.mu, R1.nd⟩)⟩)
/-- l.append(e) -/
theorem run_appP (i j : Nat) {n : Str} {l : Addr} {ys : List PyData} {p1 p2 p3 : Pos} (he : Ev X W Γ μ e P) (hl : ys.length < 16777216) (h : ∀ d, P d → Run X W Γ (μ.set j (l, .lst (ys ++ [d]))) rest D)
    (hi : Γ[i]? = some (.r l) := by rfl) (hj : μ[j]? = some (l, .lst ys) := by rfl) (hN : X.N[i]? = some n := by rfl) (hv : Vis X.env.scope n := by first | exact Or.inl rfl | exact Or.inr (Or.inl rfl) | exact Or.inr (Or.inr rfl))
    (h1 : (n == ("__debug__" : Str)) = false := by decide) (h2 : (n == ("__classdict__" : Str)) = false := by decide)
    (hbase : attributeBase (.Name n p1) "append" X.env (eval (.Name n p1) X.env) = eval (.Name n p1) X.env := by rfl)
    (hfew : ((backTo p3 (starEach [e] X.env)).all (fun x => !x.1) && (backToKw p3 (keywordEach [] X.env)).all (fun x => x.1.isSome)
      && decide ([e].length + ([] : List Keyword).length + (if ([] : List Keyword).isEmpty then 0 else 1) < 30)) = true := by rfl)
    (hline : (p2.endLine == p3.line) = true := by rfl) (hs : starEach [e] X.env = (false, eval e X.env) :: starEach [] X.env := by rfl) (hplain : (backTo p3 (starEach [] X.env)).any (·.1) = false := by rfl)
    (hsw : swapsWith (.Call (.Attribute (.Name n p1) "append" p2) [e] [] p3) none pos.line X.env = pure false := by rfl) :
    Run X W Γ μ (.Expr (.Call (.Attribute (.Name n p1) "append" p2) [e] [] p3) pos :: rest) D := fun σ H R => by
  refine wSs_cons ((ps_expr (pe_bm PySem.F.plainAttrs_list PySem.F.slot_list_append PySem.F.type_list_append mt_append (pe_var hN hv h1 h2) (pa_cons wE.pe pa_nil hs) hbase hfew hline hs hplain) hsw).w ?_)
  obtain ⟨o, e1, e2⟩ := R.sl.at_ i _ hi
  have e2' : o = some (.ref l) := e2
  subst e2'
  have hmem : (l, MO.lst ys) ∈ μ := List.mem_of_getElem? hj
  obtain ⟨xs, hx, _⟩ := (R.mu _ hmem).2
  refine ⟨_, e1, .inl ⟨rfl, _, SqL.of hx⟩, ?_⟩
  refine he σ H R _ fun v d H2 R2 e2 r p => ?_
  obtain ⟨xs2, hx2, hv2⟩ := (R2.mu _ hmem).2
  refine ⟨l, xs2, v, rfl, rfl, hx2, by rw [hv2.length]; exact hl, ?_⟩
  exact h d p _ _ (R2.chg hj ⟨xs2 ++ [v], upd_same, hv2.app (.cons r .nil)⟩)
theorem run_app (i j : Nat) {n : Str} {l : Addr} {ys : List PyData} {p1 p2 p3 : Pos} (he : Ed X W Γ μ e d) (hl : ys.length < 16777216) (h : Run X W Γ (μ.set j (l, .lst (ys ++ [d]))) rest D)
    (hi : Γ[i]? = some (.r l) := by rfl) (hj : μ[j]? = some (l, .lst ys) := by rfl) (hN : X.N[i]? = some n := by rfl) (hv : Vis X.env.scope n := by first | exact Or.inl rfl | exact Or.inr (Or.inl rfl) | exact Or.inr (Or.inr rfl))
    (h1 : (n == ("__debug__" : Str)) = false := by decide) (h2 : (n == ("__classdict__" : Str)) = false := by decide)
    (hbase : attributeBase (.Name n p1) "append" X.env (eval (.Name n p1) X.env) = eval (.Name n p1) X.env := by rfl)
    (hfew : ((backTo p3 (starEach [e] X.env)).all (fun x => !x.1) && (backToKw p3 (keywordEach [] X.env)).all (fun x => x.1.isSome)
      && decide ([e].length + ([] : List Keyword).length + (if ([] : List Keyword).isEmpty then 0 else 1) < 30)) = true := by rfl)
    (hline : (p2.endLine == p3.line) = true := by rfl) (hs : starEach [e] X.env = (false, eval e X.env) :: starEach [] X.env := by rfl) (hplain : (backTo p3 (starEach [] X.env)).any (·.1) = false := by rfl)
    (hsw : swapsWith (.Call (.Attribute (.Name n p1) "append" p2) [e] [] p3) none pos.line X.env = pure false := by rfl) :
    Run X W Γ μ (.Expr (.Call (.Attribute (.Name n p1) "append" p2) [e] [] p3) pos :: rest) D :=
  run_appP i j he.ev hl (fun _ q => q ▸ h) hi hj hN hv h1 h2 hbase hfew hline hs hplain hsw
/-- a local list is from now on data -/
theorem Rep.freeze {K : PySem.W.Frag} {H : Hp} {σ : L2.St} {l : Addr} {ys : List PyData} (R : Rep K W Γ ((l, .lst ys) :: μ) σ H) : ∃ xs, H l = some (.lst xs) ∧ VaAll K (off (hd W μ) H) xs ys ∧ l ∉ hd W μ ∧ Slots K (off (hd W μ) H) σ Γ := by
  obtain ⟨h0, xs, hx, hv⟩ := R.mu _ List.mem_cons_self
  have sub : Same (off (hd W ((l, .lst ys) :: μ)) H) (off (hd W μ) H) := same_offs fun a ha => by
    rcases List.mem_append.mp ha with z | z
    · exact List.mem_append_left _ z
    · exact List.mem_append_right _ (by rw [List.map_cons]; exact List.mem_cons_of_mem _ z)
  have nd := R.nd
  rw [List.map_cons] at nd
  refine ⟨xs, hx, hv.up sub, fun q => ?_, R.sl.up sub⟩
  rcases List.mem_append.mp q with z | z
  · exact R.wd.hid l z h0
  · exact (List.nodup_cons.mp nd).1 z
/-- the i-th slot's local list becomes data -/
theorem run_fix (i : Nat) {l : Addr} {ys : List PyData} (h : Run X W (Γ.set i (.d (.list ys))) μ sts D) (hi : Γ[i]? = some (.r l) := by rfl) : Run X W Γ ((l, .lst ys) :: μ) sts D := fun σ H R => by
  obtain ⟨xs, hx, hv, nl, sl⟩ := R.freeze
  obtain ⟨o, e1, e2⟩ := R.sl.at_ i _ hi
  have e2' : o = some (.ref l) := e2
  subst e2'
  have s2 := sl.set i (Va.lst (off_out nl |>.trans hx) hv)
  have es : σ.set i (some (.ref l)) = σ := by
    apply List.ext_getElem? 
    intro k
    by_cases q : k = i
    · subst q
      have hl := (List.getElem?_eq_some_iff.mp e1).1
      rw [List.getElem?_set_self hl, e1]
    · rw [List.getElem?_set_ne (Ne.symm q)]
  rw [es] at s2
  have nd := R.nd
  rw [List.map_cons] at nd
  refine h σ H ⟨R.wd, R.fr, s2, fun p hp => ⟨(R.mu p (List.mem_cons_of_mem _ hp)).1, (R.mu p (List.mem_cons_of_mem _ hp)).2.up (same_offs fun a ha => ?_) fun _ z => z⟩, (List.nodup_cons.mp nd).2⟩
  rcases List.mem_append.mp ha with z | z
  · exact List.mem_append_left _ z
  · exact List.mem_append_right _ (by rw [List.map_cons]; exact List.mem_cons_of_mem _ z)
/-- a local object that is not asked for any more -/
theorem run_drop (i : Nat) {l : Addr} {m : MO} (h : Run X W (Γ.set i .no) μ sts D) : Run X W Γ ((l, m) :: μ) sts D := fun σ H R => by
  have sub : Same (off (hd W ((l, m) :: μ)) H) (off (hd W μ) H) := same_offs fun a ha => by
    rcases List.mem_append.mp ha with z | z
    · exact List.mem_append_left _ z
    · exact List.mem_append_right _ (by rw [List.map_cons]; exact List.mem_cons_of_mem _ z)
  have nd := R.nd
  rw [List.map_cons] at nd
  have sl := R.sl.up sub
  refine h σ H ⟨R.wd, R.fr, ⟨by rw [sl.len, List.length_set], fun k dv hk => ?_⟩, fun p hp => ⟨(R.mu p (List.mem_cons_of_mem _ hp)).1, (R.mu p (List.mem_cons_of_mem _ hp)).2.up sub fun _ z => z⟩, (List.nodup_cons.mp nd).2⟩
  by_cases q : k = i
  · subst q
    have hl : k < Γ.length := by
      have := (List.getElem?_eq_some_iff.mp hk).1
      simpa using this
    rw [List.getElem?_set_self hl] at hk
    cases hk
    obtain ⟨o, ho⟩ : ∃ o, σ[k]? = some o := ⟨σ[k]'(by rw [sl.len]; exact hl), by simp⟩
    exact ⟨o, ho, trivial⟩
  · rw [List.getElem?_set_ne (Ne.symm q)] at hk
    exact sl.at_ k dv hk
/-- return e -/
theorem run_retP (he : Ev X W Γ μ e P) (hD : ∀ v d H, P d → Fr W H → Va X.K (off W.M H) v d → D.rt v H) : Run X W Γ μ (.Return (some e) pos :: rest) D := fun σ H R =>
  wSs_cons ((ps_ret wE.pe).w (he σ H R _ fun v d H2 R2 e2 r p => hD v d H2 p R2.fr (r.up (same_offs fun a ha => List.mem_append_left _ ha))))
theorem run_ret {P : PyData → Prop} {nx bk ct : L2.St → Hp → Prop} (he : Ed X W Γ μ e d) (hp : P d) (hW : Wle W0 W := by first | exact Wle.refl | assumption) : Run X W Γ μ (.Return (some e) pos :: rest) ⟨nx, RetP X.K W0 P, bk, ct⟩ :=
  run_retP he.ev fun v d' H p f r => ⟨f.down hW, d', by rw [p]; exact hp, r.up (same_offs fun a ha => hW.m a ha)⟩
theorem run_retV {P A : PyData → Prop} {nx bk ct : L2.St → Hp → Prop} (he : Ev X W Γ μ e A) (hp : ∀ d, A d → P d) (hW : Wle W0 W := by first | exact Wle.refl | assumption) : Run X W Γ μ (.Return (some e) pos :: rest) ⟨nx, RetP X.K W0 P, bk, ct⟩ :=
  run_retP he fun v d' H p f r => ⟨f.down hW, d', hp _ p, r.up (same_offs fun a ha => hW.m a ha)⟩
/-- return a local list -/
theorem run_retL {P : PyData → Prop} {nx bk ct : L2.St → Hp → Prop} (i : Nat) {n : Str} {l : Addr} {ys : List PyData} (hp : P (.list ys)) (hW : Wle W0 W := by first | exact Wle.refl | assumption)
    (hi : Γ[i]? = some (.r l) := by rfl) (hN : X.N[i]? = some n := by rfl) (hv : Vis X.env.scope n := by first | exact Or.inl rfl | exact Or.inr (Or.inl rfl) | exact Or.inr (Or.inr rfl))
    (h1 : (n == ("__debug__" : Str)) = false := by decide) (h2 : (n == ("__classdict__" : Str)) = false := by decide) (hl : i < Γ.length := by decide) : Run X W Γ ((l, .lst ys) :: μ) (.Return (some (.Name n p)) pos :: rest) ⟨nx, RetP X.K W0 P, bk, ct⟩ :=
  run_fix i (run_ret (P := P) (vr i (by rw [List.getElem?_set_self hl]) hN hv h1 h2) hp hW) hi
/-- if -/
theorem run_ifV {A : Bool → Prop} (hc : EvT X W Γ μ c A) (h1 : A true → Run X W Γ μ a { D with nx := wSs X rest D }) (h2 : A false → Run X W Γ μ b { D with nx := wSs X rest D }) : Run X W Γ μ (.If c a b pos :: rest) D := fun σ H R =>
  wSs_cons ((ps_if wT.pt wSs.ps wSs.ps).w (hc σ H R _ fun k H2 R2 e2 p => by
    cases k with
    | true => exact iteT (h1 p σ H2 R2)
    | false => exact iteF (h2 p σ H2 R2)))
theorem run_if {k : Bool} (hc : EdT X W Γ μ c k) (h1 : k = true → Run X W Γ μ a { D with nx := wSs X rest D }) (h2 : k = false → Run X W Γ μ b { D with nx := wSs X rest D }) : Run X W Γ μ (.If c a b pos :: rest) D :=
  run_ifV (hc.ev (P := fun z => z = k) rfl) (fun q => h1 q.symm) (fun q => h2 q.symm)
/-- the else that is not there: on with the rest -/
theorem run_skip (h : Run X W Γ μ rest D) : Run X W Γ μ [] { D with nx := wSs X rest D } := run_nil fun σ H R => h σ H R
/-- an expression alone -/
theorem run_exprP (he : Ev X W Γ μ e P) (h : ∀ d, P d → Run X W Γ μ rest D) (hs : swapsWith e none pos.line X.env = pure false := by rfl) : Run X W Γ μ (.Expr e pos :: rest) D := fun σ H R =>
  wSs_cons ((ps_expr wE.pe hs).w (he σ H R _ fun v d H2 R2 e2 r p => h d p σ H2 R2))
theorem run_expr (he : Ed X W Γ μ e d) (h : Run X W Γ μ rest D) (hs : swapsWith e none pos.line X.env = pure false := by rfl) : Run X W Γ μ (.Expr e pos :: rest) D := run_exprP he.ev (fun _ _ => h) hs
/-- raise, where it is never come to -/
theorem run_never (h : False) : Run X W Γ μ sts D := h.elim
end
end HW
set_option maxHeartbeats 4000000
namespace HW
open PySem PySem.Spec PyProof.Rows L2

/-! ### walks -/
/-- J walks over the data ds, as long as the pool stands -/
structure WalkD (K : PySem.W.Frag) (pool : Hp) (J : It) (ds : List PyData) : Prop where
  go : ∀ (i : Nat) (H : Hp), i < ds.length → Same pool H → J.go i H
  yld : ∀ (i : Nat) (d : PyData) (H : Hp) (v : V) (H' : Hp) (L : List Addr), ds[i]? = some d → (∀ l ∈ L, H l ≠ none) → Same pool (off L H) → J.yld i H v H' → Same H H' ∧ Va K (off L H') v d
  stop : ∀ (H : Hp), Same pool H → J.stop ds.length H
def IterV (X : Cx) (W : Wd) (Γ : List DV) (μ : Mu) {α : Type} (tg iter : Expr) (enc : α → PyData) (P : List α → Prop) : Prop :=
  ∃ wi : TI, PI X tg iter wi ∧ ∀ σ H, Rep X.K W Γ μ σ H → ∀ R : It → Hp → Prop, (∀ xs J H1, P xs → Rep X.K W Γ μ σ H1 → XT (hd W μ) H H1 → WalkD X.K (off (hd W μ) H1) J (xs.map enc) → R J H1) → wi σ H R
/-- the target takes the data d: put d at its slots ks -/
structure TgR (K : PySem.W.Frag) (g : TG) (ok : PyData → Prop) (put : PyData → List DV → List DV) (ks : List Nat) : Prop where
  run : ∀ (L : List Addr) (v : V) (d : PyData) (σ : L2.St) (H : Hp) (Γ : List DV) (Q : L2.St → Hp → Prop), Va K (off L H) v d → ok d → Slots K (off L H) σ Γ →
    (∀ σ', Slots K (off L H) σ' (put d Γ) → σ'.length = σ.length → (∀ i, i ∉ ks → σ'[i]? = σ[i]?) → Q σ' H) → g v σ H Q
theorem tg_name {K : PySem.W.Frag} (k : Nat) : TgR K (gName k) (fun _ => True) (fun d Γ => Γ.set k (.d d)) [k] := ⟨fun L v d σ H Γ Q r _ s q => q _ (s.set k r) (List.length_set ..) fun i hi => List.getElem?_set_ne (fun e => hi (by rw [e]; exact List.mem_cons_self))⟩
theorem tg_pair {K : PySem.W.Frag} {g1 g2 : TG} {ok1 ok2 : PyData → Prop} {put1 put2 : PyData → List DV → List DV} {k1 k2 : List Nat} (h1 : TgR K g1 ok1 put1 k1) (h2 : TgR K g2 ok2 put2 k2) :
    TgR K (gTup K 2 (gCons g1 (gCons g2 gNil))) (fun d => ∃ x y, d = .tuple [x, y] ∧ ok1 x ∧ ok2 y) (fun d Γ => match d with
      | .tuple [x, y] => put2 y (put1 x Γ)
      | _ => Γ) (k1 ++ k2) := ⟨fun L v d σ H Γ Q r o s q => by
  obtain ⟨x, y, rfl, o1, o2⟩ := o
  cases r with
  | tup hs hv =>
    cases hv with
    | cons r1 hv =>
      cases hv with
      | cons r2 hv =>
        cases hv
        refine ⟨_, _, rfl, SqT.up same_off hs, rfl, _, _, rfl, ?_⟩
        refine h1.run L _ x σ H Γ _ r1 o1 s fun σ1 s1 l1 e1 => ?_
        refine ⟨_, _, rfl, ?_⟩
        refine h2.run L _ y σ1 H _ _ r2 o2 s1 fun σ2 s2 l2 e2 => ?_
        refine ⟨rfl, q σ2 s2 (l2.trans l1) fun i hi => ?_⟩
        rw [e2 i (fun z => hi (List.mem_append_right _ z)), e1 i (fun z => hi (List.mem_append_left _ z))]⟩

/-! ### comprehensions -/
def wipeD (vs : List Nat) (Γ : List DV) : List DV := match vs with
  | [] => Γ
  | v :: vs => (wipeD vs Γ).set v .no
theorem Slots.wipe {K : PySem.W.Frag} {H : Hp} {σ : L2.St} {Γ : List DV} (h : Slots K H σ Γ) : ∀ vs : List Nat, Slots K H (wipe σ vs) (wipeD vs Γ)
  | [] => h
  | v :: vs => (Slots.wipe h vs).no v
theorem wipe_get {σ : L2.St} {i : Nat} : ∀ {vs : List Nat}, (wipe σ vs)[i]? = if i ∈ vs then (if i < σ.length then some none else none) else σ[i]?
  | [] => by simp [L2.wipe]
  | v :: vs => by
    show ((wipe σ vs).set v none)[i]? = _
    by_cases q : i = v
    · subst q
      by_cases hl : i < σ.length
      · rw [List.getElem?_set_self (by rw [wipe_length]; exact hl), if_pos List.mem_cons_self, if_pos hl]
      · rw [if_pos List.mem_cons_self, if_neg hl]
        exact List.getElem?_eq_none (by rw [List.length_set, wipe_length]; omega)
    · rw [List.getElem?_set_ne (Ne.symm q), wipe_get]
      by_cases m : i ∈ vs
      · rw [if_pos m, if_pos (List.mem_cons_of_mem _ m)]
      · rw [if_neg m, if_neg (fun z => (List.mem_cons.mp z).elim q m)]
theorem wipe_eq {σ σ' : L2.St} {vs ks : List Nat} (hk : ∀ k ∈ ks, k ∈ vs) (hl : σ'.length = (wipe σ vs).length) (h : ∀ i, i ∉ ks → σ'[i]? = (wipe σ vs)[i]?) : wipe σ' vs = wipe σ vs := by
  apply List.ext_getElem?
  intro i
  rw [wipe_get, wipe_get]
  rw [wipe_length] at hl
  by_cases m : i ∈ vs
  · rw [if_pos m, if_pos m, hl]
  · rw [if_neg m, if_neg m, h i (fun z => m (hk i z)), wipe_get, if_neg m]
abbrev blkOf (X : Cx) (scope : Scope) (s : Shared) (H : Hp) (C : Addr) (cl : List (Str × Addr)) (fp : List Addr) : Cx := X.blk s H scope (compEnvC scope cl C X.env) fp
/-- e in whatever block -/
def wEb (X : Cx) (scope : Scope) (e : Expr) : TE := fun σ H Q => ∀ s H0 C cl fp, wE (blkOf X scope s H0 C cl fp) e σ H Q
theorem wEb.pe {X : Cx} {scope : Scope} {e : Expr} (s : Shared) (H : Hp) (C : Addr) (cl : List (Str × Addr)) (fp : List Addr) : PE (blkOf X scope s H C cl fp) e (wEb X scope e) := ⟨fun pins st _ _ _ I h => h s H C cl fp pins st I⟩
def wTb (X : Cx) (scope : Scope) (e : Expr) : TT := fun σ H Q => ∀ s H0 C cl fp, wT (blkOf X scope s H0 C cl fp) e σ H Q
theorem wTb.pt {X : Cx} {scope : Scope} {e : Expr} (s : Shared) (H : Hp) (C : Addr) (cl : List (Str × Addr)) (fp : List Addr) : PT (blkOf X scope s H C cl fp) e (wTb X scope e) := ⟨fun pins st _ _ _ I h => h s H C cl fp pins st I⟩
section
variable {X : Cx} {W : Wd} {Γ : List DV} {μ : Mu} {α : Type} {tg iter elt t : Expr} {ifs : List Expr} {scope : Scope} {own : List (Str × Nat)} {pos : Pos} {enc : α → PyData} {P : List α → Prop} {g : TG} {ok : PyData → Prop} {put : PyData → List DV → List DV} {ks : List Nat} {c : α → Bool} {E : α → PyData → Prop}
theorem psnoc {α β : Type} {F : α → β → Prop} {a : α} {b : β} : ∀ {l₁ : List α} {l₂ : List β}, Paired F l₁ l₂ → F a b → Paired F (l₁ ++ [a]) (l₂ ++ [b])
  | _, _, .nil, h => .cons h .nil
  | _, _, .cons r t, h => .cons r (psnoc t h)
theorem plen {α β : Type} {F : α → β → Prop} : ∀ {l₁ : List α} {l₂ : List β}, Paired F l₁ l₂ → l₁.length = l₂.length
  | _, _, .nil => rfl
  | _, _, .cons _ t => congrArg (· + 1) (plen t)
theorem take_succ_filter {xs : List α} {i : Nat} {x : α} (h : xs[i]? = some x) : (xs.take (i + 1)).filter c = (xs.take i).filter c ++ (if c x = true then [x] else []) := by
  rw [List.take_add_one, h]
  show (xs.take i ++ [x]).filter c = _
  rw [List.filter_append]
  by_cases q : c x = true
  · rw [if_pos q, List.filter_cons_of_pos q]; rfl
  · rw [if_neg q, List.filter_cons_of_neg q]; rfl
/-- the reading of a comprehension: a list whose items are E of the items kept -/
theorem lc_read {tt : TT} {wi : TI} (hi : ∀ σ H, Rep X.K W Γ μ σ H → ∀ R : It → Hp → Prop, (∀ xs J H1, P xs → Rep X.K W Γ μ σ H1 → XT (hd W μ) H H1 → WalkD X.K (off (hd W μ) H1) J (xs.map enc) → R J H1) → wi σ H R)
    (hg : TgR X.K g ok put ks) (hk : ∀ k ∈ ks, k ∈ own.map (·.2)) (hok : ∀ xs, P xs → ∀ x ∈ xs, ok (enc x)) (hz : ∀ xs, P xs → xs.length ≤ 16777216)
    (ht : ∀ xs, P xs → ∀ x ∈ xs, ∀ W1, Wle W W1 → ∀ σ H, Rep X.K W1 (put (enc x) (wipeD (own.map (·.2)) Γ)) μ σ H → ∀ Q : Bool → Hp → Prop, (∀ H2, Rep X.K W1 (put (enc x) (wipeD (own.map (·.2)) Γ)) μ σ H2 → Q (c x) H2) → tt σ H Q)
    (he : ∀ xs, P xs → ∀ x ∈ xs, c x = true → ∀ W1, Wle W W1 → ∀ s H C cl fp, Ev (blkOf X scope s H C cl fp) W1 (put (enc x) (wipeD (own.map (·.2)) Γ)) μ elt (E x))
    {σ : L2.St} {H : Hp} (R : Rep X.K W Γ μ σ H) {Q : VK} (q : ∀ xs ys v H2, P xs → Paired E (xs.filter c) ys → Rep X.K W Γ μ σ H2 → XT (hd W μ) H H2 → Va X.K (off (hd W μ) H2) v (.list ys) → Q v H2) :
    tLc wi g tt (wEb X scope elt) (own.map (·.2)) σ H Q := by
  refine hi σ H R _ fun xs J H1 px R1 e1 wk D hD => ?_
  -- the invariant
  let vs := own.map (·.2)
  let Pv : Nat → Hp → Prop := fun i H' => ∃ ys, Paired E ((xs.take i).filter c) ys ∧ Rep X.K (W.now μ H1) (wipeD vs Γ) ((D, .lst ys) :: μ) (wipe σ vs) H'
  have R1n := R1.now
  have Rw : Rep X.K (W.now μ H1) (wipeD vs Γ) μ (wipe σ vs) H1 := ⟨R1n.wd, R1n.fr, R1n.sl.wipe vs, R1n.mu, R1n.nd⟩
  have h0 : Pv 0 (upd H1 D (.lst [])) := ⟨[], by simp only [List.take_zero, List.filter_nil]; exact .nil, Rw.born hD ⟨[], upd_same, .nil⟩⟩
  have nDmu : ∀ {i H'}, Pv i H' → Same (off (hd W μ) H1) H' := fun ⟨ys, _, Rp⟩ a o e => by
    obtain ⟨h1, h2⟩ := off_some e
    refine Rp.fr.keep a o (fun z => h1 (List.mem_append_left _ (Rep.isRow_M Rp.wd z))) ?_
    show off (μ.map (·.1)) H1 a = some o
    rw [off_out (fun z => h1 (List.mem_append_right _ z))]
    exact h2
  refine ⟨fun i m H' => m = xs.length - i ∧ i ≤ xs.length ∧ Pv i H', ⟨xs.length, by simp, Nat.zero_le _, h0⟩, ?_⟩
  rintro i m H' ⟨rfl, hile, p⟩
  by_cases hlt : i < xs.length
  · refine .inr ⟨wk.go i H' (by simpa using hlt) (nDmu p), Pv (i + 1), fun H2 p' => ⟨xs.length - (i + 1), by omega, rfl, hlt, p'⟩, fun v H2 y => ?_⟩
    obtain ⟨ys, hys, Rp⟩ := p
    obtain ⟨x, hx⟩ : ∃ x, xs[i]? = some x := ⟨xs[i], by simp [hlt]⟩
    have xin : x ∈ xs := List.mem_of_getElem? hx
    have dx : (xs.map enc)[i]? = some (enc x) := by rw [List.getElem?_map, hx]; rfl
    -- the pool off the hidden objects
    have pool : Same (off (hd W μ) H1) (off (hd (W.now μ H1) ((D, .lst ys) :: μ)) H') := fun a o e => by
      obtain ⟨h1, h2⟩ := off_some e
      have na : a ≠ D := fun z => by rw [z, hD] at h2; cases h2
      rw [off_out (fun z => by
        rcases List.mem_append.mp z with z | z
        · exact h1 (List.mem_append_left _ z)
        · rw [List.map_cons] at z
          rcases List.mem_cons.mp z with z | z
          · exact na z
          · exact h1 (List.mem_append_right _ z))]
      exact nDmu ⟨ys, hys, Rp⟩ a o e
    obtain ⟨s2, r2⟩ := wk.yld i (enc x) H' v H2 _ dx Rp.ne pool y
    have Rp2 := Rp.same s2
    refine hg.run _ v (enc x) (wipe σ vs) H2 _ _ r2 (hok xs px x xin) Rp2.sl fun σ3 sl3 l3 u3 => ?_
    refine ⟨wipe_eq hk l3 u3, ?_⟩
    have R3 : Rep X.K (W.now μ H1) (put (enc x) (wipeD vs Γ)) ((D, .lst ys) :: μ) σ3 H2 := ⟨Rp2.wd, Rp2.fr, sl3, Rp2.mu, Rp2.nd⟩
    have le3 : Wle W ((W.now μ H1).park μ D H2) := R1.now_le.trans (park_le R3)
    have back : ∀ {H4 : Hp} {ys' : List PyData}, Rep X.K (W.now μ H1) (put (enc x) (wipeD vs Γ)) ((D, .lst ys') :: μ) σ3 H4 → XT (hd (W.now μ H1) ((D, .lst ys) :: μ)) H2 H4 → Rep X.K (W.now μ H1) (wipeD vs Γ) ((D, .lst ys') :: μ) (wipe σ vs) H4 := fun R4 x4 =>
      ⟨R4.wd, R4.fr, (Rp2.sl.up x4 : _), R4.mu, R4.nd⟩
    refine ht xs px x xin _ le3 σ3 H2 R3.park _ fun H4 R4 => ?_
    have x4 := park_xt R3 R4
    have R4' := R3.unpark R4
    by_cases hc : c x = true
    · rw [hc]
      refine iteT fun s H0 C cl fp => ?_
      refine he xs px x xin hc _ (R1.now_le.trans (park_le R4')) s H0 C cl fp σ3 H4 R4'.park _ fun v5 d5 H5 R5 x5 r5 p5 => ?_
      have x5' := park_xt R4' R5
      have R5' := R4'.unpark R5
      obtain ⟨acc, ha, hv⟩ := (R5'.mu _ List.mem_cons_self).2
      refine ⟨acc, ha, ?_, ys ++ [d5], ?_, ?_⟩
      · rw [hv.length, ← plen hys]
        have l1 : ((xs.take i).filter c).length ≤ (xs.take i).length := List.length_filter_le ..
        rw [List.length_take] at l1
        have l2 := hz xs px
        show _ < 16777216
        omega
      · rw [take_succ_filter hx, if_pos hc]
        exact psnoc hys p5
      · have oc : off (hd ((W.now μ H1).park μ D H4) μ) H5 = off (hd (W.now μ H1) ((D, .lst ys) :: μ)) H5 := off_cong fun a => mem_park
        have z := back R5' (x4.trans x5')
        exact z.chg (j := 0) (m' := .lst (ys ++ [d5])) rfl ⟨acc ++ [v5], upd_same, hv.app (.cons (oc ▸ r5) .nil)⟩
    · have hc' : c x = false := by simpa using hc
      rw [hc']
      refine iteF ⟨ys, ?_, back R4' x4⟩
      rw [take_succ_filter hx, if_neg hc, List.append_nil]
      exact hys
  · have e : i = xs.length := by omega
    subst e
    refine .inl ⟨by have := wk.stop H' (nDmu p); simpa using this, ?_⟩
    have sm := nDmu p
    obtain ⟨ys, hys, Rp⟩ := p
    rw [List.take_length] at hys
    obtain ⟨acc, ha, hv, nl, sl⟩ := Rp.freeze
    have up : XT (hd W μ) H1 H' := fun a o e => by
      rw [off_out (off_some e).1]
      exact sm a o e
    have le1 : Wle W (W.now μ H1) := R1.now_le
    refine q xs ys (.ref D) H' px hys ⟨R.wd, Rp.fr.down le1, R1.sl.up up, fun p hp => ⟨(R1.mu p hp).1, (Rp.mu p (List.mem_cons_of_mem _ hp)).2.up (same_offs fun a ha => ?_) fun _ z => z⟩, R.nd⟩ (e1.trans up) (.lst (off_out nl |>.trans ha) hv)
    rcases List.mem_append.mp ha with z | z
    · exact List.mem_append_left _ z
    · exact List.mem_append_right _ (by rw [List.map_cons]; exact List.mem_cons_of_mem _ z)
/-- a comprehension's judgement: the list's data with Z -/
structure LcEv (X : Cx) (W : Wd) (Γ : List DV) (μ : Mu) (elt tg iter : Expr) (ifs : List Expr) (scope : Scope) (Z : List PyData → Prop) : Prop where
  ex : ∃ (wi : TI) (g : TG) (tt : TT) (te : TE) (own : List (Str × Nat)), PI X tg iter wi ∧ BlkOk X.N X.env.scope scope own ∧ (∀ s H C cl fp, PG (blkOf X scope s H C cl fp) tg g) ∧ (∀ s H C cl fp, PTs (blkOf X scope s H C cl fp) ifs tt) ∧
    (∀ s H C cl fp, PE (blkOf X scope s H C cl fp) elt te) ∧ ∀ σ H, Rep X.K W Γ μ σ H → ∀ Q : VK, (∀ ys v H2, Z ys → Rep X.K W Γ μ σ H2 → XT (hd W μ) H H2 → Va X.K (off (hd W μ) H2) v (.list ys) → Q v H2) → tLc wi g tt te (own.map (·.2)) σ H Q
theorem LcEv.ev {Z : List PyData → Prop} (h : LcEv X W Γ μ elt tg iter ifs scope Z) (hN : X.N.Nodup) (hc : X.calm = true := by rfl) (hs : ∀ x, foldedSetIterable iter X.env x = pure x := by intro _; rfl) :
    Ev X W Γ μ (.ListComp elt [⟨tg, iter, ifs, 0⟩] scope pos) (fun z => ∃ ys, z = .list ys ∧ Z ys) := fun σ H R Q k => by
  obtain ⟨wi, g, tt, te, own, h1, h2, h3, h4, h5, h6⟩ := h.ex
  exact (pe_lc hc hN h1 h2 h3 h4 h5 hs).w (h6 σ H R Q fun ys v H2 z R2 x2 r => k v _ H2 R2 x2 r ⟨ys, rfl, z⟩)
theorem LcEv.ed {ys : List PyData} (h : LcEv X W Γ μ elt tg iter ifs scope (fun z => z = ys)) (hN : X.N.Nodup) (hc : X.calm = true := by rfl) (hs : ∀ x, foldedSetIterable iter X.env x = pure x := by intro _; rfl) :
    Ed X W Γ μ (.ListComp elt [⟨tg, iter, ifs, 0⟩] scope pos) (.list ys) := (h.ev (pos := pos) hN hc hs |>.imp (B := fun z => z = .list ys) fun d ⟨l, e1, e2⟩ => by rw [e1, e2]).ed
/-- x = [..] -/
theorem run_setLcP {Z : List PyData → Prop} {D : Ends} {rest : List Stmt} {spos py : Pos} (i : Nat) {n : Str} (h : LcEv X W Γ μ elt tg iter ifs scope Z) (hr : ∀ ys, Z ys → Run X W (Γ.set i (.d (.list ys))) μ rest D) (hN : X.N.Nodup) (hn : X.N[i]? = some n := by rfl) (hl : X.env.scope.names.lookup n = some .local := by rfl)
    (hsw : swapsWith (.ListComp elt [⟨tg, iter, ifs, 0⟩] scope pos) (some (.Name n py)) spos.line X.env = pure true := by exact (sw_true rfl rfl rfl (by decide +kernel))) (hc : X.calm = true := by rfl) (hs : ∀ x, foldedSetIterable iter X.env x = pure x := by intro _; rfl) :
    Run X W Γ μ (.Assign [.Name n py] (.ListComp elt [⟨tg, iter, ifs, 0⟩] scope pos) spos :: rest) D := fun σ H R => by
  obtain ⟨wi, g, tt, te, own, h1, h2, h3, h4, h5, h6⟩ := h.ex
  refine wSs_cons ((ps_setLc hc hN hn hl hsw h1 h2 h3 h4 h5 hs).w ?_)
  exact h6 σ H R _ fun ys v H2 z R2 x2 r => hr ys z _ _ ⟨R2.wd, R2.fr, R2.sl.set i r, R2.mu, R2.nd⟩
theorem run_setLc {ys : List PyData} {D : Ends} {rest : List Stmt} {spos py : Pos} (i : Nat) {n : Str} (h : LcEv X W Γ μ elt tg iter ifs scope (fun z => z = ys)) (hr : Run X W (Γ.set i (.d (.list ys))) μ rest D) (hN : X.N.Nodup) (hn : X.N[i]? = some n := by rfl) (hl : X.env.scope.names.lookup n = some .local := by rfl)
    (hsw : swapsWith (.ListComp elt [⟨tg, iter, ifs, 0⟩] scope pos) (some (.Name n py)) spos.line X.env = pure true := by exact (sw_true rfl rfl rfl (by decide +kernel))) (hc : X.calm = true := by rfl) (hs : ∀ x, foldedSetIterable iter X.env x = pure x := by intro _; rfl) :
    Run X W Γ μ (.Assign [.Name n py] (.ListComp elt [⟨tg, iter, ifs, 0⟩] scope pos) spos :: rest) D := run_setLcP i h (fun _ z => z ▸ hr) hN hn hl hsw hc hs
/-- builders: over any target, without a test -/
theorem lc0 (own : List (Str × Nat)) (hi : IterV X W Γ μ tg iter enc P) (hg : TgR X.K g ok put ks) (hpg : ∀ s H C cl fp, PG (blkOf X scope s H C cl fp) tg g) (hok : ∀ xs, P xs → ∀ x ∈ xs, ok (enc x)) (hz : ∀ xs, P xs → xs.length ≤ 16777216)
    (he : ∀ xs, P xs → ∀ x ∈ xs, ∀ W1, Wle W W1 → ∀ s H C cl fp, Ev (blkOf X scope s H C cl fp) W1 (put (enc x) (wipeD (own.map (·.2)) Γ)) μ elt (E x)) (hb : BlkOk X.N X.env.scope scope own := by exact blkOk_by (by kernel_rfl)) (hk : ∀ k ∈ ks, k ∈ own.map (·.2) := by decide) :
    LcEv X W Γ μ elt tg iter [] scope (fun ys => ∃ xs, P xs ∧ Paired E xs ys) := ⟨by
  obtain ⟨wi, h1, h2⟩ := hi
  refine ⟨wi, g, tYes, wEb X scope elt, own, h1, hb, hpg, fun _ _ _ _ _ => pts_nil, wEb.pe, fun σ H R Q k => ?_⟩
  refine lc_read (c := fun _ => true) (E := E) h2 hg hk hok hz (fun _ _ _ _ _ _ σ H R Q q => q H R) (fun xs px x hx _ W1 l s H C cl fp => he xs px x hx W1 l s H C cl fp) R fun xs ys v H2 px hp R2 x2 r => k ys v H2 ⟨xs, px, ?_⟩ R2 x2 r
  have e : xs.filter (fun _ => true) = xs := List.filter_eq_self.mpr fun _ _ => rfl
  rw [e] at hp
  exact hp⟩
/-- .. with one -/
theorem lc1 (own : List (Str × Nat)) (hi : IterV X W Γ μ tg iter enc P) (hg : TgR X.K g ok put ks) (hpg : ∀ s H C cl fp, PG (blkOf X scope s H C cl fp) tg g) (hok : ∀ xs, P xs → ∀ x ∈ xs, ok (enc x)) (hz : ∀ xs, P xs → xs.length ≤ 16777216)
    (ht : ∀ xs, P xs → ∀ x ∈ xs, ∀ W1, Wle W W1 → ∀ s H C cl fp, EdT (blkOf X scope s H C cl fp) W1 (put (enc x) (wipeD (own.map (·.2)) Γ)) μ t (c x))
    (he : ∀ xs, P xs → ∀ x ∈ xs, c x = true → ∀ W1, Wle W W1 → ∀ s H C cl fp, Ev (blkOf X scope s H C cl fp) W1 (put (enc x) (wipeD (own.map (·.2)) Γ)) μ elt (E x)) (hb : BlkOk X.N X.env.scope scope own := by exact blkOk_by (by kernel_rfl)) (hk : ∀ k ∈ ks, k ∈ own.map (·.2) := by decide) :
    LcEv X W Γ μ elt tg iter [t] scope (fun ys => ∃ xs, P xs ∧ Paired E (xs.filter c) ys) := ⟨by
  obtain ⟨wi, h1, h2⟩ := hi
  refine ⟨wi, g, wTb X scope t, wEb X scope elt, own, h1, hb, hpg, fun s H C cl fp => pts_one (wTb.pt s H C cl fp), wEb.pe, fun σ H R Q k => ?_⟩
  exact lc_read (c := c) (E := E) h2 hg hk hok hz (fun xs px x hx W1 l σ H R Q q s H0 C cl fp => ht xs px x hx W1 l s H0 C cl fp σ H R Q fun H2 R2 _ => q H2 R2) he R fun xs ys v H2 px hp R2 x2 r => k ys v H2 ⟨xs, px, hp⟩ R2 x2 r⟩
end
/-- the walked thing, told -/
abbrev IterD (X : Cx) (W : Wd) (Γ : List DV) (μ : Mu) {α : Type} (tg iter : Expr) (enc : α → PyData) (xs : List α) : Prop := IterV X W Γ μ tg iter enc (fun l => l = xs)
theorem paired_map {α : Type} {f : α → PyData} : ∀ {xs : List α} {ys : List PyData}, Paired (fun x y => y = f x) xs ys → ys = xs.map f
  | _, _, .nil => rfl
  | _, _, .cons r t => by rw [r, paired_map t]; rfl
section
variable {X : Cx} {W : Wd} {Γ : List DV} {μ : Mu} {α : Type} {tg iter elt t : Expr} {ifs : List Expr} {scope : Scope} {pos p : Pos} {enc : α → PyData} {xs : List α} {c : α → Bool} {f : α → PyData} {n : Str}
/-- [elt for n in iter] -/
theorem lcN0 (k : Nat) (hi : IterD X W Γ μ (.Name n p) iter enc xs) (hz : xs.length ≤ 16777216) (f : α → PyData)
    (he : ∀ x ∈ xs, ∀ W1, Wle W W1 → ∀ s H C cl fp, Ed (blkOf X scope s H C cl fp) W1 ((wipeD [k] Γ).set k (.d (enc x))) μ elt (f x)) (hN : X.N.Nodup) (hn : X.N[k]? = some n := by rfl)
    (hv : ∀ s H C cl fp, Loc (blkOf X scope s H C cl fp).env.scope n := by intro _ _ _ _ _; first | exact Or.inl rfl | exact Or.inr rfl) (hf : ∀ s H C cl fp, (blkOf X scope s H C cl fp).fn n = true ∨ (blkOf X scope s H C cl fp).env.scope.names.lookup n = some .local := by intro _ _ _ _ _; first | exact .inr rfl | exact .inl rfl) (hb : BlkOk X.N X.env.scope scope [(n, k)] := by exact blkOk_by (by kernel_rfl)) :
    LcEv X W Γ μ elt (.Name n p) iter [] scope (fun ys => ys = xs.map f) := by
  have h := lc0 (E := fun x y => y = f x) (elt := elt) (scope := scope) [(n, k)] hi (tg_name (K := X.K) k) (fun s H C cl fp => pg_name hN hn (hv s H C cl fp) (hf s H C cl fp)) (fun _ _ _ _ => trivial) (fun _ e => e ▸ hz) (fun _ e x hx W1 l s H C cl fp => (he x (e ▸ hx) W1 l s H C cl fp).ev) hb (by simp)
  obtain ⟨wi, g, tt, te, own, h1, h2, h3, h4, h5, h6⟩ := h.ex
  exact ⟨wi, g, tt, te, own, h1, h2, h3, h4, h5, fun σ H R Q k => h6 σ H R Q fun ys v H2 ⟨l, e, hp⟩ => k ys v H2 (by rw [← e]; exact paired_map hp)⟩
/-- [elt for n in iter if t] -/
theorem lcN1 (k : Nat) (hi : IterD X W Γ μ (.Name n p) iter enc xs) (hz : xs.length ≤ 16777216) (c : α → Bool) (f : α → PyData)
    (ht : ∀ x ∈ xs, ∀ W1, Wle W W1 → ∀ s H C cl fp, EdT (blkOf X scope s H C cl fp) W1 ((wipeD [k] Γ).set k (.d (enc x))) μ t (c x))
    (he : ∀ x ∈ xs, c x = true → ∀ W1, Wle W W1 → ∀ s H C cl fp, Ed (blkOf X scope s H C cl fp) W1 ((wipeD [k] Γ).set k (.d (enc x))) μ elt (f x)) (hN : X.N.Nodup) (hn : X.N[k]? = some n := by rfl)
    (hv : ∀ s H C cl fp, Loc (blkOf X scope s H C cl fp).env.scope n := by intro _ _ _ _ _; first | exact Or.inl rfl | exact Or.inr rfl) (hf : ∀ s H C cl fp, (blkOf X scope s H C cl fp).fn n = true ∨ (blkOf X scope s H C cl fp).env.scope.names.lookup n = some .local := by intro _ _ _ _ _; first | exact .inr rfl | exact .inl rfl) (hb : BlkOk X.N X.env.scope scope [(n, k)] := by exact blkOk_by (by kernel_rfl)) :
    LcEv X W Γ μ elt (.Name n p) iter [t] scope (fun ys => ys = (xs.filter c).map f) := by
  have h := lc1 (E := fun x y => y = f x) (c := c) (t := t) (elt := elt) (scope := scope) [(n, k)] hi (tg_name (K := X.K) k) (fun s H C cl fp => pg_name hN hn (hv s H C cl fp) (hf s H C cl fp)) (fun _ _ _ _ => trivial) (fun _ e => e ▸ hz) (fun _ e x hx W1 l s H C cl fp => ht x (e ▸ hx) W1 l s H C cl fp) (fun _ e x hx hc W1 l s H C cl fp => (he x (e ▸ hx) hc W1 l s H C cl fp).ev) hb (by simp)
  obtain ⟨wi, g, tt, te, own, h1, h2, h3, h4, h5, h6⟩ := h.ex
  exact ⟨wi, g, tt, te, own, h1, h2, h3, h4, h5, fun σ H R Q k => h6 σ H R Q fun ys v H2 ⟨l, e, hp⟩ => k ys v H2 (by rw [← e]; exact paired_map hp)⟩
end
end HW
set_option maxHeartbeats 4000000
namespace HW
open PySem PySem.Spec PyProof.Rows L2

section
variable {X : Cx} {W : Wd} {Γ : List DV} {μ : Mu} {α : Type} {tg iter e a b : Expr} {pos p : Pos} {enc : α → PyData} {P : List α → Prop} {xs : List α}
theorem IterV.imp {Q' : List α → Prop} (h : IterV X W Γ μ tg iter enc P) (i : ∀ xs, P xs → Q' xs) : IterV X W Γ μ tg iter enc Q' := by
  obtain ⟨wi, h1, h2⟩ := h
  exact ⟨wi, h1, fun σ H R R' k => h2 σ H R R' fun xs J H1 px => k xs J H1 (i xs px)⟩
theorem walk_list {K : PySem.W.Frag} {pool : Hp} {a : Addr} {vs : List V} {ds : List PyData} (h : pool a = some (.lst vs)) (hv : VaAll K pool vs ds) : WalkD K pool (Itl K a) ds where
  go := fun i H hi s => by
    have hl : i < vs.length := by rw [hv.length]; exact hi
    exact ⟨vs, vs[i], SqL.of (s a _ h), by simp [hl]⟩
  yld := fun i d H v H' L hd _ s y => by
    obtain ⟨rfl, y⟩ := y
    refine ⟨Same.refl _, ?_⟩
    obtain ⟨v2, e, r⟩ := hv.at hd
    have := y vs (SqL.of ((off_some (s a _ h)).2))
    rw [e] at this
    cases this
    exact r.up s
  stop := fun H s => ⟨vs, SqL.of (s a _ h), by rw [hv.length]; exact Nat.le_refl _⟩
theorem walk_tup {K : PySem.W.Frag} {pool : Hp} {a : Addr} {vs : List V} {ds : List PyData} (h : SqT K pool a vs) (hv : VaAll K pool vs ds) : WalkD K pool (Itt K a) ds where
  go := fun i H hi s => by
    have hl : i < vs.length := by rw [hv.length]; exact hi
    exact ⟨vs, vs[i], SqT.up s h, by simp [hl]⟩
  yld := fun i d H v H' L hd _ s y => by
    obtain ⟨rfl, y⟩ := y
    refine ⟨Same.refl _, ?_⟩
    obtain ⟨v2, e, r⟩ := hv.at hd
    have := y vs (SqT.up same_off (SqT.up s h))
    rw [e] at this
    cases this
    exact r.up s
  stop := fun H s => ⟨vs, SqT.up s h, by rw [hv.length]; exact Nat.le_refl _⟩
theorem it_listV (h : Ev X W Γ μ iter (fun z => ∃ xs, z = .list (xs.map enc) ∧ P xs)) : IterV X W Γ μ tg iter enc P := ⟨_, pi_list wE.pe, fun σ H R R' k => h σ H R _ fun v d H1 R1 e1 r ⟨xs, e, px⟩ => by
  subst e
  cases r with
  | lst ha hv => exact ⟨_, rfl, ⟨_, SqL.of (off_some ha).2⟩, k xs _ H1 px R1 e1 (walk_list ha hv)⟩⟩
theorem it_list {ds : List PyData} (h : Ed X W Γ μ iter (.list ds)) (e : ds = xs.map enc := by rfl) : IterD X W Γ μ tg iter enc xs := it_listV (h.evP ⟨xs, by rw [e], rfl⟩)
theorem it_tupV (h : Ev X W Γ μ iter (fun z => ∃ xs, z = .tuple (xs.map enc) ∧ P xs)) : IterV X W Γ μ tg iter enc P := ⟨_, pi_tup wE.pe, fun σ H R R' k => h σ H R _ fun v d H1 R1 e1 r ⟨xs, e, px⟩ => by
  subst e
  cases r with
  | tup ha hv => exact ⟨_, rfl, ⟨_, SqT.up same_off ha⟩, k xs _ H1 px R1 e1 (walk_tup ha hv)⟩⟩
theorem it_tup {ds : List PyData} (h : Ed X W Γ μ iter (.tuple ds)) (e : ds = xs.map enc := by rfl) : IterD X W Γ μ tg iter enc xs := it_tupV (h.evP ⟨xs, by rw [e], rfl⟩)
/-- a sign as a text -/
abbrev sg (c : Nat) : PyData := .str ⟨#[c]⟩
theorem it_strV {P : List Nat → Prop} (h : Ev X W Γ μ iter (fun z => ∃ cs : List Nat, z = .str ⟨cs.toArray⟩ ∧ P cs)) : IterV X W Γ μ tg iter sg P := ⟨_, pi_str wE.pe, fun σ H R R' k => h σ H R _ fun v d H1 R1 e1 r ⟨cs, e, px⟩ => by
  subst e
  cases r
  refine ⟨_, rfl, k cs _ H1 px R1 e1 ⟨fun i H hi s => ?_, fun i d H v H' L hd _ s y => ?_, fun H s => ?_⟩⟩
  · show i < cs.toArray.size
    simpa using hi
  · obtain ⟨rfl, c, hc, rfl⟩ := y
    refine ⟨Same.refl _, ?_⟩
    have hc' : cs[i]? = some c := by simpa using hc
    rw [List.getElem?_map, hc'] at hd
    cases hd
    exact .str _
  · show cs.toArray.size ≤ _
    simp⟩
theorem it_str {cs : List Nat} {x : Str} (h : Ed X W Γ μ iter (.str x)) (e : x = ⟨cs.toArray⟩ := by rfl) : IterD X W Γ μ tg iter sg cs := it_strV (h.evP ⟨cs, by rw [e], rfl⟩)
/-- range(n), range(a, b) -/
abbrev nn (i : Nat) : PyData := .int (i : Int)
theorem walk_range {K : PySem.W.Frag} {pool : Hp} {lo : Int} {n : Nat} : WalkD K pool (Itr lo n) ((List.range n).map fun (i : Nat) => PyData.int (lo + (i : Int))) where
  go := fun i H hi s => by show i < n; simpa using hi
  yld := fun i d H v H' L hd _ s y => by
    obtain ⟨rfl, rfl⟩ := y
    refine ⟨Same.refl _, ?_⟩
    rw [List.getElem?_map] at hd
    obtain ⟨j, hj, rfl⟩ := Option.map_eq_some_iff.mp hd
    have hl : i < n := by
      have := (List.getElem?_eq_some_iff.mp hj).1
      simpa using this
    rw [List.getElem?_range hl] at hj
    cases hj
    exact .int _
  stop := fun H s => by show n ≤ _; simp
theorem it_rangeV {P : Nat → Prop} (h : EvA X W Γ μ [a] (fun ds => ∃ n : Int, ds = [.int n] ∧ -(2 ^ 62) ≤ n ∧ n < 2 ^ 62 ∧ P n.toNat)) (hm : X.mg "range" = none) (hg : Gl X "range" := by rfl) (hs : starEach [a] X.env = [(false, eval a X.env)] := by rfl) :
    IterV X W Γ μ tg (.Call (.Name "range" p) [a] [] pos) (fun i : Nat => PyData.int ((0 : Int) + (i : Int))) (fun l => ∃ n, l = List.range n ∧ P n) := ⟨_, pi_range1 hg hm wA.pa hs, fun σ H R R' k => h σ H R _ fun vs ds H1 R1 e1 r ⟨n, e, h1, h2, pn⟩ => by
  subst e
  cases r with
  | cons r rr =>
    cases rr
    cases r
    exact ⟨n, rfl, h1, h2, k _ _ H1 ⟨_, rfl, pn⟩ R1 e1 walk_range⟩⟩
theorem it_range {n : Nat} {z : Int} (h : Ed X W Γ μ a (.int z)) (hm : X.mg "range" = none) (e : z.toNat = n := by omega) (hz : -1000000000 ≤ z ∧ z ≤ 1000000000 := by omega) (hg : Gl X "range" := by rfl) (hs : starEach [a] X.env = [(false, eval a X.env)] := by rfl) :
    IterD X W Γ μ tg (.Call (.Name "range" p) [a] [] pos) nn (List.range n) := by
  have := it_rangeV (tg := tg) (p := p) (pos := pos) (P := fun m => m = n) ((ea_cons h ea_nil (by rw [hs]; rfl)).ev ⟨z, rfl, by omega, by omega, e⟩) hm hg hs
  obtain ⟨wi, h1, h2⟩ := this
  refine ⟨wi, h1, fun σ H R R' k => h2 σ H R R' fun xs J H1 px R1 e1 wk => ?_⟩
  obtain ⟨m, e, e3⟩ := px
  subst e
  subst e3
  refine k _ J H1 rfl R1 e1 ?_
  have e : (fun i : Nat => PyData.int ((0 : Int) + (i : Int))) = nn := by funext i; show PyData.int _ = PyData.int _; rw [Int.zero_add]
  rw [e] at wk
  exact wk
theorem it_range2 {n : Nat} {lo z : Int} (h1 : Ed X W Γ μ a (.int lo)) (h2 : Ed X W Γ μ b (.int z)) (hm : X.mg "range" = none) (e : (z - lo).toNat = n := by omega) (hz : (-1000000000 ≤ lo ∧ lo ≤ 1000000000) ∧ -1000000000 ≤ z ∧ z ≤ 1000000000 := by omega) (hg : Gl X "range" := by rfl)
    (hs : starEach [a, b] X.env = [(false, eval a X.env), (false, eval b X.env)] := by rfl) (hs2 : starEach [b] X.env = [(false, eval b X.env)] := by rfl) :
    IterD X W Γ μ tg (.Call (.Name "range" p) [a, b] [] pos) (fun i : Nat => PyData.int (lo + (i : Int))) (List.range n) := ⟨_, pi_range2 hg hm wA.pa hs hs2, fun σ H R R' k => (ea_cons h1 (ea_cons h2 ea_nil hs2) (by rw [hs, hs2])) σ H R _ fun vs H1 R1 e1 r => by
  cases r with
  | cons r rr =>
    cases rr with
    | cons r2 rr =>
      cases rr
      cases r
      cases r2
      refine ⟨lo, z, rfl, by omega, ?_⟩
      rw [e]
      exact k _ _ H1 rfl R1 e1 walk_range⟩
end

/-! ### for -/
section
variable {X : Cx} {W : Wd} {Γ : List DV} {μ : Mu} {α : Type} {tg iter : Expr} {body rest : List Stmt} {pos p : Pos} {enc : α → PyData} {P : List α → Prop} {g : TG} {ok : PyData → Prop} {put : PyData → List DV → List DV} {ks : List Nat} {D : Ends}
theorem Rep.wdown {K : PySem.W.Frag} {W W' : Wd} {Γ : List DV} {μ : Mu} {σ : L2.St} {H : Hp} (l : Wle W W') (ok : WdOk K W) (R : Rep K W' Γ μ σ H) : Rep K W Γ μ σ H := by
  refine Rep.down l ok (fun p hp => ?_) R
  cases e : W.H0 p.1 with
  | none => rfl
  | some o =>
    have h := (R.mu p hp).1
    by_cases q : W.isRow p.1
    · have hM := l.m _ (Rep.isRow_M ok q)
      exact absurd h (R.wd.hid _ hM)
    · rw [l.keep _ o q e] at h
      cases h
theorem run_forG (hi : IterV X W Γ μ tg iter enc P) (hg : TgR X.K g ok put ks) (hpg : PG X tg g) (hok : ∀ xs, P xs → ∀ x ∈ xs, ok (enc x)) (J : List α → Nat → List DV → Mu → Prop) (h0 : ∀ xs, P xs → J xs 0 Γ μ)
    (hs : ∀ xs, P xs → ∀ W1, Wle W W1 → ∀ i x Γ' μ', xs[i]? = some x → J xs i Γ' μ' → Run X W1 (put (enc x) Γ') μ' body { D with nx := StP X.K W1 (J xs (i + 1)), ct := StP X.K W1 (J xs (i + 1)), bk := wSs X rest D })
    (hd' : ∀ xs, P xs → ∀ Γ' μ', J xs xs.length Γ' μ' → Run X W Γ' μ' rest D) (hp : PassesOwn (model X.prog X.w) X.A X.env X.xe := by exact PassesOwn.never) (hc : X.calm = true := by rfl) (hf : ∀ x, foldedSetIterable iter X.env x = pure x := by intro _; rfl) :
    Run X W Γ μ (.For tg iter body [] pos :: rest) D := fun σ H R => by
  obtain ⟨wi, h1, h2⟩ := hi
  refine wSs_cons ((ps_for hp hc h1 hpg wSs.ps hf).w ?_)
  refine h2 σ H R _ fun xs J' H1 px R1 e1 wk => ?_
  have le1 : Wle W (W.now μ H1) := R1.now_le
  refine ⟨fun i m σ H => m = xs.length - i ∧ i ≤ xs.length ∧ StP X.K (W.now μ H1) (J xs i) σ H, ⟨xs.length, by simp, Nat.zero_le _, Γ, μ, h0 xs px, R1.now⟩, ?_⟩
  rintro i m σ' H' ⟨rfl, hile, Γ', μ', j, R'⟩
  have pool : Same (off (hd W μ) H1) (off (hd (W.now μ H1) μ') H') := fun a o e => by
    obtain ⟨h1, h2⟩ := off_some e
    have z : (W.now μ H1).H0 a = some o := by
      show off (μ.map (·.1)) H1 a = some o
      rw [off_out (fun z => h1 (List.mem_append_right _ z))]
      exact h2
    rw [off_out (fun q => by
      rcases List.mem_append.mp q with q | q
      · exact h1 (List.mem_append_left _ q)
      · obtain ⟨p, hp, rfl⟩ := List.mem_map.mp q
        rw [(R'.mu p hp).1] at z
        cases z)]
    exact R'.fr.keep a o (fun q => h1 (List.mem_append_left _ (Rep.isRow_M R1.wd q))) z
  have pool0 : Same (off (hd W μ) H1) H' := fun a o e => (off_some (pool a o e)).2
  by_cases hlt : i < xs.length
  · refine .inr ⟨wk.go i H' (by simpa using hlt) pool0, StP X.K (W.now μ H1) (J xs (i + 1)), fun σ2 H2 q => ⟨xs.length - (i + 1), by omega, rfl, hlt, q⟩, fun v H2 y => ?_⟩
    obtain ⟨x, hx⟩ : ∃ x, xs[i]? = some x := ⟨xs[i], by simp [hlt]⟩
    obtain ⟨s2, r2⟩ := wk.yld i (enc x) H' v H2 _ (by rw [List.getElem?_map, hx]; rfl) R'.ne pool y
    have R2 := R'.same s2
    refine hg.run _ v (enc x) σ' H2 _ _ r2 (hok xs px x (List.mem_of_getElem? hx)) R2.sl fun σ3 sl3 _ _ => ?_
    exact hs xs px _ le1 i x Γ' μ' hx j σ3 H2 ⟨R2.wd, R2.fr, sl3, R2.mu, R2.nd⟩
  · have e : i = xs.length := by omega
    subst e
    refine .inl ⟨by have := wk.stop H' pool0; simpa using this, ?_⟩
    exact hd' xs px Γ' μ' j σ' H' (R'.wdown le1 R.wd)
/-- for n in iter -/
theorem run_for {xs : List α} {n : Str} (k : Nat) (hi : IterD X W Γ μ (.Name n p) iter enc xs) (J : Nat → List DV → Mu → Prop) (h0 : J 0 Γ μ)
    (hs : ∀ W1, Wle W W1 → ∀ i x Γ' μ', xs[i]? = some x → J i Γ' μ' → Run X W1 (Γ'.set k (.d (enc x))) μ' body { D with nx := StP X.K W1 (J (i + 1)), ct := StP X.K W1 (J (i + 1)), bk := wSs X rest D })
    (hd' : ∀ Γ' μ', J xs.length Γ' μ' → Run X W Γ' μ' rest D) (hN : X.N.Nodup) (hn : X.N[k]? = some n := by rfl) (hx : Loc X.env.scope n := by first | exact Or.inl rfl | exact Or.inr rfl) (hff : X.fn n = true ∨ X.env.scope.names.lookup n = some .local := by first | exact .inr rfl | exact .inl rfl)
    (hp : PassesOwn (model X.prog X.w) X.A X.env X.xe := by exact PassesOwn.never) (hc : X.calm = true := by rfl) (hf : ∀ x, foldedSetIterable iter X.env x = pure x := by intro _; rfl) :
    Run X W Γ μ (.For (.Name n p) iter body [] pos :: rest) D :=
  run_forG hi (tg_name k) (pg_name hN hn hx hff) (fun _ _ _ _ => trivial) (fun _ => J) (fun _ _ => h0) (fun _ e W1 l i x Γ' μ' h j => hs W1 l i x Γ' μ' (e ▸ h) j) (fun _ e Γ' μ' j => hd' Γ' μ' (e ▸ j)) hp hc hf
/-- the end of a turn -/
theorem run_turn {Φ : List DV → Mu → Prop} (hD : D.nx = StP X.K W Φ := by rfl) (h : Φ Γ μ) : Run X W Γ μ [] D := run_nil fun σ H R => by
  rw [hD]
  exact ⟨Γ, μ, h, R⟩
end

/-! ### defs -/
/-- a def of data: R tells what comes -/
def spR (K : PySem.W.Frag) (R : List PyData → PyData → Prop) : Sp := fun vs H Q _ => ∃ (L : List Addr) (ds : List PyData) (d : PyData), (∀ a ∈ L, H a ≠ none) ∧ VaAll K (off L H) vs ds ∧ R ds d ∧ ∀ v H', Same H H' → Va K (off L H') v d → Q v H'
/-- a def that draws from the row r (its first argument) -/
def spW (K : PySem.W.Frag) (pre : List PyData → Prop) (post : List PyData → PyData → Prop) : Sp := fun vs H Q _ => ∃ (M : List Addr) (r scr : Addr) (ns : List Int) (ws : List V) (ds : List PyData), vs = .ref r :: ws ∧ (∀ a ∈ M, H a ≠ none) ∧ r ∈ M ∧
  RowC H r scr ∧ SqL K H scr (ns.map V.int) ∧ scr ≠ r ∧ ns.length ≤ 63 ∧ VaAll K (off M H) ws ds ∧ pre ds ∧ ∀ v H' d, post ds d → (∀ a o, a ≠ r → H a = some o → H' a = some o) → RowC H' r scr → Va K (off M H') v d → Q v H'
/-- a def of the text, ready to be called -/
structure Fd (P : Program) (w : World) (K : PySem.W.Frag) (mg : Str → Option Value) (base : Heap) (k : Nat) (x : Str) (ps : List Str) (sp : Sp) : Prop where
  ex : ∃ (f : Addr) (fd : FuncData), FnOk P w K mg base CX0 k f fd ps sp ∧ mg x = some (.ref f) ∧ PySem.W.keepIn K (.ref f) = true ∧ Binds K fd ps []
section
variable {P : Program} {w : World} {K : PySem.W.Frag} {mg : Str → Option Value} {base : Heap} {x qual : Str} {params : Arguments} {body : List Stmt} {scope : Scope} {f : Addr} {fd : FuncData} {N ps : List Str} {k : Nat}
theorem slots_start {H : Hp} : ∀ {vs : List V} {ds : List PyData} (m : Nat), VaAll K H vs ds → Slots K H (vs.map some ++ List.replicate m none) (ds.map .d ++ List.replicate m .no) := fun {vs ds} m h => by
  refine ⟨by simp [h.length], fun i dv q => ?_⟩
  by_cases hl : i < ds.length
  · rw [List.getElem?_append_left (by simpa using hl), List.getElem?_map] at q
    obtain ⟨d, hd, rfl⟩ := Option.map_eq_some_iff.mp q
    obtain ⟨v, hv, r⟩ := h.at hd
    refine ⟨some v, ?_, v, rfl, r⟩
    rw [List.getElem?_append_left (by rw [List.length_map, h.length]; exact hl), List.getElem?_map, hv]
    rfl
  · rw [List.getElem?_append_right (by simp; omega), List.length_map] at q
    have hm : i - ds.length < m := by
      have := (List.getElem?_eq_some_iff.mp q).1
      simpa using this
    rw [List.getElem?_replicate, if_pos hm] at q
    cases q
    refine ⟨none, ?_, trivial⟩
    rw [List.getElem?_append_right (by simp [h.length]; omega), List.length_map, h.length, List.getElem?_replicate, if_pos hm]
theorem fd_pure (F : FunD K x qual params body scope [] [] f fd) (S : FnScope N ps scope) (R : List PyData → PyData → Prop) (hlen : ∀ ds d, R ds d → ds.length = ps.length)
    (h : ∀ (cdv : Value) (A : Around) (outer : List Env) (s : Shared) (H : Hp) (E : XK), Room k (A.deeper (envOfC qual scope s.heap.objs.size f cdv)) → ∀ (W : Wd) (ds : List PyData) (d : PyData), W.row = none → R ds d →
      Run (cxOf CX0 P w K mg base N qual scope f cdv A outer s H E).nox W (ds.map .d ++ List.replicate (N.length - ps.length) .no) [] body { nx := fun _ H' => RetP K W (fun z => z = d) .non H', rt := RetP K W (fun z => z = d) }) :
    FnOk P w K mg base CX0 (k + 1) f fd ps (spR K R) := by
  refine F.ok S (fun vs H Q E ⟨L, ds, d, _, hv, r, _⟩ => by rw [hv.length]; exact hlen ds d r) fun cdv A outer s H vs Q E hr ⟨L, ds, d, hL, hv, r, q⟩ => ?_
  refine ⟨_, PSs.nox wSs.ps, ?_⟩
  let W : Wd := ⟨H, L, none⟩
  have ok : WdOk K W := ⟨hL, fun _ _ _ e => nomatch e⟩
  have nr : ∀ a, ¬ W.isRow a := fun a ⟨_, _, e⟩ => nomatch e
  have sl : Slots K (off (hd W []) H) (start N vs) (ds.map .d ++ List.replicate (N.length - ps.length) .no) := by
    show Slots K (off (L ++ []) H) (vs.map some ++ List.replicate (N.length - vs.length) none) _
    rw [List.append_nil, hv.length, hlen ds d r]
    exact slots_start _ hv
  have ret : ∀ v H', RetP K W (fun z => z = d) v H' → Q v H' := fun v H' ⟨fr, d', e, hv'⟩ => q v H' (fun a o e => fr.keep a o (nr a) e) (e ▸ hv')
  intro pins st I
  have z := h cdv A outer s H E hr W ds d rfl r (start N vs) H ⟨ok, ⟨fun _ _ _ e => e, fun _ _ _ e => nomatch e⟩, sl, fun _ z => (nomatch z), List.nodup_nil⟩ pins st I
  refine wpAny_mono z (fun fl s' hq => ?_) fun _ _ z => z
  cases fl with
  | next =>
    obtain ⟨σ', H', I', q'⟩ := hq
    exact ⟨σ', H', I', ret _ _ q'⟩
  | brk => exact hq
  | cont => exact hq
  | ret u =>
    obtain ⟨v, σ', H', I', r', q'⟩ := hq
    exact ⟨v, σ', H', I', r', ret _ _ q'⟩
theorem fd_row (F : FunD K x qual params body scope [] [] f fd) (S : FnScope N ps scope) (pre : List PyData → Prop) (post : List PyData → PyData → Prop) (hlen : ∀ ds, pre ds → ds.length + 1 = ps.length)
    (h : ∀ (cdv : Value) (A : Around) (outer : List Env) (s : Shared) (H : Hp) (E : XK), Room k (A.deeper (envOfC qual scope s.heap.objs.size f cdv)) → ∀ (W : Wd) (r scr : Addr) (ns : List Int) (ds : List PyData), W.row = some (r, scr, ns) → pre ds →
      Run (cxOf CX0 P w K mg base N qual scope f cdv A outer s H E).nox W (.r r :: (ds.map .d ++ List.replicate (N.length - ps.length) .no)) [] body { nx := fun _ H' => RetP K W (post ds) .non H', rt := RetP K W (post ds) }) :
    FnOk P w K mg base CX0 (k + 1) f fd ps (spW K pre post) := by
  refine F.ok S (fun vs H Q E ⟨M, r, scr, ns, ws, ds, e, _, _, _, _, _, _, hv, hpre, _⟩ => by rw [e, List.length_cons, hv.length]; exact hlen ds hpre) fun cdv A outer s H vs Q E hr ⟨M, r, scr, ns, ws, ds, e, hM, hrM, hR, hS, hne, hns, hv, hp, q⟩ => ?_
  refine ⟨_, PSs.nox wSs.ps, ?_⟩
  let W : Wd := ⟨H, M, some (r, scr, ns)⟩
  have ok : WdOk K W := ⟨hM, fun r' s' n' e => by cases e; exact ⟨hrM, hS, hne, hns⟩⟩
  have nr : ∀ a, a ≠ r → ¬ W.isRow a := fun a n ⟨_, _, e⟩ => by cases e; exact n rfl
  have sl : Slots K (off (hd W []) H) (start N vs) (.r r :: (ds.map .d ++ List.replicate (N.length - ps.length) .no)) := by
    show Slots K (off (M ++ []) H) (vs.map some ++ List.replicate (N.length - vs.length) none) _
    rw [List.append_nil, e, List.length_cons, hv.length, hlen ds hp]
    have z := slots_start (K := K) (N.length - ps.length) hv
    refine ⟨by simp [z.len, hv.length], fun i dv hi => ?_⟩
    cases i with
    | zero => cases hi; exact ⟨_, rfl, rfl⟩
    | succ i => exact z.at_ i dv hi
  have ret : ∀ v H', RetP K W (post ds) v H' → Q v H' := fun v H' ⟨fr, d', e, hv'⟩ => q v H' d' e (fun a o n e => fr.keep a o (nr a n) e) (fr.row _ _ _ rfl) hv'
  intro pins st I
  have z := h cdv A outer s H E hr W r scr ns ds rfl hp (start N vs) H ⟨ok, ⟨fun _ _ _ e => e, fun r' s' n' e => by cases e; exact hR⟩, sl, fun _ z => (nomatch z), List.nodup_nil⟩ pins st I
  refine wpAny_mono z (fun fl s' hq => ?_) fun _ _ z => z
  cases fl with
  | next =>
    obtain ⟨σ', H', I', q'⟩ := hq
    exact ⟨σ', H', I', ret _ _ q'⟩
  | brk => exact hq
  | cont => exact hq
  | ret u =>
    obtain ⟨v, σ', H', I', r', q'⟩ := hq
    exact ⟨v, σ', H', I', r', ret _ _ q'⟩
theorem Fd.mono {j : Nat} {sp : Sp} (F : Fd P w K mg base j x ps sp) (h : j ≤ k) : Fd P w K mg base k x ps sp := by
  obtain ⟨f, fd, h1, h2⟩ := F.ex
  exact ⟨f, fd, h1.mono h, h2⟩
end

/-! ### calls of defs -/
section
variable {X : Cx} {W : Wd} {Γ : List DV} {μ : Mu} {e : Expr} {es : List Expr} {pos p : Pos} {x : Str} {ps : List Str} {k : Nat} {d : PyData} {ds : List PyData}
theorem ev_call {R : List PyData → PyData → Prop} {A : List PyData → Prop} {B : PyData → Prop} (F : Fd X.prog X.w X.K X.mg X.base k x ps (spR X.K R)) (hr : Room k X.A) (ha : EvA X W Γ μ (e :: es) A) (hR : ∀ ds, A ds → ∃ d, R ds d ∧ B d) (hg : Gl X x := by rfl)
    (hdb : (x == ("__debug__" : Str)) = false := by decide) (he : starEach (e :: es) X.env = (false, eval e X.env) :: starEach es X.env := by rfl) (hpl : (backTo pos (starEach es X.env)).any (·.1) = false := by rfl) : Ev X W Γ μ (.Call (.Name x p) (e :: es) [] pos) B := fun σ H R Q q => by
  obtain ⟨f, fd, h1, h2, h3, h4⟩ := F.ex
  refine (pe_call h1 hr hg h2 h3 h4 .nil pass0 wA.pa hdb he hpl).w (ha σ H R _ fun vs ds H2 R2 e2 r2 pa => ?_)
  obtain ⟨d, hd, pb⟩ := hR ds pa
  refine ⟨HW.hd W μ, ds, d, R2.ne, by rw [List.append_nil]; exact r2, hd, fun v H3 s3 r3 => q v d H3 (R2.same s3) (e2.trans (XT.same s3)) r3 pb⟩
theorem ed_call {R : List PyData → PyData → Prop} (F : Fd X.prog X.w X.K X.mg X.base k x ps (spR X.K R)) (hr : Room k X.A) (ha : EdA X W Γ μ (e :: es) ds) (hR : R ds d) (hg : Gl X x := by rfl)
    (hdb : (x == ("__debug__" : Str)) = false := by decide) (he : starEach (e :: es) X.env = (false, eval e X.env) :: starEach es X.env := by rfl) (hpl : (backTo pos (starEach es X.env)).any (·.1) = false := by rfl) : Ed X W Γ μ (.Call (.Name x p) (e :: es) [] pos) d :=
  (ev_call (B := fun z => z = d) F hr (ha.ev (P := fun l => l = ds) rfl) (fun _ e => ⟨d, e ▸ hR, rfl⟩) hg hdb he hpl).ed
/-- f(row, ..), f a def that draws -/
theorem ev_draw {pre : List PyData → Prop} {post : List PyData → PyData → Prop} {A : List PyData → Prop} {n : Str} {p2 : Pos} {r scr : Addr} {ns : List Int} (F : Fd X.prog X.w X.K X.mg X.base k x ps (spW X.K pre post)) (hr : Room k X.A) (hrow : W.row = some (r, scr, ns)) (i : Nat) (ha : EvA X W Γ μ es A) (hR : ∀ ds, A ds → pre ds)
    (hi : Γ[i]? = some (.r r) := by rfl) (hN : X.N[i]? = some n := by rfl) (hv : Vis X.env.scope n := by first | exact Or.inl rfl | exact Or.inr (Or.inl rfl) | exact Or.inr (Or.inr rfl))
    (h1 : (n == ("__debug__" : Str)) = false := by decide) (h2 : (n == ("__classdict__" : Str)) = false := by decide) (hg : Gl X x := by rfl)
    (hdb : (x == ("__debug__" : Str)) = false := by decide) (he : starEach (.Name n p2 :: es) X.env = (false, eval (.Name n p2) X.env) :: starEach es X.env := by rfl) (hpl : (backTo pos (starEach es X.env)).any (·.1) = false := by rfl) :
    Ev X W Γ μ (.Call (.Name x p) (.Name n p2 :: es) [] pos) (fun d => ∃ ds, A ds ∧ post ds d) := fun σ H R Q q => by
  obtain ⟨f, fd, g1, g2, g3, g4⟩ := F.ex
  refine (pe_call g1 hr hg g2 g3 g4 .nil pass0 (pa_cons (pe_var hN hv h1 h2) wA.pa he) hdb he hpl).w ?_
  obtain ⟨o, e1, e2⟩ := R.sl.at_ i _ hi
  have e2' : o = some (.ref r) := e2
  subst e2'
  refine ⟨_, e1, ha σ H R _ fun vs ds H2 R2 e2 r2 pa => ?_⟩
  obtain ⟨w1, w2, w3, w4⟩ := R2.wd.row r scr ns hrow
  have isr : W.isRow r := ⟨scr, ns, hrow⟩
  have sq : SqL X.K H2 scr (ns.map V.int) := SqL.up (fun o e => R2.fr.keep scr o (fun ⟨s2, n2, z⟩ => by
    rw [hrow] at z
    cases z
    exact w3 rfl) e) w2
  refine ⟨hd W μ, r, scr, ns, vs, ds, by rw [List.append_nil], R2.ne, List.mem_append_left _ w1, R2.fr.row r scr ns hrow, sq, w3, w4, r2, hR ds pa, fun v H3 d pd keep rc r3 => ?_⟩
  have nor : ∀ a, ¬ W.isRow a → a ≠ r := fun a n z => n (z ▸ isr)
  have xt : XT (hd W μ) H2 H3 := fun a o e => by
    obtain ⟨h1, h2⟩ := off_some e
    rw [off_out h1]
    exact keep a o (fun z => h1 (List.mem_append_left _ (z ▸ w1))) h2
  have R3 : Rep X.K W Γ μ σ H3 := ⟨R2.wd, ⟨fun a o n e => keep a o (nor a n) (R2.fr.keep a o n e), fun r' s' n' e => by
    rw [hrow] at e
    cases e
    exact rc⟩, R2.sl.up xt, fun p hp => ⟨(R2.mu p hp).1, (R2.mu p hp).2.up xt fun o e => keep _ o (fun z => by
      have := (R2.mu p hp).1
      rw [z] at this
      exact R2.wd.hid r w1 this) e⟩, R2.nd⟩
  exact q v d H3 R3 (e2.trans xt) r3 ⟨ds, pa, pd⟩
end
end HW
set_option maxHeartbeats 4000000
namespace HW
open PySem PySem.Spec PyProof.Rows L2
open SX (S)

section
variable {X : Cx}
theorem IxR.to {r r' : R2} (h : IxR X r) (i : ∀ a b H Q, r' a b H Q → r a b H Q) : IxR X r' := fun e1 e2 pins s σ H x y v u Q I rx ry q hs => h e1 e2 pins s σ H x y v u Q I rx ry (i _ _ _ _ q) hs
theorem MtR.to {id : String} {r r' : V → List V → Hp → VK → Prop} (h : MtR X id r) (i : ∀ x vs H Q, r' x vs H Q → r x vs H Q) : MtR X id r' := fun pins s σ H x xs v us Q I rx rv q => h pins s σ H x xs v us Q I rx rv (i _ _ _ _ q)
/-! ### numbers -/
variable {i j : Int}
theorem o_add : OpD X (binaryOp .Add) (.int i) (.int j) (.int (i + j)) := OpR.to op_add fun a b H Q ⟨L, _, ha, hb, k⟩ => by cases ha; cases hb; exact ⟨i, j, rfl, rfl, k _ _ (Same.refl _) (.int _)⟩
theorem o_sub : OpD X (binaryOp .Sub) (.int i) (.int j) (.int (i - j)) := OpR.to op_sub fun a b H Q ⟨L, _, ha, hb, k⟩ => by cases ha; cases hb; exact ⟨i, j, rfl, rfl, k _ _ (Same.refl _) (.int _)⟩
theorem o_mul (h : CMul i j) : OpD X (binaryOp .Mult) (.int i) (.int j) (.int (i * j)) := OpR.to op_mul fun a b H Q ⟨L, _, ha, hb, k⟩ => by cases ha; cases hb; exact ⟨i, j, rfl, rfl, h, k _ _ (Same.refl _) (.int _)⟩
theorem o_div (h : CDiv i j) : OpD X (binaryOp .FloorDiv) (.int i) (.int j) (.int (i / j)) := OpR.to op_fdiv fun a b H Q ⟨L, _, ha, hb, k⟩ => by cases ha; cases hb; exact ⟨i, j, rfl, rfl, h, k _ _ (Same.refl _) (.int _)⟩
theorem o_mod (h : 0 < j) : OpD X (binaryOp .Mod) (.int i) (.int j) (.int (i % j)) := OpR.to op_mod fun a b H Q ⟨L, _, ha, hb, k⟩ => by cases ha; cases hb; exact ⟨i, j, rfl, rfl, h, k _ _ (Same.refl _) (.int _)⟩
theorem o_pow (h : CPow i j) : OpD X (binaryOp .Pow) (.int i) (.int j) (.int (i ^ j.toNat)) := OpR.to op_pow fun a b H Q ⟨L, _, ha, hb, k⟩ => by cases ha; cases hb; exact ⟨i, j, rfl, rfl, h, k _ _ (Same.refl _) (.int _)⟩
theorem c_lt : OpD X (compareOp .Lt) (.int i) (.int j) (.bool (decide (i < j))) := OpR.to op_lt fun a b H Q ⟨L, _, ha, hb, k⟩ => by cases ha; cases hb; exact ⟨i, j, rfl, rfl, k _ _ (Same.refl _) (.bl _)⟩
theorem c_le : OpD X (compareOp .LtE) (.int i) (.int j) (.bool (decide (i ≤ j))) := OpR.to op_le fun a b H Q ⟨L, _, ha, hb, k⟩ => by cases ha; cases hb; exact ⟨i, j, rfl, rfl, k _ _ (Same.refl _) (.bl _)⟩
theorem c_gt : OpD X (compareOp .Gt) (.int i) (.int j) (.bool (decide (j < i))) := OpR.to op_gt fun a b H Q ⟨L, _, ha, hb, k⟩ => by cases ha; cases hb; exact ⟨i, j, rfl, rfl, k _ _ (Same.refl _) (.bl _)⟩
theorem c_ge : OpD X (compareOp .GtE) (.int i) (.int j) (.bool (decide (j ≤ i))) := OpR.to op_ge fun a b H Q ⟨L, _, ha, hb, k⟩ => by cases ha; cases hb; exact ⟨i, j, rfl, rfl, k _ _ (Same.refl _) (.bl _)⟩
theorem c_eqI : OpD X (compareOp .Eq) (.int i) (.int j) (.bool (decide (i = j))) := OpR.to op_eq fun a b H Q ⟨L, _, ha, hb, k⟩ => by
  cases ha; cases hb
  refine ⟨rfl, ?_⟩
  rw [dec_int, Bool.beq_eq_decide_eq]
  exact k _ _ (Same.refl _) (.bl _)
theorem c_neI : OpD X (compareOp .NotEq) (.int i) (.int j) (.bool (!decide (i = j))) := OpR.to op_ne fun a b H Q ⟨L, _, ha, hb, k⟩ => by
  cases ha; cases hb
  refine ⟨rfl, ?_⟩
  rw [dec_int, Bool.beq_eq_decide_eq]
  exact k _ _ (Same.refl _) (.bl _)
/-! ### any data -/
theorem c_eqD {x y : PyData} (hu : X.A.units + 64 < cLine) (hx : SeqAt.shaped x = true) (hy : SeqAt.shaped y = true) : OpD X (compareOp .Eq) x y (.bool (PyData.eqv x y)) := OpR.to (op_eqD hu) fun a b H Q ⟨L, _, ha, hb, k⟩ =>
  ⟨x, y, (ha.up same_off).dp (nod_of_lay (SeqAt.canLay_of_shaped hx)), (hb.up same_off).dp (nod_of_lay (SeqAt.canLay_of_shaped hy)), hx, hy, k _ _ (Same.refl _) (.bl _)⟩
theorem c_neD {x y : PyData} (hu : X.A.units + 64 < cLine) (hx : SeqAt.shaped x = true) (hy : SeqAt.shaped y = true) : OpD X (compareOp .NotEq) x y (.bool (!PyData.eqv x y)) := OpR.to (op_neD hu) fun a b H Q ⟨L, _, ha, hb, k⟩ =>
  ⟨x, y, (ha.up same_off).dp (nod_of_lay (SeqAt.canLay_of_shaped hx)), (hb.up same_off).dp (nod_of_lay (SeqAt.canLay_of_shaped hy)), hx, hy, k _ _ (Same.refl _) (.bl _)⟩
theorem c_isN {x : PyData} : OpD X (compareOp .Is) x .none (.bool (match x with | .none => true | _ => false)) := OpR.to op_isN fun a b H Q ⟨L, _, ha, hb, k⟩ => by
  cases hb
  refine ⟨rfl, ?_⟩
  cases ha <;> exact k _ _ (Same.refl _) (.bl _)
theorem c_notN {x : PyData} : OpD X (compareOp .IsNot) x .none (.bool (match x with | .none => false | _ => true)) := OpR.to op_notN fun a b H Q ⟨L, _, ha, hb, k⟩ => by
  cases hb
  refine ⟨rfl, ?_⟩
  cases ha <;> exact k _ _ (Same.refl _) (.bl _)
/-! ### texts -/
variable {l m : List Nat}
theorem S_eq {a b : List Nat} : decide (V.str (S a) = V.str (S b)) = decide (a = b) := by rw [dec_str, SX.S_beq_eq]
theorem c_eqS : OpD X (compareOp .Eq) (.str (S l)) (.str (S m)) (.bool (decide (l = m))) := OpR.to op_eq fun a b H Q ⟨L, _, ha, hb, k⟩ => by
  cases ha; cases hb
  refine ⟨rfl, ?_⟩
  rw [S_eq]
  exact k _ _ (Same.refl _) (.bl _)
theorem c_neS : OpD X (compareOp .NotEq) (.str (S l)) (.str (S m)) (.bool (!decide (l = m))) := OpR.to op_ne fun a b H Q ⟨L, _, ha, hb, k⟩ => by
  cases ha; cases hb
  refine ⟨rfl, ?_⟩
  rw [S_eq]
  exact k _ _ (Same.refl _) (.bl _)
theorem o_adds (h : l.length + m.length ≤ 16777216) : OpD X (binaryOp .Add) (.str (S l)) (.str (S m)) (.str (S (l ++ m))) := OpR.to op_add_str fun a b H Q ⟨L, _, ha, hb, k⟩ => by
  cases ha; cases hb
  refine ⟨_, _, rfl, rfl, by rw [SX.S_len, SX.S_len]; exact h, ?_⟩
  rw [SX.S_cat]
  exact k _ _ (Same.refl _) (.str _)
/-- one sign in a text -/
theorem c_inS {c : Nat} : OpD X (compareOp .In) (sg c) (.str (S m)) (.bool (decide (c ∈ m))) := OpR.to op_in_sign fun a b H Q ⟨L, _, ha, hb, k⟩ => by
  cases ha; cases hb
  exact ⟨c, S m, rfl, rfl, k _ _ (Same.refl _) (.bl _)⟩
theorem at_nat {α : Type} {l : List α} {i : Int} {n : Nat} {c : α} (e : i = (n : Int)) (h : l[n]? = some c) : atI l i = some c := by
  rw [e]
  have hl := (List.getElem?_eq_some_iff.mp h).1
  unfold atI ixN
  rw [if_pos (Int.natCast_nonneg n), if_pos (by omega)]
  simpa using h
theorem i_str {c : Nat} {n : Nat} (hl : l.length ≤ 16777216) (hc : l[n]? = some c) (e : i = (n : Int) := by rfl) : IxD X (.str (S l)) (.int i) (sg c) := IxR.to ix_str fun a b H Q ⟨L, _, ha, hb, k⟩ => by
  cases ha; cases hb
  exact ⟨S l, i, c, rfl, rfl, by rw [SX.S_len]; exact hl, at_nat e hc, k _ _ (Same.refl _) (.str _)⟩
/-- s[-1] -/
theorem at_last {α : Type} {l : List α} {c : α} (h : l.getLast? = some c) : atI l (-1) = some c := by
  have hl : l ≠ [] := by rintro rfl; simp at h
  have hp : 0 < l.length := List.length_pos_iff.mpr hl
  unfold atI ixN
  rw [if_neg (by decide), if_pos (by omega)]
  have e : ((-1 : Int) + (l.length : Int)).toNat = l.length - 1 := by omega
  show l[((-1 : Int) + (l.length : Int)).toNat]? = some c
  rw [e, ← h, List.getLast?_eq_getElem?]
theorem i_strL {c : Nat} (hl : l.length ≤ 16777216) (hc : l.getLast? = some c) : IxD X (.str (S l)) (.int (-1)) (sg c) := IxR.to ix_str fun a b H Q ⟨L, _, ha, hb, k⟩ => by
  cases ha; cases hb
  exact ⟨S l, -1, c, rfl, rfl, by rw [SX.S_len]; exact hl, at_last hc, k _ _ (Same.refl _) (.str _)⟩
theorem c_lenS (h : l.length ≤ 16777216) : CallD X (.builtin "len") [.str (S l)] (nn l.length) := CallR.to call_len_str fun vs H Q ⟨L, _, hv, k⟩ => by
  cases hv with
  | cons h1 h2 =>
    cases h2; cases h1
    refine ⟨_, rfl, by rw [SX.S_len]; exact h, ?_⟩
    rw [SX.S_len]
    exact k _ _ (Same.refl _) (.int _)
/-! ### lists, tuples -/
variable {ds es : List PyData} {d : PyData}
theorem c_lenL : CallD X (.builtin "len") [.list ds] (nn ds.length) := CallR.to call_len_seq fun vs H Q ⟨L, _, hv, k⟩ => by
  cases hv with
  | cons h1 h2 =>
    cases h2
    cases h1 with
    | lst ha hs => exact ⟨_, _, rfl, .inl (SqL.of (off_some ha).2), by rw [hs.length]; exact k _ _ (Same.refl _) (.int _)⟩
theorem c_lenT : CallD X (.builtin "len") [.tuple ds] (nn ds.length) := CallR.to call_len_seq fun vs H Q ⟨L, _, hv, k⟩ => by
  cases hv with
  | cons h1 h2 =>
    cases h2
    cases h1 with
    | tup ha hs => exact ⟨_, _, rfl, .inr (SqT.up same_off ha), by rw [hs.length]; exact k _ _ (Same.refl _) (.int _)⟩
theorem i_list {n : Nat} (hd : ds[n]? = some d) (e : i = (n : Int) := by rfl) : IxD X (.list ds) (.int i) d := IxR.to ix_list fun a b H Q ⟨L, _, ha, hb, k⟩ => by
  cases hb
  cases ha with
  | lst ha hs =>
    obtain ⟨v, hv, r⟩ := hs.at hd
    exact ⟨_, _, i, v, rfl, rfl, SqL.of (off_some ha).2, at_nat e hv, k _ _ (Same.refl _) r⟩
theorem i_tup {n : Nat} (hd : ds[n]? = some d) (e : i = (n : Int) := by rfl) : IxD X (.tuple ds) (.int i) d := IxR.to ix_tup fun a b H Q ⟨L, _, ha, hb, k⟩ => by
  cases hb
  cases ha with
  | tup ha hs =>
    obtain ⟨v, hv, r⟩ := hs.at hd
    exact ⟨_, _, i, v, rfl, rfl, SqT.up same_off ha, at_nat e hv, k _ _ (Same.refl _) r⟩
theorem i_listL (hd : ds.getLast? = some d) : IxD X (.list ds) (.int (-1)) d := IxR.to ix_list fun a b H Q ⟨L, _, ha, hb, k⟩ => by
  cases hb
  cases ha with
  | lst ha hs =>
    have e : ds[ds.length - 1]? = some d := by rw [← List.getLast?_eq_getElem?]; exact hd
    obtain ⟨v, hv, r⟩ := hs.at e
    refine ⟨_, _, -1, v, rfl, rfl, SqL.of (off_some ha).2, at_last (by rw [List.getLast?_eq_getElem?, hs.length]; exact hv), k _ _ (Same.refl _) r⟩
theorem o_cat (h : ds.length + es.length ≤ 16777216) : OpD X (binaryOp .Add) (.list ds) (.list es) (.list (ds ++ es)) := OpR.to op_cat fun a b H Q ⟨L, hL, ha, hb, k⟩ => by
  cases ha with
  | lst ha hs =>
    cases hb with
    | lst hb ht =>
      refine ⟨_, _, _, _, rfl, rfl, (off_some ha).2, (off_some hb).2, by rw [hs.length, ht.length]; exact h, fun p hp => ?_⟩
      exact k _ _ (same_new hp) (.lst (off_upd (new_out hL hp)) ((hs.app ht).up (XT.same (same_new hp))))
theorem vaAll_rep {K : PySem.W.Frag} {H : Hp} {vs : List V} {ds : List PyData} (h : VaAll K H vs ds) : ∀ n : Nat, VaAll K H (List.replicate n vs).flatten (List.replicate n ds).flatten
  | 0 => .nil
  | n + 1 => by
    rw [List.replicate_succ, List.replicate_succ, List.flatten_cons, List.flatten_cons]
    exact h.app (vaAll_rep h n)
theorem o_rep (h : ds.length * j.toNat ≤ 16777216) (hj : -1000000000 ≤ j ∧ j ≤ 1000000000) : OpD X (binaryOp .Mult) (.list ds) (.int j) (.list (List.replicate j.toNat ds).flatten) := OpR.to op_rep fun a b H Q ⟨L, hL, ha, hb, k⟩ => by
  cases hb
  cases ha with
  | lst ha hs =>
    refine ⟨_, _, _, rfl, rfl, (off_some ha).2, by omega, by omega, by rw [hs.length]; exact h, fun p hp => ?_⟩
    exact k _ _ (same_new hp) (.lst (off_upd (new_out hL hp)) ((vaAll_rep hs _).up (XT.same (same_new hp))))
theorem c_all {bs : List Bool} (hc : X.calm = true) : CallD X (.builtin "all") [.list (bs.map .bool)] (.bool (bs.all id)) := CallR.to (cr_all hc) fun vs H Q ⟨L, _, hv, k⟩ => by
  cases hv with
  | cons h1 h2 =>
    cases h2
    cases h1 with
    | lst ha hs => exact ⟨_, bs, rfl, by rw [← hs.bls]; exact SqL.of (off_some ha).2, k _ _ (Same.refl _) (.bl _)⟩
theorem c_any {bs : List Bool} (hc : X.calm = true) : CallD X (.builtin "any") [.list (bs.map .bool)] (.bool (bs.any id)) := CallR.to (cr_any hc) fun vs H Q ⟨L, _, hv, k⟩ => by
  cases hv with
  | cons h1 h2 =>
    cases h2
    cases h1 with
    | lst ha hs => exact ⟨_, bs, rfl, by rw [← hs.bls]; exact SqL.of (off_some ha).2, k _ _ (Same.refl _) (.bl _)⟩
theorem c_int : CallD X (.type "int") [.int i] (.int i) := CallR.to call_int1 fun vs H Q ⟨L, _, hv, k⟩ => by
  cases hv with
  | cons h1 h2 =>
    cases h2; cases h1
    exact .inl ⟨i, rfl, k _ _ (Same.refl _) (.int _)⟩
theorem c_intB {b : Bool} : CallD X (.type "int") [.bool b] (.int (if b then 1 else 0)) := CallR.to call_int1 fun vs H Q ⟨L, _, hv, k⟩ => by
  cases hv with
  | cons h1 h2 =>
    cases h2; cases h1
    exact .inr ⟨b, rfl, k _ _ (Same.refl _) (.int _)⟩
/-- max, min of a list of ints -/
theorem c_max {ns : List Int} {z : Int} (hc : X.calm = true) (h1 : z ∈ ns) (h2 : ∀ y ∈ ns, y ≤ z) : CallD X (.builtin "max") [.list (ns.map .int)] (.int z) := CallR.to (cr_max hc) fun vs H Q ⟨L, _, hv, k⟩ => by
  cases hv with
  | cons g1 g2 =>
    cases g2
    cases g1 with
    | lst ha hs =>
      refine ⟨_, ns, rfl, by rw [← hs.ints]; exact SqL.of (off_some ha).2, List.length_pos_of_mem h1, fun m hm hle => ?_⟩
      have e : m = z := Int.le_antisymm (h2 m hm) (hle z h1)
      rw [e]
      exact k _ _ (Same.refl _) (.int _)
theorem c_min {ns : List Int} {z : Int} (hc : X.calm = true) (h1 : z ∈ ns) (h2 : ∀ y ∈ ns, z ≤ y) : CallD X (.builtin "min") [.list (ns.map .int)] (.int z) := CallR.to (cr_min hc) fun vs H Q ⟨L, _, hv, k⟩ => by
  cases hv with
  | cons g1 g2 =>
    cases g2
    cases g1 with
    | lst ha hs =>
      refine ⟨_, ns, rfl, by rw [← hs.ints]; exact SqL.of (off_some ha).2, List.length_pos_of_mem h1, fun m hm hle => ?_⟩
      have e : m = z := Int.le_antisymm (hle z h1) (h2 m hm)
      rw [e]
      exact k _ _ (Same.refl _) (.int _)
theorem c_max2 (hc : X.calm = true) : CallD X (.builtin "max") [.int i, .int j] (.int (if j > i then j else i)) := CallR.to (call_max2 hc) fun vs H Q ⟨L, _, hv, k⟩ => by
  cases hv with
  | cons g1 g2 =>
    cases g2 with
    | cons g2 g3 =>
      cases g3; cases g1; cases g2
      exact ⟨i, j, rfl, k _ _ (Same.refl _) (.int _)⟩
theorem c_min2 (hc : X.calm = true) : CallD X (.builtin "min") [.int i, .int j] (.int (if j < i then j else i)) := CallR.to (call_min2 hc) fun vs H Q ⟨L, _, hv, k⟩ => by
  cases hv with
  | cons g1 g2 =>
    cases g2 with
    | cons g2 g3 =>
      cases g3; cases g1; cases g2
      exact ⟨i, j, rfl, k _ _ (Same.refl _) (.int _)⟩
end

/-! ### methods of texts: sep.join -/
section
variable {X : Cx} {W : Wd} {Γ : List DV} {μ : Mu} {e o : Expr} {pos apos p : Pos} {l : List Nat} {ws : List (List Nat)}
theorem flat_join : ∀ ws : List (List Nat), TL.joinL [] ws = ws.flatten
  | [] => rfl
  | [w] => by simp [TL.joinL]
  | w :: v :: r => by
    have ih := flat_join (v :: r)
    rw [List.flatten_cons, ← ih]
    simp [TL.joinL]
theorem vaAll_S {K : PySem.W.Frag} {H : Hp} {vs : List V} (h : VaAll K H vs (ws.map fun w => PyData.str (S w))) : vs = (ws.map S).map V.str := by
  have e : (ws.map fun w => PyData.str (S w)) = (ws.map S).map PyData.str := by rw [List.map_map]; rfl
  rw [e] at h
  exact h.strs
theorem ev_join {Ws : List (List Nat) → Prop} (ho : Ed X W Γ μ o (.str (S []))) (he : Ev X W Γ μ e (fun z => ∃ ws : List (List Nat), z = .list (ws.map fun w => .str (S w)) ∧ Ws ws)) (hz : ∀ ws, Ws ws → (ws.map List.length).sum ≤ 16777216)
    (hs : starEach [e] X.env = [(false, eval e X.env)] := by rfl) (hbase : attributeBase o "join" X.env (eval o X.env) = eval o X.env := by rfl) (hline : (apos.endLine == pos.line) = true := by rfl) :
    Ev X W Γ μ (.Call (.Attribute o "join" apos) [e] [] pos) (fun z => ∃ ws, z = .str (S ws.flatten) ∧ Ws ws) := fun σ H R Q q => by
  refine (pe_join wE.pe wE.pe hs hbase hline).w (ho σ H R _ fun v H2 R2 e2 r2 => ?_)
  cases r2
  refine ⟨⟨_, rfl⟩, he σ H2 R2 _ fun v d H3 R3 e3 r3 ⟨ws, ed, pw⟩ => ?_⟩
  subst ed
  cases r3 with
  | lst ha hv =>
    have ev := vaAll_S hv
    refine ⟨S [], _, ws.map S, rfl, rfl, .inl (by rw [← ev]; exact SqL.of (off_some ha).2), ?_, ?_⟩
    · rw [List.map_map]
      have z := hz ws pw
      have e1 : (ws.map ((fun x : Str => x.length) ∘ S)) = ws.map List.length := List.map_congr_left fun w _ => SX.S_len w
      rw [e1, SX.S_len]
      simpa using z
    · rw [SX.join_S, flat_join]
      exact q _ _ H3 R3 (e2.trans e3) (.str _) ⟨ws, rfl, pw⟩
theorem ed_join (ho : Ed X W Γ μ o (.str (S []))) {ds : List PyData} (he : Ed X W Γ μ e (.list ds)) (ed : ds = ws.map fun w => .str (S w)) (hz : (ws.map List.length).sum ≤ 16777216)
    (hs : starEach [e] X.env = [(false, eval e X.env)] := by rfl) (hbase : attributeBase o "join" X.env (eval o X.env) = eval o X.env := by rfl) (hline : (apos.endLine == pos.line) = true := by rfl) :
    Ed X W Γ μ (.Call (.Attribute o "join" apos) [e] [] pos) (.str (S ws.flatten)) :=
  (ev_join (Ws := fun z => z = ws) ho (he.evP ⟨ws, by rw [ed], rfl⟩) (fun _ q => q ▸ hz) hs hbase hline |>.imp (B := fun z => z = .str (S ws.flatten)) fun d ⟨w, e1, e2⟩ => by rw [e1, e2]).ed

/-! ### slices -/
theorem po_int {lo : Expr} {z : Int} (h : Ed X W Γ μ lo (.int z)) : ∀ σ H, Rep X.K W Γ μ σ H → ∀ Q : Option Int → Hp → Prop, (∀ H2, Rep X.K W Γ μ σ H2 → XT (hd W μ) H H2 → Q (some z) H2) → tPart (wE X lo) σ H Q := fun σ H R Q q => h σ H R _ fun v H2 R2 e2 r => by
  cases r
  exact ⟨z, rfl, q H2 R2 e2⟩
/-- a part of a slice -/
def EdO (X : Cx) (W : Wd) (Γ : List DV) (μ : Mu) (e : Option Expr) (o : Option Int) : Prop := ∃ t, PO X e t ∧ ∀ σ H, Rep X.K W Γ μ σ H → ∀ Q : Option Int → Hp → Prop, (∀ H2, Rep X.K W Γ μ σ H2 → XT (hd W μ) H H2 → Q o H2) → t σ H Q
theorem so_none : EdO X W Γ μ none none := ⟨_, po_none, fun σ H R Q q => q H R XT.refl⟩
theorem so_some {z : Int} (h : Ed X W Γ μ e (.int z)) : EdO X W Γ μ (some e) (some z) := ⟨_, po_some wE.pe, po_int h⟩
/-- a slice by values -/
def rDs (K : PySem.W.Frag) (d : PyData) (lo hi : Option Int) (z : PyData) : V → Option Int → Option Int → Hp → VK → Prop := fun v l h H Q => l = lo ∧ h = hi ∧ ∃ L : List Addr, (∀ a ∈ L, H a ≠ none) ∧ Va K (off L H) v d ∧ ∀ v' H2, Same H H2 → Va K (off L H2) v' z → Q v' H2
def SlD (X : Cx) (d : PyData) (lo hi : Option Int) (z : PyData) : Prop := L2.SlR X (rDs X.K d lo hi z)
theorem SlR.to {r r' : V → Option Int → Option Int → Hp → VK → Prop} (h : L2.SlR X r) (i : ∀ x l u H Q, r' x l u H Q → r x l u H Q) : L2.SlR X r' := fun pins s σ H x v vl vu lo hi sl Q I rx hs pl pu q => h pins s σ H x v vl vu lo hi sl Q I rx hs pl pu (i _ _ _ _ _ q)
theorem ed_sl {a : Expr} {lo hi : Option Expr} {l u : Option Int} {d z : PyData} {p2 : Pos} (ha : Ed X W Γ μ a d) (hl : EdO X W Γ μ lo l) (hu : EdO X W Γ μ hi u) (hs : SlD X d l u z) : Ed X W Γ μ (.Subscript a (.Slice lo hi none p2) pos) z := fun σ H R Q q => by
  obtain ⟨tl, l1, l2⟩ := hl
  obtain ⟨tu, u1, u2⟩ := hu
  refine (pe_slice (r := rDs X.K d l u z) hs wE.pe l1 u1).w (ha σ H R _ fun v H2 R2 e2 r2 => l2 σ H2 R2 _ fun H3 R3 e3 => u2 σ H3 R3 _ fun H4 R4 e4 => ?_)
  exact ⟨rfl, rfl, hd W μ, R4.ne, (r2.up e3).up e4, fun v' H5 s5 r5 => q v' H5 (R4.same s5) (((e2.trans e3).trans e4).trans (XT.same s5)) r5⟩
end
section
variable {X : Cx} {l : List Nat} {ds : List PyData} {n m : Nat}
theorem s_list {lo hi : Option Int} : SlD X (.list ds) lo hi (.list ((ds.drop (HT.sIx ds.length 0 lo)).take (HT.sIx ds.length ds.length hi - HT.sIx ds.length 0 lo))) := SlR.to sl_list fun v l u H Q ⟨e1, e2, L, hL, hv, k⟩ => by
  subst e1 e2
  cases hv with
  | lst ha hs =>
    refine ⟨_, _, rfl, SqL.of (off_some ha).2, fun p hp => ?_⟩
    refine k _ _ (same_new hp) (.lst (off_upd (new_out hL hp)) ?_)
    unfold cutV
    rw [hs.length]
    exact ((hs.drop _).take _).up (XT.same (same_new hp))
theorem s_str {lo hi : Option Int} (h : l.length ≤ 16777216) : SlD X (.str (S l)) lo hi (.str (S ((l.drop (HT.sIx l.length 0 lo)).take (HT.sIx l.length l.length hi - HT.sIx l.length 0 lo)))) := SlR.to sl_str fun v l' u H Q ⟨e1, e2, L, hL, hv, k⟩ => by
  subst e1 e2
  cases hv
  refine ⟨_, rfl, by rw [SX.S_len]; exact h, ?_⟩
  unfold cutS
  rw [SX.S_len]
  exact k _ _ (Same.refl _) (.str _)
/-- x[:n], x[n:], x[n:m] -/
theorem s_listT (n : Nat) {z : Int} (e : z = (n : Int) := by rfl) : SlD X (.list ds) none (some z) (.list (ds.take n)) := by
  have h := s_list (X := X) (ds := ds) (lo := none) (hi := some z)
  subst e
  rw [HT.sIx_none, HT.sIx_nat, List.drop_zero, Nat.sub_zero] at h
  have e2 : ds.take (min n ds.length) = ds.take n := by
    rw [Nat.min_def]
    split
    · rfl
    · rw [List.take_of_length_le (by omega), List.take_of_length_le (by omega)]
  rw [e2] at h
  exact h
theorem s_strT (n : Nat) {z : Int} (hl : l.length ≤ 16777216) (e : z = (n : Int) := by rfl) : SlD X (.str (S l)) none (some z) (.str (S (l.take n))) := by
  have h := s_str (X := X) (l := l) (lo := none) (hi := some z) hl
  subst e
  rw [HT.sIx_none, HT.sIx_nat, List.drop_zero, Nat.sub_zero] at h
  have e2 : l.take (min n l.length) = l.take n := by
    rw [Nat.min_def]
    split
    · rfl
    · rw [List.take_of_length_le (by omega), List.take_of_length_le (by omega)]
  rw [e2] at h
  exact h
theorem s_listD (n : Nat) {z : Int} (e : z = (n : Int) := by rfl) : SlD X (.list ds) (some z) none (.list (ds.drop n)) := by
  have h := s_list (X := X) (ds := ds) (lo := some z) (hi := none)
  subst e
  rw [HT.sIx_none, HT.sIx_nat] at h
  have e2 : (ds.drop (min n ds.length)).take (ds.length - min n ds.length) = ds.drop n := by
    rw [Nat.min_def]
    split
    · rw [List.take_of_length_le (by simp)]
    · rw [List.drop_of_length_le (by omega), List.drop_of_length_le (by omega)]
      simp
  rw [e2] at h
  exact h
theorem s_strD (n : Nat) {z : Int} (hl : l.length ≤ 16777216) (e : z = (n : Int) := by rfl) : SlD X (.str (S l)) (some z) none (.str (S (l.drop n))) := by
  have h := s_str (X := X) (l := l) (lo := some z) (hi := none) hl
  subst e
  rw [HT.sIx_none, HT.sIx_nat] at h
  have e2 : (l.drop (min n l.length)).take (l.length - min n l.length) = l.drop n := by
    rw [Nat.min_def]
    split
    · rw [List.take_of_length_le (by simp)]
    · rw [List.drop_of_length_le (by omega), List.drop_of_length_le (by omega)]
      simp
  rw [e2] at h
  exact h
end

/-! ### isinstance -/
def tyD : PyData → String
  | .none => "NoneType"
  | .bool _ => "bool"
  | .int _ => "int"
  | .str _ => "str"
  | .list _ => "list"
  | .tuple _ => "tuple"
  | .dict _ => "dict"
def isPtr : PyData → Bool
  | .dict (_ :: _) => true
  | _ => false
theorem va_ty {K : PySem.W.Frag} {H : Hp} {L : List Addr} {v : V} {d : PyData} (h : Va K (off L H) v d) (hp : isPtr d = false) : TyX K H v (.type (tyD d)) := by
  cases h with
  | non => exact .base .non
  | bl b => exact .base (.bl b)
  | int i => exact .base (.int i)
  | str x => exact .base (.str x)
  | lst ha _ => exact .base (.lst (off_some ha).2)
  | tup ha _ =>
    rcases SqT.up same_off ha with (h | ⟨o, h⟩) | ⟨o, its, n, hk, hc, _⟩
    · exact .base (.tup h)
    · exact .fTuple h
    · exact .kTuple hk hc
  | dct ha => exact .base (.dK (off_some ha).2)
  | ptr a => cases hp
  | dcf _ _ _ => cases hp
  | dtf _ _ _ => cases hp
section
variable {X : Cx} {W : Wd} {Γ : List DV} {μ : Mu} {e : Expr} {d : PyData} {pos p p2 : Pos} {b : Bool}
theorem ed_isi {T : String} {n : Str} (he : Ed X W Γ μ e d) (hm : X.mg "isinstance" = none) (hmT : X.mg n = none) (hv : bootBuiltins n = some (.type T)) (hk : ∀ K, PySem.W.kitOne K (.type (tyD d)) (.type T) = some b := by intro K; rfl) (hp : isPtr d = false := by first | rfl | assumption) (hg : Gl X "isinstance" := by rfl) (hgT : Gl X n := by rfl)
    (hn : n ≠ "__name__" := by decide) (hdb : (n == ("__debug__" : Str)) = false := by decide)
    (hs : starEach [e, .Name n p2] X.env = (false, eval e X.env) :: starEach [.Name n p2] X.env := by rfl) (hs2 : starEach [.Name n p2] X.env = (false, eval (.Name n p2) X.env) :: starEach [] X.env := by rfl) (hpl : (backTo pos (starEach [.Name n p2] X.env)).any (·.1) = false := by rfl) :
    Ed X W Γ μ (.Call (.Name "isinstance" p) [e, .Name n p2] [] pos) (.bool b) := fun σ H R Q q => by
  refine (pe_callB call_isi hg hm boot_isinstance (pa_cons wE.pe (pa_cons (pe_bltn (v := .ty T) hgT hmT hv rfl hn hdb) pa_nil hs2) hs) (by decide) (by decide) hs hpl).w (he σ H R _ fun v H2 R2 e2 r2 => ?_)
  exact ⟨v, .ty T, _, _, b, rfl, .ty T, va_ty r2 hp, hk _, q _ H2 R2 e2 (.bl b)⟩
end
end HW
set_option maxHeartbeats 4000000
namespace HW
open PySem PySem.Spec PyProof.Rows L2
open SX (S)

/-! ### what is gone through, in one shape -/
inductive Sc where
  | txt (x : Str) | lst (a : Addr) | tup (a : Addr)
def Sc.v : Sc → V
  | .txt x => .str x
  | .lst a => .ref a
  | .tup a => .ref a
def signsV (x : Str) : List V := x.cps.toList.map fun c => .str ⟨#[c]⟩
def Sc.xs (K : PySem.W.Frag) (H : Hp) : Sc → List V → Prop
  | .txt x, xs => xs = signsV x
  | .lst a, xs => SqL K H a xs
  | .tup a, xs => SqT K H a xs
def Sc.fp : Sc → List Addr
  | .txt _ => []
  | .lst a => [a]
  | .tup a => [a]
def Sc.it : Sc → Tok → Addr → Nat → Heap → Prop
  | .txt x, t, it, i, h => h.IsStrIter it (strIterType x) x t i
  | .lst a, _, it, i, h => h.IsListIter it a i
  | .tup a, _, it, i, h => h.IsTupleIter it a i
theorem Sc.at {k : Sc} {t : Tok} {it : Addr} {i : Nat} {h h' : Heap} (s : k.it t it i h) (e : ∀ o, h.get? it = some o → h'.get? it = some o) : k.it t it i h' := by
  cases k with
  | txt x => let ⟨o, ho, r⟩ := s; exact ⟨o, e o ho, r⟩
  | lst a => exact Heap.IsListIter.at s e
  | tup a => exact Heap.IsTupleIter.at s e
theorem Sc.obj {k : Sc} {t : Tok} {it : Addr} {i : Nat} {h : Heap} (s : k.it t it i h) : ∃ o, h.get? it = some o ∧ ∀ v, o.data ≠ .cell v := by
  cases k with
  | txt x => obtain ⟨o, e, c, d⟩ := s; exact ⟨o, e, fun v z => by rw [d] at z; cases z⟩
  | lst a => obtain ⟨o, e, c, d⟩ := s; exact ⟨o, e, fun v z => by rw [d] at z; cases z⟩
  | tup a => obtain ⟨o, e, c, d⟩ := s; exact ⟨o, e, fun v z => by rw [d] at z; cases z⟩
theorem sc_draws {X : Cx} {pins : List (Addr × Obj)} {σ : L2.St} {H : Hp} {s : Shared} {k : Sc} {xs : List V} {t : Tok} {it : Addr} {i : Nat} (I : Inv X pins σ H s) (hc : X.calm = true) (hx : k.xs X.K H xs) (st : k.it t it i s.heap) (hne : ∀ a ∈ k.fp, a ≠ it) :
    ∃ (n : Nat) (P : Nat → Value → Prop) (St : Nat → Heap → Prop), Draws X.prog X.w X.A.in1 it (it :: k.fp) n P St ∧ St i s.heap ∧ n = xs.length ∧ (∀ j v, P j v → ∃ x, xs[j]? = some x ∧ RelV x v) ∧ ∀ j h, St j h → k.it t it j h := by
  have hh : X.A.in1.handled = none := I.ok.hd hc
  cases k with
  | txt x =>
    have e : xs = signsV x := hx
    subst e
    have D := Draws.text (prog := X.prog) (w := X.w) (A := X.A.in1) hh it x t
    refine ⟨_, _, _, D, st, by simp [signsV], fun j v ⟨c, u, h1, h2⟩ => ⟨.str ⟨#[c]⟩, ?_, u, h2⟩, fun j h q => q⟩
    simp [signsV, h1]
  | lst a =>
    obtain ⟨its, rv, p, _⟩ := I.list (show SqL X.K H a xs from hx)
    have D := Draws.list (prog := X.prog) (w := X.w) (A := X.A.in1) hh it a (hne a (by simp [Sc.fp])) its.toArray
    refine ⟨_, _, _, D, ⟨st, p.isList⟩, by simp [rv.length], fun j v hv => ?_, fun j h q => q.1⟩
    have hv' : its[j]? = some v := by simpa using hv
    have hl : j < xs.length := by
      have := (List.getElem?_eq_some_iff.mp hv').1
      rw [rv.length]
      exact this
    have hxj : xs[j]? = some xs[j] := List.getElem?_eq_getElem hl
    obtain ⟨u, hu, ru⟩ := rv.get hxj
    rw [hv'] at hu
    cases hu
    exact ⟨_, hxj, ru⟩
  | tup a =>
    obtain ⟨its, rv, p, _⟩ := I.tuple (show SqT X.K H a xs from hx)
    have D := Draws.tuple (prog := X.prog) (w := X.w) (A := X.A.in1) hh it a (hne a (by simp [Sc.fp])) its.toArray
    refine ⟨_, _, _, D, ⟨st, p⟩, by simp [rv.length], fun j v hv => ?_, fun j h q => q.1⟩
    have hv' : its[j]? = some v := by simpa using hv
    have hl : j < xs.length := by
      have := (List.getElem?_eq_some_iff.mp hv').1
      rw [rv.length]
      exact this
    have hxj : xs[j]? = some xs[j] := List.getElem?_eq_getElem hl
    obtain ⟨u, hu, ru⟩ := rv.get hxj
    rw [hv'] at hu
    cases hu
    exact ⟨_, hxj, ru⟩
theorem Sc.inj {X : Cx} {pins : List (Addr × Obj)} {σ : L2.St} {H : Hp} {s : Shared} {k : Sc} {xs ys : List V} (I : Inv X pins σ H s) (h : k.xs X.K H xs) (h' : k.xs X.K H ys) : xs = ys := by
  cases k with
  | txt x => exact Eq.trans (show xs = signsV x from h) (show ys = signsV x from h').symm
  | lst a => exact I.list_inj h h'
  | tup a => exact I.tuple_inj h h'
theorem sc_begins {X : Cx} {pins : List (Addr × Obj)} {σ : L2.St} {H : Hp} {s : Shared} {k : Sc} {xs : List V} {u : Value} (I : Inv X pins σ H s) (hx : k.xs X.K H xs) (r : RelV k.v u) :
    ∃ (t : Tok) (o : Obj) (G : Heap → Prop), Begins u o G ∧ G s.heap ∧ (∀ b ∈ k.fp, b < s.heap.objs.size) ∧ ∀ it h, h.get? it = some o → k.it t it 0 h := by
  cases k with
  | txt x =>
    obtain ⟨t, rfl⟩ := r
    exact ⟨t, _, _, begins_text x t, trivial, (by intro b hb; simp [Sc.fp] at hb), fun it h e => ⟨_, e, rfl, rfl⟩⟩
  | lst a =>
    obtain rfl : u = .ref a := r
    obtain ⟨its, rv, p, _⟩ := I.list (show SqL X.K H a xs from hx)
    refine ⟨0, _, _, begins_list a its.toArray, p.isList, fun b hb => ?_, fun it h e => ⟨_, e, rfl, rfl⟩⟩
    have e : b = a := by simpa [Sc.fp] using hb
    rw [e]
    exact p.lt
  | tup a =>
    obtain rfl : u = .ref a := r
    obtain ⟨its, rv, p, _⟩ := I.tuple (show SqT X.K H a xs from hx)
    refine ⟨0, _, _, begins_tuple a its.toArray, p, fun b hb => ?_, fun it h e => ⟨_, e, rfl, rfl⟩⟩
    have e : b = a := by simpa [Sc.fp] using hb
    rw [e]
    obtain ⟨o, ho, _⟩ := p
    exact Heap.lt_size ho

/-! ### zip -/
def ItzS (K : PySem.W.Frag) (a b : Sc) : It :=
  ⟨fun i H => ∃ (xs ys : List V), a.xs K H xs ∧ b.xs K H ys ∧ i < xs.length ∧ i < ys.length,
    fun i H v H' => ∃ T x y, v = .ref T ∧ H T = none ∧ H' = upd H T (.tup [x, y]) ∧ (∀ xs, a.xs K H xs → xs[i]? = some x) ∧ ∀ ys, b.xs K H ys → ys[i]? = some y,
    fun i H => ∃ xs ys : List V, a.xs K H xs ∧ b.xs K H ys ∧ i = min xs.length ys.length⟩
theorem turn_zipS {P : Program} {w : World} {K : PySem.W.Frag} {elts : List Expr} {kk : Nat} {tpos : Pos} {a b : Sc} {N : Nat} (t1 t2 : Tok) (ha : ∀ x ∈ a.fp, x < N) (hb : ∀ x ∈ b.fp, x < N) :
    Turn P w K (.Tuple elts kk tpos) (ItzS K a b) [N + 4, N + 2, N + 3, N, N + 1] (N + 4) (fun i h => IsZip h (N + 4) (N + 2) (N + 3) .none ∧ IsTupOf2 h (N + 2) (.ref N) (.ref (N + 1)) ∧ (∃ x y, IsTupOf2 h (N + 3) x y) ∧ a.it t1 N i h ∧ b.it t2 (N + 1) i h) where
  mem := by simp
  obj := fun i h st c hc => by
    obtain ⟨hz, hTI, ⟨x, y, hTO⟩, h1, h2⟩ := st
    have e' : c = N + 4 ∨ c = N + 2 ∨ c = N + 3 ∨ c = N ∨ c = N + 1 := by simpa using hc
    rcases e' with q | q | q | q | q
    · rw [q]; exact ⟨_, hz, fun v q => nomatch q⟩
    · rw [q]; exact ⟨_, hTI, fun v q => nomatch q⟩
    · rw [q]; exact ⟨_, hTO, fun v q => nomatch q⟩
    · rw [q]; exact Sc.obj h1
    · rw [q]; exact Sc.obj h2
  keep := fun i h h' st k => by
    obtain ⟨hz, hTI, ⟨x, y, hTO⟩, h1, h2⟩ := st
    exact ⟨k (N + 4) (by simp) _ hz, k (N + 2) (by simp) _ hTI, ⟨x, y, k (N + 3) (by simp) _ hTO⟩, Sc.at h1 (k N (by simp)), Sc.at h2 (k (N + 1) (by simp))⟩
  item := by
    intro X hP hw hK hc i pins s σ H E I hf st hg
    subst hP hw hK
    obtain ⟨hz, hTI, ⟨x0, y0, hTO⟩, h1, h2⟩ := st
    obtain ⟨xs, ys, hqx, hqy, hx, hy⟩ := hg
    obtain ⟨n1, P1, St1, D1, s1, e1, p1, b1⟩ := sc_draws I hc hqx h1 (fun x m => Nat.ne_of_lt (ha x m))
    obtain ⟨n2, P2, St2, D2, s2, e2, p2, b2⟩ := sc_draws I hc hqy h2 (fun x m => Nat.ne_of_lt (Nat.lt_succ_of_lt (hb x m)))
    have Z := zip_sep2 ha hb
    have hzl : N + 4 < s.heap.objs.size := Heap.lt_size hz
    refine wpAny_pyNext_zipD2_item Z D1 D2 hz hTI hTO s1 s2 (by omega) (by omega) fun x1 x2 h' tk hp1 hp2 z' TO' st1' st2' hT hsz hk => ?_
    refine ⟨_, rfl, wpAny_letOwnedTupleGo_zip (s := { s with heap := h', toks := tk }) z' fun h'' z'' sb => ?_⟩
    obtain ⟨v1, g1, r1⟩ := p1 i x1 hp1
    obtain ⟨v2, g2, r2⟩ := p2 i x2 hp2
    have hT2 : h''.get? s.heap.objs.size = some { cls := .type "tuple", data := .seq #[x1, x2] } := (sb.2 _ (Nat.ne_of_gt hzl)).trans hT
    have new : ObjOk X.prog X.w (upd H s.heap.objs.size (.tup [v1, v2])) h'' s.heap.objs.size (.tup [v1, v2]) :=
      ⟨by show 2 ≤ sizeLine; decide, [x1, x2], .cons r1 (.cons r2 .nil), ⟨_, hT2, rfl, _, rfl⟩⟩
    have I1 : Inv X pins σ (upd H s.heap.objs.size (.tup [v1, v2])) { s with heap := h'', toks := tk } :=
      I.turnedNew (t' := tk) (ch := [N + 4, N + 2, N + 3, N, N + 1]) (fun c o hb q => (sb.2 c (fun q' => hb (by simp [q']))).trans (hk c o (fun q' => hb (by simp [q'])) (fun q' => hb (by simp [q'])) (fun q' => hb (by simp [q'])) (fun q' => hb (by simp [q'])) q)) hf (Nat.le_refl _) new
    refine ⟨.ref s.heap.objs.size, _, I1, rfl, ⟨_, v1, v2, rfl, I.hok.fresh (Nat.le_refl _), rfl, fun l hl => by rw [Sc.inj I hl hqx]; exact g1, fun l hl => by rw [Sc.inj I hl hqy]; exact g2⟩, ⟨z'', ?_, ⟨x1, x2, ?_⟩, ?_, ?_⟩, fun c hcm => ?_⟩
    · exact (sb.2 _ Z.TIz).trans (hk _ _ Z.TIz Z.TITO Z.TIi1 Z.TIi2 hTI)
    · exact (sb.2 _ Z.TOz).trans TO'
    · exact Sc.at (b1 _ _ st1') fun o q => (sb.2 _ (Ne.symm Z.zi1)).trans q
    · exact Sc.at (b2 _ _ st2') fun o q => (sb.2 _ (Ne.symm Z.zi2)).trans q
    · have hlt : c < s.heap.objs.size := by
        have e' : c = N + 4 ∨ c = N + 2 ∨ c = N + 3 ∨ c = N ∨ c = N + 1 := by simpa using hcm
        have hzl' : N + 4 < s.heap.objs.size := hzl
        rcases e' with q | q | q | q | q <;> (have q' : c = _ := q; rw [q']; first | exact hzl | exact Nat.lt_trans (by simp [Nat.lt_succ_self] : _ < N + 4) hzl | (refine Nat.lt_of_le_of_lt ?_ hzl; simp))
      rw [upd_ne (Nat.ne_of_lt hlt)]
      exact (hf c hcm).1
  done := by
    intro X hP hw hK hc i pins s σ H E I hf st hg
    subst hP hw hK
    obtain ⟨hz, hTI, ⟨x0, y0, hTO⟩, h1, h2⟩ := st
    obtain ⟨xs, ys, hqx, hqy, hend⟩ := hg
    obtain ⟨n1, P1, St1, D1, s1, e1, p1, b1⟩ := sc_draws I hc hqx h1 (fun x m => Nat.ne_of_lt (ha x m))
    obtain ⟨n2, P2, St2, D2, s2, e2, p2, b2⟩ := sc_draws I hc hqy h2 (fun x m => Nat.ne_of_lt (Nat.lt_succ_of_lt (hb x m)))
    refine wpAny_pyNext_zipD2_end (zip_sep2 ha hb) D1 D2 hz hTI hTO s1 s2 (by omega) (by omega) (by omega) fun h' tk hk => ⟨rfl, I.turnedL (t' := tk) (ch := [N + 4, N + 2, N + 3, N, N + 1]) (fun c o hb q =>
      hk c o (fun q' => hb (by simp [q'])) (fun q' => hb (by simp [q'])) (fun q' => hb (by simp [q'])) (fun q' => hb (by simp [q'])) q) hf⟩
  self := fun A i s Q E st h => wpAny_pyIter_zip st.1 h
def iZipS (K : PySem.W.Frag) (ta : TA) : TI := fun σ H R => ta σ H fun vs H1 => ∃ a b xs ys, vs = [Sc.v a, Sc.v b] ∧ a.xs K H1 xs ∧ b.xs K H1 ys ∧ R (ItzS K a b) H1
theorem pi_zipS {X : Cx} {e e2 : Expr} {ta : TA} {p pos tpos : Pos} {elts : List Expr} {kk : Nat} (hg : Gl X "zip") (hm : X.mg "zip" = none) (ha : PA X [e, e2] ta)
    (hs : starEach [e, e2] X.env = (false, eval e X.env) :: starEach [e2] X.env := by rfl) (hpl : (backTo pos (starEach [e2] X.env)).any (·.1) = false := by rfl) :
    PI X (.Tuple elts kk tpos) (.Call (.Name "zip" p) [e, e2] [] pos) (iZipS X.K ta) := by
  refine ⟨fun pins s σ H R I h => ?_⟩
  refine Call_ (ld_blt I hg hm PyProof.Rows.boot_zip (PyProof.Rows.callWith_type1 (thn (ha.run pos pins s σ H _ I h) fun us s1 ⟨vs, H1, I1, r1, q1⟩ => ?_) hs hpl))
  obtain ⟨a, b, xs, ys, ex, hqx, hqy, q⟩ := q1
  subst ex
  cases r1 with
  | cons r rr =>
    cases rr with
    | cons r' rr =>
      cases rr
      obtain ⟨t1, o1, G1, B1, g1, f1, i1⟩ := sc_begins I1 hqx r
      obtain ⟨t2, o2, G2, B2, g2, f2, i2⟩ := sc_begins I1 hqy r'
      refine zip_begins2 B1 B2 g1 g2 fun h' hz hTI hTO h1 h2 hsz hk => wpAny_pyIter_zip hz ?_
      have I2 : Inv X pins σ H1 { s1 with heap := h' } := I1.kept (t' := s1.toks) hk
      refine ⟨s1.heap.objs.size + 4, [s1.heap.objs.size + 4, s1.heap.objs.size + 2, s1.heap.objs.size + 3, s1.heap.objs.size, s1.heap.objs.size + 1], _, _, H1, rfl, I2, turn_zipS t1 t2 f1 f2, ⟨hz, hTI, ⟨_, _, hTO⟩, i1 _ _ h1, i2 _ _ h2⟩, fun c hcm => ?_, q⟩
      have e' : c = s1.heap.objs.size + 4 ∨ c = s1.heap.objs.size + 2 ∨ c = s1.heap.objs.size + 3 ∨ c = s1.heap.objs.size ∨ c = s1.heap.objs.size + 1 := by simpa using hcm
      have hle : s1.heap.objs.size ≤ c := by
        rcases e' with z | z | z | z | z
        · rw [z]; exact Nat.le_add_right _ _
        · rw [z]; exact Nat.le_add_right _ _
        · rw [z]; exact Nat.le_add_right _ _
        · rw [z]; exact Nat.le_refl _
        · rw [z]; exact Nat.le_add_right _ _
      exact I1.fpOk hle (I1.hok.fresh hle)

/-! ### enumerate -/
def IteS (K : PySem.W.Frag) (a : Sc) : It :=
  ⟨fun i H => ∃ (xs : List V), a.xs K H xs ∧ i < xs.length, fun i H v H' => ∃ T x, v = .ref T ∧ H T = none ∧ H' = upd H T (.tup [.int (i : Nat), x]) ∧ ∀ xs, a.xs K H xs → xs[i]? = some x, fun i H => ∃ xs : List V, a.xs K H xs ∧ i = xs.length⟩
theorem turn_enumS {P : Program} {w : World} {K : PySem.W.Frag} {elts : List Expr} {kk : Nat} {tpos : Pos} {a : Sc} {N : Nat} (t : Tok) (ha : ∀ x ∈ a.fp, x < N) :
    Turn P w K (.Tuple elts kk tpos) (IteS K a) [N + 1, N] (N + 1) (fun i h => (∃ old, IsEnum h (N + 1) N ((i : Nat) : Int) old) ∧ a.it t N i h) where
  mem := by simp
  obj := fun i h st b hb => by
    obtain ⟨⟨old, he⟩, h1⟩ := st
    have e' : b = N + 1 ∨ b = N := by simpa using hb
    rcases e' with z | z
    · rw [z]; exact ⟨_, he, fun v q => nomatch q⟩
    · rw [z]; exact Sc.obj h1
  keep := fun i h h' st k => let ⟨⟨old, he⟩, hi⟩ := st; ⟨⟨old, k (N + 1) (by simp) _ he⟩, Sc.at hi (k N (by simp))⟩
  item := by
    intro X hP hw hK hc i pins s σ H E I hf st hg
    subst hP hw hK
    obtain ⟨⟨old, he⟩, hit⟩ := st
    obtain ⟨xs, hq, hx⟩ := hg
    obtain ⟨n1, P1, St1, D1, s1, e1, p1, b1⟩ := sc_draws I hc hq hit (fun x m => Nat.ne_of_lt (ha x m))
    have hel : N + 1 < s.heap.objs.size := Heap.lt_size he
    have hef : N + 1 ∉ N :: a.fp := fun m => by
      rcases List.mem_cons.mp m with z | z
      · exact Nat.succ_ne_self _ z
      · exact absurd (ha _ z) (by have : ¬ (N + 1 < N) := by omega
                                  exact this)
    refine wpAny_pyNext_enum_itemC D1 he s1 (by omega) (Nat.succ_ne_self _) hef fun x h' tk hp ho st' hT hsz hk => ?_
    refine ⟨_, rfl, wpAny_letOwnedTupleGo_enum (s := { s with heap := h', toks := tk + 1 }) ho fun h'' he' sb => ?_⟩
    obtain ⟨v1, g1, r1⟩ := p1 i x hp
    have hT2 : h''.get? s.heap.objs.size = some { cls := .type "tuple", data := .seq #[.int i tk, x] } := (sb.2 _ (Nat.ne_of_gt hel)).trans hT
    have new : ObjOk X.prog X.w (upd H s.heap.objs.size (.tup [.int (i : Nat), v1])) h'' s.heap.objs.size (.tup [.int (i : Nat), v1]) :=
      ⟨by show 2 ≤ sizeLine; decide, [.int i tk, x], .cons ⟨_, rfl⟩ (.cons r1 .nil), ⟨_, hT2, rfl, _, rfl⟩⟩
    have I1 : Inv X pins σ (upd H s.heap.objs.size (.tup [.int (i : Nat), v1])) { s with heap := h'', toks := tk + 1 } :=
      I.turnedNew (ch := [N + 1, N]) (fun b ob hb q => (sb.2 b (fun z => hb (by simp [z]))).trans (hk b ob (fun z => hb (by simp [z])) (fun z => hb (by simp [z])) q)) hf (Nat.le_refl _) new
    refine ⟨.ref s.heap.objs.size, _, I1, rfl, ⟨_, v1, rfl, I.hok.fresh (Nat.le_refl _), rfl, fun ys hy => by rw [Sc.inj I hy hq]; exact g1⟩, ⟨⟨x, ?_⟩, Sc.at (b1 _ _ st') fun o q => (sb.2 N (Ne.symm (Nat.succ_ne_self N))).trans q⟩, fun b hb => ?_⟩
    · have e1 : ((i + 1 : Nat) : Int) = (i : Int) + 1 := by omega
      rw [e1]; exact he'
    · have hb' : b < s.heap.objs.size := by
        have e' : b = N + 1 ∨ b = N := by simpa using hb
        rcases e' with z | z
        · rw [z]; exact hel
        · rw [z]; exact Nat.lt_trans (Nat.lt_succ_self _) hel
      rw [upd_ne (Nat.ne_of_lt hb')]
      exact (hf b hb).1
  done := by
    intro X hP hw hK hc i pins s σ H E I hf st hg
    subst hP hw hK
    obtain ⟨⟨old, he⟩, hit⟩ := st
    obtain ⟨xs, hq, hx⟩ := hg
    obtain ⟨n1, P1, St1, D1, s1, e1, p1, b1⟩ := sc_draws I hc hq hit (fun x m => Nat.ne_of_lt (ha x m))
    obtain ⟨f0, f1, f2, f3, f4, f5⟩ := hf N (by simp)
    have e : i = n1 := by omega
    subst e
    exact wpAny_pyNext_enum_endD D1 he s1 fun h' eb => ⟨rfl, I.turned (t' := s.toks) (fun b o hb q => eb b o hb q) f0 f1 f3 f4 f5⟩
  self := fun A i s Q E st h => let ⟨⟨_, he⟩, _⟩ := st; wpAny_pyIter_enum he h
def iEnumS (K : PySem.W.Frag) (ta : TA) : TI := fun σ H R => ta σ H fun vs H1 => ∃ a xs, vs = [Sc.v a] ∧ (∀ t, a ≠ .tup t) ∧ a.xs K H1 xs ∧ R (IteS K a) H1
theorem pi_enumS {X : Cx} {e : Expr} {ta : TA} {p pos tpos : Pos} {elts : List Expr} {kk : Nat} (hg : Gl X "enumerate") (hm : X.mg "enumerate" = none) (ha : PA X [e] ta) (hs : starEach [e] X.env = [(false, eval e X.env)] := by rfl) :
    PI X (.Tuple elts kk tpos) (.Call (.Name "enumerate" p) [e] [] pos) (iEnumS X.K ta) := by
  refine ⟨fun pins s σ H R I h => ?_⟩
  refine Call_ (ld_blt I hg hm boot_enumerate (PyProof.Rows.callWith_type1 (thn (ha.run pos pins s σ H _ I h) fun us s1 ⟨vs, H1, I1, r1, q1⟩ => ?_) hs rfl))
  obtain ⟨a, xs, ex, nt, hq, q⟩ := q1
  subst ex
  have fin : ∀ (h' : Heap) (t : Tok), (∀ x ∈ a.fp, x < s1.heap.objs.size) → IsEnum h' (s1.heap.objs.size + 1) s1.heap.objs.size 0 .none → a.it t s1.heap.objs.size 0 h' → (∀ b o, s1.heap.get? b = some o → h'.get? b = some o) →
      PIE X pins σ (.Tuple elts kk tpos) R (.ref (s1.heap.objs.size + 1)) { s1 with heap := h' } := fun h' t hfp he hit hk => by
    have I2 : Inv X pins σ H1 { s1 with heap := h' } := I1.kept (t' := s1.toks) hk
    refine ⟨s1.heap.objs.size + 1, [s1.heap.objs.size + 1, s1.heap.objs.size], _, _, H1, rfl, I2, turn_enumS t hfp, ⟨⟨.none, he⟩, hit⟩, fun b hb => ?_, q⟩
    have e' : b = s1.heap.objs.size + 1 ∨ b = s1.heap.objs.size := by simpa using hb
    have hle : s1.heap.objs.size ≤ b := by
      rcases e' with z | z
      · rw [z]; exact Nat.le_add_right _ _
      · rw [z]; exact Nat.le_refl _
    exact I1.fpOk hle (I1.hok.fresh hle)
  cases r1 with
  | cons r rr =>
    cases rr
    cases a with
    | txt x =>
      obtain ⟨t, rfl⟩ := r
      exact call_enumerate_str fun h' he hit hsz hk => wpAny_pyIter_enum he (fin h' t (by intro b hb; simp [Sc.fp] at hb) he hit hk)
    | lst a =>
      obtain ⟨its, rv, p', hz⟩ := I1.list (show SqL X.K H1 a xs from hq)
      cases r
      refine call_enumerate_list p'.isList fun h' he hit hsz hk => wpAny_pyIter_enum he (fin h' 0 (fun b hb => ?_) he hit hk)
      have e : b = a := by simpa [Sc.fp] using hb
      rw [e]
      exact p'.lt
    | tup a => exact absurd rfl (nt a)

/-! ### over data -/
/-- the items of data -/
def itemsD : PyData → Option (List PyData)
  | .str x => some (x.cps.toList.map sg)
  | .list ds => some ds
  | .tuple ds => some ds
  | _ => none
theorem va_signs {K : PySem.W.Frag} {H : Hp} : ∀ cs : List Nat, VaAll K H (cs.map fun c => V.str ⟨#[c]⟩) (cs.map sg)
  | [] => .nil
  | c :: cs => .cons (.str _) (va_signs cs)
theorem va_sc {K : PySem.W.Frag} {pool : Hp} {v : V} {d : PyData} {ds : List PyData} (h : Va K pool v d) (e : itemsD d = some ds) : ∃ (a : Sc) (xs : List V), v = a.v ∧ (∀ H, Same pool H → a.xs K H xs) ∧ VaAll K pool xs ds ∧ ((∀ t, d ≠ .tuple t) → ∀ t, a ≠ .tup t) := by
  cases h with
  | str x => cases e; exact ⟨.txt x, _, rfl, fun _ _ => rfl, va_signs _, fun _ _ => (nomatch ·)⟩
  | lst ha hs => cases e; exact ⟨.lst _, _, rfl, fun H s => SqL.of (s _ _ ha), hs, fun _ _ => (nomatch ·)⟩
  | tup ha hs => cases e; exact ⟨.tup _, _, rfl, fun H s => SqT.up s ha, hs, fun n _ => absurd rfl (n _)⟩
  | non => cases e
  | bl b => cases e
  | int i => cases e
  | dct ha => cases e
  | ptr a => cases e
  | dcf _ _ _ => cases e
  | dtf _ _ _ => cases e
/-- a pair -/
abbrev pr2 (x y : PyData) : PyData := .tuple [x, y]
theorem sc_get {K : PySem.W.Frag} {L : List Addr} {pool H : Hp} {a : Sc} {xs : List V} {ds : List PyData} {i : Nat} {d : PyData} {v : V} (hx : ∀ H, Same pool H → a.xs K H xs) (hv : VaAll K pool xs ds) (s : Same pool (off L H)) (hd : ds[i]? = some d) (y : ∀ ys, a.xs K H ys → ys[i]? = some v) : Va K (off L H) v d := by
  obtain ⟨v2, e, r⟩ := hv.at hd
  have := y xs (hx H (fun b o q => (off_some (s b o q)).2))
  rw [e] at this
  cases this
  exact r.up s
theorem walk_enumS {K : PySem.W.Frag} {pool : Hp} {a : Sc} {xs : List V} {ds : List PyData} (hx : ∀ H, Same pool H → a.xs K H xs) (hv : VaAll K pool xs ds) : WalkD K pool (IteS K a) (ds.mapIdx fun i d => pr2 (nn i) d) where
  go := fun i H hi s => ⟨xs, hx H s, by rw [hv.length]; simpa using hi⟩
  yld := fun i d H v H' L hd hL s y => by
    obtain ⟨T, x, rfl, hT, rfl, y⟩ := y
    have sm := same_new (o := .tup [.int (i : Nat), x]) hT
    refine ⟨sm, ?_⟩
    rw [List.getElem?_mapIdx] at hd
    obtain ⟨d1, h1, rfl⟩ := Option.map_eq_some_iff.mp hd
    have r := sc_get hx hv s h1 y
    exact .tup (.inl (.inl (off_upd (new_out hL hT)))) (.cons (.int _) (.cons (r.up (XT.same sm)) .nil))
  stop := fun H s => ⟨xs, hx H s, by rw [hv.length]; simp⟩
theorem walk_zipS {K : PySem.W.Frag} {pool : Hp} {a b : Sc} {xs ys : List V} {ds es : List PyData} (hx : ∀ H, Same pool H → a.xs K H xs) (hv : VaAll K pool xs ds) (hy : ∀ H, Same pool H → b.xs K H ys) (hw : VaAll K pool ys es) : WalkD K pool (ItzS K a b) (List.zipWith pr2 ds es) where
  go := fun i H hi s => ⟨xs, ys, hx H s, hy H s, by rw [List.length_zipWith] at hi; rw [hv.length]; omega, by rw [List.length_zipWith] at hi; rw [hw.length]; omega⟩
  yld := fun i d H v H' L hd hL s y => by
    obtain ⟨T, x, z, rfl, hT, rfl, y1, y2⟩ := y
    have sm := same_new (o := .tup [x, z]) hT
    refine ⟨sm, ?_⟩
    rw [List.getElem?_zipWith] at hd
    cases e1 : ds[i]? with
    | none => rw [e1] at hd; simp at hd
    | some d1 =>
      cases e2 : es[i]? with
      | none => rw [e1, e2] at hd; simp at hd
      | some d2 =>
        rw [e1, e2] at hd
        cases hd
        have r1 := sc_get hx hv s e1 y1
        have r2 := sc_get hy hw s e2 y2
        exact .tup (.inl (.inl (off_upd (new_out hL hT)))) (.cons (r1.up (XT.same sm)) (.cons (r2.up (XT.same sm)) .nil))
  stop := fun H s => ⟨xs, ys, hx H s, hy H s, by rw [hv.length, hw.length, List.length_zipWith]⟩
section
variable {X : Cx} {W : Wd} {Γ : List DV} {μ : Mu} {α β : Type} {a b : Expr} {pos p tpos : Pos} {elts : List Expr} {kk : Nat} {d d2 : PyData} {enc : α → PyData} {enc2 : β → PyData} {xs : List α} {ys : List β}
/-- enumerate(text), enumerate(list): pairs of place and item -/
theorem it_enum (h : Ed X W Γ μ a d) (hm : X.mg "enumerate" = none) (e : itemsD d = some (xs.map enc)) (hd : ∀ t, d ≠ .tuple t := by intro _; nofun) (hg : Gl X "enumerate" := by rfl) (hs : starEach [a] X.env = [(false, eval a X.env)] := by rfl) :
    IterD X W Γ μ (.Tuple elts kk tpos) (.Call (.Name "enumerate" p) [a] [] pos) (fun q : Nat × α => pr2 (nn q.1) (enc q.2)) (xs.mapIdx Prod.mk) := ⟨_, pi_enumS hg hm wA.pa hs, fun σ H R R' k => (ea_cons h ea_nil (by rw [hs]; rfl)) σ H R _ fun vs H1 R1 e1 r => by
  cases r with
  | cons r rr =>
    cases rr
    obtain ⟨sc, vs, rfl, h1, h2, h3⟩ := va_sc r e
    refine ⟨sc, vs, rfl, h3 hd, h1 H1 same_off, k _ _ H1 rfl R1 e1 ?_⟩
    have z := walk_enumS h1 h2
    have e : ((xs.map enc).mapIdx fun i d => pr2 (nn i) d) = (xs.mapIdx Prod.mk).map fun q : Nat × α => pr2 (nn q.1) (enc q.2) := by
      apply List.ext_getElem?
      intro i
      simp only [List.getElem?_mapIdx, List.getElem?_map, Option.map_map]
      rfl
    rw [e] at z
    exact z⟩
/-- zip of two -/
theorem it_zip (h1 : Ed X W Γ μ a d) (h2 : Ed X W Γ μ b d2) (hm : X.mg "zip" = none) (e1 : itemsD d = some (xs.map enc)) (e2 : itemsD d2 = some (ys.map enc2)) (hg : Gl X "zip" := by rfl) (hs : starEach [a, b] X.env = (false, eval a X.env) :: starEach [b] X.env := by rfl) (hs2 : starEach [b] X.env = [(false, eval b X.env)] := by rfl) (hpl : (backTo pos (starEach [b] X.env)).any (·.1) = false := by rfl) :
    IterD X W Γ μ (.Tuple elts kk tpos) (.Call (.Name "zip" p) [a, b] [] pos) (fun q : α × β => pr2 (enc q.1) (enc2 q.2)) (xs.zip ys) := ⟨_, pi_zipS hg hm wA.pa hs hpl, fun σ H R R' k => (ea_cons h1 (ea_cons h2 ea_nil hs2) hs) σ H R _ fun vs H1 R1 x1 r => by
  cases r with
  | cons r rr =>
    cases rr with
    | cons r2 rr =>
      cases rr
      obtain ⟨s1, v1, rfl, g1, g2, g3⟩ := va_sc r e1
      obtain ⟨s2, v2, rfl, f1, f2, f3⟩ := va_sc r2 e2
      refine ⟨s1, s2, v1, v2, rfl, g1 H1 same_off, f1 H1 same_off, k _ _ H1 rfl R1 x1 ?_⟩
      have z := walk_zipS g1 g2 f1 f2
      have e : List.zipWith pr2 (xs.map enc) (ys.map enc2) = (xs.zip ys).map fun q : α × β => pr2 (enc q.1) (enc2 q.2) := by
        rw [List.zipWith_map, List.zip, List.map_zipWith]
      rw [e] at z
      exact z⟩
end
end HW
set_option maxHeartbeats 4000000
namespace HW
open PySem PySem.Spec PyProof.Rows L2
open SX (S)

/-! ### the distinct items, as they are first met -/
section
variable {α : Type} [DecidableEq α]
def uqS (acc : List α) (k : α) : List α := if k ∈ acc then acc else acc ++ [k]
def uq (ks : List α) : List α := ks.foldl uqS []
theorem uq_snoc (ks : List α) (k : α) : uq (ks ++ [k]) = uqS (uq ks) k := by unfold uq; rw [List.foldl_append]; rfl
theorem mem_uqS {acc : List α} {k x : α} : x ∈ uqS acc k ↔ x ∈ acc ∨ x = k := by
  unfold uqS
  by_cases h : k ∈ acc
  · rw [if_pos h]
    exact ⟨.inl, fun q => q.elim id fun e => e ▸ h⟩
  · rw [if_neg h, List.mem_append, List.mem_singleton]
theorem mem_foldl_uqS {x : α} : ∀ {ks acc : List α}, x ∈ ks.foldl uqS acc ↔ x ∈ acc ∨ x ∈ ks
  | [], acc => by simp
  | k :: ks, acc => by
    rw [List.foldl_cons, mem_foldl_uqS, mem_uqS, List.mem_cons, or_assoc]
theorem mem_uq {x : α} {ks : List α} : x ∈ uq ks ↔ x ∈ ks := by unfold uq; rw [mem_foldl_uqS]; simp
theorem nodup_uqS {acc : List α} {k : α} (h : acc.Nodup) : (uqS acc k).Nodup := by
  unfold uqS
  by_cases q : k ∈ acc
  · rw [if_pos q]; exact h
  · rw [if_neg q]
    exact List.nodup_append.mpr ⟨h, by simp, fun a ha b hb => by rw [List.mem_singleton] at hb; rintro rfl; exact q (hb ▸ ha)⟩
theorem nodup_foldl_uqS : ∀ {ks acc : List α}, acc.Nodup → (ks.foldl uqS acc).Nodup
  | [], _, h => h
  | k :: ks, _, h => nodup_foldl_uqS (ks := ks) (nodup_uqS h)
theorem nodup_uq (ks : List α) : (uq ks).Nodup := nodup_foldl_uqS List.nodup_nil
theorem len_foldl_uqS : ∀ (ks acc : List α), (ks.foldl uqS acc).length ≤ acc.length + ks.length
  | [], acc => Nat.le_refl _
  | k :: ks, acc => by
    rw [List.foldl_cons]
    have h := len_foldl_uqS ks (uqS acc k)
    have h2 : (uqS acc k).length ≤ acc.length + 1 := by
      unfold uqS
      split
      · omega
      · simp
    rw [List.length_cons]
    omega
theorem len_uq (ks : List α) : (uq ks).length ≤ ks.length := by
  have h := len_foldl_uqS ks []
  simpa [uq] using h
theorem foldl_uqS_nodup : ∀ {ks acc : List α}, (acc ++ ks).Nodup → ks.foldl uqS acc = acc ++ ks
  | [], acc, _ => by simp
  | k :: ks, acc, h => by
    have hk : k ∉ acc := fun q => (List.nodup_append.mp h).2.2 k q k List.mem_cons_self rfl
    rw [List.foldl_cons]
    have e : uqS acc k = acc ++ [k] := if_neg hk
    rw [e, foldl_uqS_nodup (by rw [List.append_assoc]; exact h), List.append_assoc]
    rfl
theorem uq_nodup {ks : List α} (h : ks.Nodup) : uq ks = ks := by
  have := foldl_uqS_nodup (ks := ks) (acc := []) (by simpa using h)
  simpa [uq] using this
theorem uq_len_iff {ks : List α} : (uq ks).length = ks.length ↔ ks.Nodup := by
  constructor
  · intro h
    -- count strictly falls at a repeated item
    have key : ∀ (ks acc : List α), acc.Nodup → (ks.foldl uqS acc).length = acc.length + ks.length → (acc ++ ks).Nodup := by
      intro ks
      induction ks with
      | nil => intro acc ha _; simpa using ha
      | cons k ks ih =>
        intro acc ha e
        rw [List.foldl_cons] at e
        by_cases q : k ∈ acc
        · have e2 : uqS acc k = acc := if_pos q
          rw [e2] at e
          have := len_foldl_uqS ks acc
          rw [List.length_cons] at e
          omega
        · have e2 : uqS acc k = acc ++ [k] := if_neg q
          rw [e2] at e
          have z := ih (acc ++ [k]) (by rw [← e2]; exact nodup_uqS ha) (by rw [e]; simp; omega)
          rw [List.append_assoc] at z
          exact z
    have z := key ks [] List.nodup_nil (by simpa [uq] using h)
    simpa using z
  · intro h
    rw [uq_nodup h]
end

/-! ### set(list) of keys of one kind -/
section
variable {prog : Program} {w : World} {K : Type} [DecidableEq K] {knd : KeyKind prog w K} {A : Around} {R : Result → Shared → Prop} {I : Addr} {fp wr : List Addr} {G : Array GenState → Array GenState → Prop} {n : Nat} {P : Nat → Value → Prop} {St : Nat → Shared → Prop}
theorem set_congr {h : Heap} {a : Addr} {S S' : K → Bool} {n n' : Nat} (hS : h.SetOf knd a S n) (e : ∀ k, S k = S' k) (en : n = n') : h.SetOf knd a S' n' := by
  have : S = S' := funext e
  subst this; subst en; exact hS
theorem set_loop (W : WalksS prog w A.in1 I fp wr G n P St) (S : Addr) (hSf : S ∉ fp) (ks : List K) (hn : ks.length = n) (hb : n + 1 < scanBound)
    (hval : ∀ i v, P i v → ∃ k, ks[i]? = some k ∧ knd.is k v = true ∧ v.scannable = true) :
    ∀ (k i : Nat) (s : Shared), n - i = k → i ≤ n → St i s →
      s.heap.SetOf knd S (fun k' => decide (k' ∈ ks.take i)) (uq (ks.take i)).length →
      (∀ s', Moved (S :: wr) G s s' → s'.heap.SetOf knd S (fun k' => decide (k' ∈ ks)) (uq ks).length → R (.ok (.ret .none)) s') →
      codeAny (model prog w) A (.builtin "set.update.loop" ⟨[.ref S, .ref I], []⟩) R s := by
  have hSw : S ∉ wr := fun h => hSf (W.sub _ h)
  have hsub : ∀ b ∈ wr, b ∈ S :: wr := fun b hb => List.mem_cons_of_mem _ hb
  intro k
  induction k with
  | zero =>
    intro i s hk hi hst hS hR
    have hin : i = n := by omega
    subst hin
    refine codeAny_builtin PyProof.Rows.F.entry_set_update_loop ?_
    rw [Around.under_plainId PyProof.Rows.F.plain_set_update_loop _]
    show wpAny _ A.in1 (pyNext (.ref I) >>= _) _ _ s
    refine wpAny_bind (W.done s _ _ hst fun s' hm => ?_)
    show wpAny _ A.in1 (ret Value.none) _ _ s'
    rw [← hn, List.take_length] at hS
    exact wpAny_pure (hR s' (hm.mono hsub) (by
      obtain ⟨o, es, ep, t, ho, rest⟩ := hS
      exact ⟨o, es, ep, t, hm.heap S _ hSw ho, rest⟩))
  | succ k ih =>
    intro i s hk hi hst hS hR
    have hlt : i < n := by omega
    refine codeAny_builtin PyProof.Rows.F.entry_set_update_loop ?_
    rw [Around.under_plainId PyProof.Rows.F.plain_set_update_loop _]
    show wpAny _ A.in1 (pyNext (.ref I) >>= _) _ _ s
    refine wpAny_bind (W.item i s _ _ hlt hst fun v s' hP hst' hm => ?_)
    obtain ⟨q, hq, his, hsc⟩ := hval i v hP
    have hS' : s'.heap.SetOf knd S (fun k' => decide (k' ∈ ks.take i)) (uq (ks.take i)).length := by
      obtain ⟨o, es, ep, tb, ho, rest⟩ := hS
      exact ⟨o, es, ep, tb, hm.heap S _ hSw ho, rest⟩
    show wpAny _ A.in1 (holding [v] (setAdd S v) >>= _) _ _ s'
    refine wpAny_bind (wpAny_holding ?_)
    unfold setAdd
    refine wpAny_holding ?_
    refine wpAny_bind (knd.pyHash (k := q) his ?_)
    have hroom : (uq (ks.take i)).length + 1 < scanBound := by
      have h1 := len_uq (ks.take i)
      have h2 : (ks.take i).length ≤ i := by simp; omega
      omega
    refine wpAny_setAddHashed_of (knd := knd) (s := { s' with toks := s'.toks + 1 }) his hsc hS' hroom fun h' hsb hS2 => ?_
    have et : ks.take (i + 1) = ks.take i ++ [q] := by
      rw [List.take_add_one, hq]
      rfl
    have hSi : h'.SetOf knd S (fun k' => decide (k' ∈ ks.take (i + 1))) (uq (ks.take (i + 1))).length := by
      refine set_congr hS2 (fun k' => ?_) ?_
      · rw [et]
        simp only [List.mem_append, List.mem_singleton]
        by_cases h1 : k' ∈ ks.take i <;> by_cases h2 : k' = q <;> simp [h1, h2]
      · rw [et, uq_snoc]
        unfold uqS
        by_cases h1 : q ∈ ks.take i
        · rw [if_pos (decide_eq_true h1), if_pos (mem_uq.mpr h1)]
        · rw [if_neg (by simpa using h1), if_neg (fun z => h1 (mem_uq.mp z)), List.length_append]
          rfl
    refine wpAny_pure ⟨plainId_quiet PyProof.Rows.F.plain_set_update_loop _, ih (i + 1) _ (by omega) hlt (W.frame _ s' _ _ hst' (Nat.le_succ _) fun b hb o e => ?_) hSi fun s'' hm'' hS'' => ?_⟩
    · rw [hsb.2 b (fun h : b = S => hSf (by rw [← h]; exact hb))]; exact e
    · refine hR s'' (Moved.trans W.gtrans ((hm.mono hsub).then_heap (Nat.le_succ _) fun b o hb e => ?_) hm'') hS''
      rw [hsb.2 b (fun h : b = S => hb (by rw [h]; exact List.mem_cons_self))]; exact e
end
section
variable {prog : Program} {w : World} {K : Type} [DecidableEq K] {knd : KeyKind prog w K} {A : Around} {E : Value → Shared → Prop} {s : Shared}
set_option maxHeartbeats 3200000 in
theorem call_setK {l : Addr} {items : Array Value} {ks : List K} {Q : Value → Shared → Prop}
    (hh : A.handled = none) (hl : s.heap.IsList l items) (hsz : ks.length = items.size) (hval : ∀ (i : Nat) (v : Value), items[i]? = some v → ∃ k, ks[i]? = some k ∧ knd.is k v = true ∧ v.scannable = true) (hb : items.size + 1 < scanBound)
    (h : ∀ (h' : Heap) (tk : Nat), h'.SetOf knd s.heap.objs.size (fun k' => decide (k' ∈ ks)) (uq ks).length →
      (∀ b o, b < s.heap.objs.size → s.heap.get? b = some o → h'.get? b = some o) → Q (.ref s.heap.objs.size) { s with heap := h', toks := tk }) :
    wpAny (model prog w) A (call (.type "set") [.ref l]) Q E s := by
  obtain ⟨c, tl, hmro⟩ := PySem.F.called_set.mro
  have hmade := PySem.F.called_set.made
  have hsub := PySem.F.called_set.sub
  refine wpAny_call (codeAny_of_tree ?_)
  show wpAny _ _ (callAny (.type "set") _) _ _ _
  refine wpAny_pure ⟨Code.quiet_builtin _ (by decide +kernel), codeAny_builtin PySem.F.entry_type_call ?_⟩
  rw [Around.under_plain (weight_type_call_type "set" [.ref l] []) rfl]
  have h1 := PySem.F.called_set.notType
  have h2 := PySem.F.called_set.canCreate
  have hct := PySem.F.typeCall_set_1 (.ref l)
  repeat (any_goals (first | assumption | wp_step))
  refine codeAny_mono (code_set_new_1 (.ref l) (E := E) (Q₁ := fun obj s₁ => ∃ led : Bool, obj = .ref s.heap.objs.size ∧ s₁ = { s with heap := s.heap.push { cls := .type "set", dict := none, data := .set #[] 0 (.fresh 0 0 led) } }) fun led => ⟨led, rfl, rfl⟩) fun r s₁ hr => ?_
  cases r with
  | error e => exact hr
  | ok fl =>
    cases fl with
    | ret obj =>
      obtain ⟨led, rfl, rfl⟩ := hr
      have hS : (s.heap.push { cls := .type "set", dict := none, data := .set #[] 0 (.fresh 0 0 led) }).get? s.heap.objs.size = some { cls := .type "set", dict := none, data := .set #[] 0 (.fresh 0 0 led) } := Heap.get?_push_size _ rfl
      have hT : Shared.TypeIs { s with heap := s.heap.push { cls := .type "set", dict := none, data := .set #[] 0 (.fresh 0 0 led) } } (.ref s.heap.objs.size) "set" := ⟨_, hS, rfl⟩
      have hli := PySem.F.called_set.init.lookup
      have hbi := PySem.F.called_set.init.bind (.ref s.heap.objs.size)
      repeat (any_goals (first | assumption | wp_step))
      refine codeAny_mono (codeAny_call_builtin (R := wants (fun r s₂ => r = .none ∧ ∃ h' tk, s₂ = { s with heap := h', toks := tk } ∧
          h'.SetOf knd s.heap.objs.size (fun k' => decide (k' ∈ ks)) (uq ks).length ∧
          (∀ b o, b < s.heap.objs.size → s.heap.get? b = some o → h'.get? b = some o)) E) PySem.F.called_set.init.plain PySem.F.entry_set_init (check_set_init_1 hT ?_)) fun r₂ s₂ hr₂ => ?_
      · obtain ⟨ol, hol, hcl, nl, hdl⟩ := hl
        obtain ⟨ocls, odict, odata, oslots⟩ := ol
        simp only at hcl hdl
        subst hcl; subst hdl
        have hol' : (s.heap.push { cls := .type "set", dict := none, data := .set #[] 0 (.fresh 0 0 led) }).get? l = some { cls := .type "list", dict := odict, data := .seq items nl, slots := oslots } := Heap.get?_push_of_some _ hol
        have hsls := PySem.F.sub_list_set
        have hslf := PySem.F.sub_list_frozenset
        have hne : (Value.type "list" == Value.type "dict") = false := by decide
        have hl1 : (s.heap.push { cls := .type "set", dict := none, data := .set #[] 0 (.fresh 0 0 led) }).IsList l items := ⟨_, hol', rfl, nl, rfl⟩
        unfold Builtin.«set.__init__» noKeywords Builtin.Frozenset.updateFrom
        generalize hPI : pyIter = PI
        wp_walk
        subst hPI
        refine wpAny_pyIter_list hl1 ?_
        refine wpAny_bind (wpAny_runValue ?_)
        have hlS : l < s.heap.objs.size := Heap.lt_size hol
        have hh3 : A.in1.in1.in1.handled = none := by simp [hh]
        have hneI : l ≠ (s.heap.push { cls := .type "set", dict := none, data := .set #[] 0 (.fresh 0 0 led) }).objs.size := by
          rw [Heap.size_push]; exact Nat.ne_of_lt (Nat.lt_succ_of_lt hlS)
        have hSf : s.heap.objs.size ∉ [(s.heap.push { cls := .type "set", dict := none, data := .set #[] 0 (.fresh 0 0 led) }).objs.size, l] := by
          rw [Heap.size_push]; simp only [List.mem_cons, List.mem_singleton, List.not_mem_nil, or_false, not_or]
          exact ⟨Nat.ne_of_lt (Nat.lt_succ_self _), Nat.ne_of_gt hlS⟩
        refine set_loop (knd := knd) ((Walks.list hh3 _ l hneI items).toS) s.heap.objs.size
          hSf ks hsz hb hval (items.size - 0) 0 _ (by omega) (Nat.zero_le _)
          ⟨⟨_, Heap.get?_push_size _ rfl, rfl, rfl⟩, (hl1.push _)⟩ ?hS0 ?hR
        case hS0 =>
          have hget : ((s.heap.push { cls := .type "set", dict := none, data := .set #[] 0 (.fresh 0 0 led) }).push { cls := .type "list_iterator", data := .fields #[.ref l, .int 0 0] }).get? s.heap.objs.size
              = some { cls := .type "set", dict := none, data := .set #[] 0 (.fresh 0 0 led) } := Heap.get?_push_of_some _ hS
          exact set_congr ((PyProof.Rows.setObjOf_fresh (knd := knd) led).setOf hget (by unfold scanBound; omega)) (fun k => by simp) rfl
        case hR =>
          intro s' hm hS'
          obtain ⟨h', g', d', tk', os'⟩ := s'
          have eg : g' = s.gens := hm.gens
          have ed : d' = s.drawn := hm.drawn
          have eo : os' = s.os := hm.os
          subst eg; subst ed; subst eo
          show wpAny _ _ _ _ _ _
          refine wpAny_pure ?_
          show wpAny _ _ (ret Value.none) _ _ _
          refine wpAny_pure ⟨rfl, h', tk', rfl, hS', fun b o hb e => ?_⟩
          have hb1 : b ≠ s.heap.objs.size := Nat.ne_of_lt hb
          have hb2 : b ≠ (s.heap.push { cls := .type "set", dict := none, data := .set #[] 0 (.fresh 0 0 led) }).objs.size := by
            rw [Heap.size_push]; exact Nat.ne_of_lt (Nat.lt_succ_of_lt hb)
          exact hm.heap b o (by simp only [List.mem_cons, List.mem_singleton, List.not_mem_nil, or_false, not_or]; exact ⟨hb1, hb2⟩) (Heap.get?_push_of_some _ (Heap.get?_push_of_some _ e))
      · cases r₂ with
        | error e => exact hr₂
        | ok fl₂ =>
          cases fl₂ with
          | ret r =>
            obtain ⟨rfl, h', tk, rfl, hS', hk'⟩ := hr₂
            repeat (any_goals (first | assumption | wp_step))
            exact h _ _ hS' hk'
          | _ => exact hr₂.elim
    | _ => exact hr.elim
end

/-! ### len(set(texts)) -/
def tLenSetS (K : PySem.W.Frag) (ta : TE) : TE := fun σ H Q => ta σ H fun x H1 => ∃ (l : Addr) (ws : List Str), x = .ref l ∧ SqL K H1 l (ws.map V.str) ∧ ws.length ≤ 4000 ∧ Q (.int ((uq ws).length : Nat)) H1
theorem pe_lenSetS {X : Cx} {a : Expr} {ta : TE} {p p2 q pos : Pos} (hg : Gl X "len") (hm : X.mg "len" = none) (hg2 : Gl X "set") (hm2 : X.mg "set" = none) (ha : PE X a ta) (hc : X.calm = true)
    (na : starEach [a] X.env = (false, eval a X.env) :: starEach [] X.env := by rfl) : PE X (.Call (.Name "len" p) [.Call (.Name "set" p2) [a] [] q] [] pos) (tLenSetS X.K ta) := by
  refine ⟨fun pins s σ H Q I h => ?_⟩
  refine Call_ (ld_blt I hg hm boot_len ?_)
  refine PyProof.Rows.callWith_builtin1 (PyProof.Rows.args_cons ?_ rfl) rfl rfl
  refine Call_ (ld_blt I hg2 hm2 boot_set ?_)
  refine PyProof.Rows.callWith_type1 (PyProof.Rows.args_cons (thn (ha.run pins s σ H _ I h) fun v s1 ⟨x, H1, I1, r1, q1⟩ => PyProof.Rows.args_nil ?_) na) na rfl
  obtain ⟨l, ws, rfl, hq, hl, q1⟩ := q1
  cases r1
  obtain ⟨its, r, pl, hz⟩ := I1.list hq
  have hlen : ws.length = its.toArray.size := by rw [List.size_toArray, ← r.length, List.length_map]
  refine call_setK (knd := PySem.strKind X.prog X.w) (ks := ws) (I1.ok.hd hc) pl.isList hlen (fun i v hv => ?_) (by rw [← hlen]; unfold scanBound; omega) fun h' tk hS hk => ?_
  · have hv' : its[i]? = some v := by simpa using hv
    have hli : i < ws.length := by
      have := (List.getElem?_eq_some_iff.mp hv').1
      rw [hlen, List.size_toArray]
      exact this
    have hw : ws[i]? = some ws[i] := List.getElem?_eq_getElem hli
    have hx : (ws.map V.str)[i]? = some (.str ws[i]) := by rw [List.getElem?_map, hw]; rfl
    obtain ⟨u, hu, ru⟩ := r.get hx
    rw [hv'] at hu
    cases hu
    obtain ⟨t, rfl⟩ := ru
    exact ⟨_, hw, strKind_is _ _ _ _, rfl⟩
  refine PyProof.Rows.args_nil ?_
  have hu := len_uq ws
  obtain ⟨o, es, ep, t, ho, hex, hd, _, _, _, hf, hn⟩ := hS
  have I2 : Inv X pins σ H1 { s1 with heap := h', toks := tk } := I1.kept fun b o e => hk b o (Heap.lt_size e) e
  exact call_len_set ho hex hd hf (by rw [hn] <;> omega) ⟨.int (uq ws).length, H1, I2.tok _, ⟨_, by rw [hn]⟩, q1⟩
section
variable {X : Cx} {W : Wd} {Γ : List DV} {μ : Mu} {a : Expr} {p p2 q pos : Pos} {ds : List PyData} {ws : List (List Nat)}
theorem S_inj {a b : List Nat} (h : S a = S b) : a = b := by
  have e : decide (V.str (S a) = V.str (S b)) = decide (a = b) := S_eq
  rw [h] at e
  simpa using e
theorem mem_S {w : List Nat} {ws : List (List Nat)} : S w ∈ ws.map S ↔ w ∈ ws := by
  rw [List.mem_map]
  constructor
  · rintro ⟨v, hv, e⟩
    rw [← S_inj e]
    exact hv
  · exact fun h => ⟨w, h, rfl⟩
theorem uq_S (ws : List (List Nat)) : (uq (ws.map S)).length = (uq ws).length := by
  have key : ∀ (ws acc : List (List Nat)), (ws.map S).foldl uqS (acc.map S) = (ws.foldl uqS acc).map S := by
    intro ws
    induction ws with
    | nil => intro acc; rfl
    | cons w ws ih =>
      intro acc
      rw [List.map_cons, List.foldl_cons, List.foldl_cons]
      have e : uqS (acc.map S) (S w) = (uqS acc w).map S := by
        unfold uqS
        by_cases h : w ∈ acc
        · rw [if_pos h, if_pos (mem_S.mpr h)]
        · rw [if_neg h, if_neg (fun z => h (mem_S.mp z)), List.map_append]
          rfl
      rw [e, ih]
  have e := key ws []
  unfold uq
  rw [show ([] : List Str) = ([] : List (List Nat)).map S from rfl, e, List.length_map]
/-- len(set(texts)) -/
theorem ed_lenSet (ha : Ed X W Γ μ a (.list ds)) (hm : X.mg "len" = none) (hm2 : X.mg "set" = none) (hc : X.calm = true) (e : ds = ws.map fun w => .str (S w)) (hl : ws.length ≤ 4000) (hg : Gl X "len" := by rfl) (hg2 : Gl X "set" := by rfl)
    (na : starEach [a] X.env = (false, eval a X.env) :: starEach [] X.env := by rfl) : Ed X W Γ μ (.Call (.Name "len" p) [.Call (.Name "set" p2) [a] [] q] [] pos) (nn (uq ws).length) := fun σ H R Q k => by
  refine (pe_lenSetS hg hm hg2 hm2 wE.pe hc na).w (ha σ H R _ fun v H2 R2 e2 r2 => ?_)
  subst e
  cases r2 with
  | lst hl' hv =>
    have ev := vaAll_S hv
    refine ⟨_, ws.map S, rfl, by rw [← ev]; exact SqL.of (off_some hl').2, by simpa using hl, ?_⟩
    rw [uq_S]
    exact k _ H2 R2 e2 (.int _)
end
end HW
set_option maxHeartbeats 4000000
namespace HW
open PySem PySem.Spec PyProof.Rows L2
open SX (S)
section
variable {X : Cx} {W W0 : Wd} {Γ : List DV} {μ : Mu} {a : Expr} {i : Str} {pos : Pos}
theorem ed_S {p : Pos} {j} (l : List Nat) (e : i = S l := by decide +kernel) : Ed X W Γ μ (.Constant (.str i) j p) (.str (S l)) := e ▸ ed_str
theorem ed_gS {n z : Str} (l : List Nat) (hm : ∃ t, X.mg n = some (.str z t)) (e : z = S l := by decide +kernel) (hg : Gl X n := by rfl) (h1 : (n == ("__debug__" : Str)) = false := by decide) : Ed X W Γ μ (.Name n pos) (.str (S l)) := e ▸ ed_gstr hm hg h1
theorem run_end {P : PyData → Prop} {rt : VK} {bk ct : L2.St → Hp → Prop} (hp : P .none) (hW : Wle W0 W := by first | exact Wle.refl | assumption) : Run X W Γ μ [] ⟨fun _ H' => RetP X.K W0 P .non H', rt, bk, ct⟩ := run_nil fun σ H R => ⟨R.fr.down hW, .none, hp, .non⟩
theorem ed_neg {z : Int} (h : Ed X W Γ μ a (.int z)) : Ed X W Γ μ (.UnaryOp .USub a pos) (.int (-z)) := fun σ H R Q q => (pe_un un_neg wE.pe).w (h σ H R _ fun v H2 R2 e2 r => by
  cases r
  exact ⟨z, rfl, q _ H2 R2 e2 (.int _)⟩)
end
section
variable {X : Cx} {l : List Nat} {ds es : List PyData}
theorem foldl_rep (l : List Nat) : ∀ (n : Nat) (acc : Array Nat), (List.replicate n (S l).cps).foldl (· ++ ·) acc = acc ++ ((List.replicate n l).flatten).toArray
  | 0, acc => by simp
  | n + 1, acc => by
    rw [List.replicate_succ, List.foldl_cons, foldl_rep l n, List.replicate_succ, List.flatten_cons, Array.append_assoc]
    congr 1
    show l.toArray ++ _ = _
    simp
theorem o_mulS {n : Nat} (h : l.length * n ≤ 16777216) (h1 : 1 ≤ n) (h2 : n ≤ 1000000000) : OpD X (binaryOp .Mult) (.str (S l)) (nn n) (.str (S (List.replicate n l).flatten)) := by
  intro pins s σ H x y v u Q I rx ry q
  obtain ⟨L, _, ha, hb, k⟩ := q
  cases ha; cases hb
  obtain ⟨t, rfl⟩ := rx
  obtain ⟨t', rfl⟩ := ry
  have fin : ∀ s', Inv X pins σ H s' → ∀ t2, EP X pins σ Q (.str (S (List.replicate n l).flatten) t2) s' := fun s' I' t2 => ⟨.str _, H, I', ⟨t2, rfl⟩, k _ _ (Same.refl _) (.str _)⟩
  have hn : ¬ ((n : Int) < 1) := by omega
  have hb' : (decide ((n : Int) < -(2 ^ 63 : Int)) || decide ((n : Int) ≥ 2 ^ 63)) = false := by
    have e1 : ¬ ((n : Int) < -(2 ^ 63 : Int)) := by omega
    have e2 : ¬ ((n : Int) ≥ 2 ^ 63) := by omega
    rw [decide_eq_false e1, decide_eq_false e2]
    rfl
  have hlen : (S l).length = l.length := SX.S_len l
  refine P.mul_str hb' (fun _ hz => ?_) (fun _ _ => ?_) ?_
  · rw [hlen]
    have h3 : (l.length : Int) ≤ 16777216 := by
      have : l.length * 1 ≤ l.length * n := Nat.mul_le_mul_left _ h1
      omega
    have h4 : (16777216 : Int) ≤ (2 ^ 63 - 1) / (n : Int) := by
      rw [Int.le_ediv_iff_mul_le (by omega)]
      omega
    omega
  · rw [hlen]
    unfold Builtin.Str.tooLong
    have e : (n : Int).toNat = n := by omega
    rw [e]
    simpa [sizeLine] using h
  · rw [if_neg hn]
    by_cases hz : ((n : Int) == 1 || (S l).length == 0) = true
    · rw [if_pos hz]
      have e : (List.replicate n l).flatten = l := by
        rw [hlen] at hz
        rcases Bool.or_eq_true _ _ ▸ hz with z | z
        · have : n = 1 := by
            have := eq_of_beq z
            omega
          subst this
          simp
        · have : l = [] := List.length_eq_zero_iff.mp (eq_of_beq z)
          subst this
          simp
      have z := fin s I t
      rw [e] at z
      exact z
    · rw [if_neg hz]
      have e : (n : Int).toNat = n := by omega
      rw [e, foldl_rep l n #[]]
      have e2 : (⟨#[] ++ ((List.replicate n l).flatten).toArray⟩ : Str) = S (List.replicate n l).flatten := by simp [S]
      rw [e2]
      refine ⟨?_, fin _ (I.tok _) _⟩
      have hsz : (S (List.replicate n l).flatten).length = l.length * n := by
        rw [SX.S_len]
        simp [Nat.mul_comm]
      rw [hsz]
      simpa [sizeLine] using h
/-! ### tuples -/
theorem o_catT (h : ds.length + es.length ≤ 16777216) : OpD X (binaryOp .Add) (.tuple ds) (.tuple es) (.tuple (ds ++ es)) := OpR.to op_catA fun a b H Q ⟨L, hL, ha, hb, k⟩ => by
  cases ha with
  | tup ha hs =>
    cases hb with
    | tup hb ht =>
      refine ⟨_, _, _, _, rfl, rfl, SqT.up same_off ha, SqT.up same_off hb, by rw [hs.length, ht.length]; exact h, fun e => ?_, fun _ e => ?_, fun _ _ p hp => ?_⟩
      · subst e
        cases hs
        exact k _ _ (Same.refl _) (.tup hb ht)
      · subst e
        cases ht
        rw [List.append_nil] at k
        exact k _ _ (Same.refl _) (.tup ha hs)
      · exact k _ _ (same_new hp) (.tup (.inl (.inl (off_upd (new_out hL hp)))) ((hs.app ht).up (XT.same (same_new hp))))
theorem s_tup {lo hi : Option Int} : SlD X (.tuple ds) lo hi (.tuple ((ds.drop (HT.sIx ds.length 0 lo)).take (HT.sIx ds.length ds.length hi - HT.sIx ds.length 0 lo))) := SlR.to sl_tupA fun v l u H Q ⟨e1, e2, L, hL, hv, k⟩ => by
  subst e1 e2
  cases hv with
  | tup ha hs =>
    refine ⟨_, _, rfl, SqT.up same_off ha, fun hw => ?_, fun _ p hp => ?_⟩
    · rw [hs.length] at hw
      rw [hw.1, hw.2] at k
      simp only [List.drop_zero, Nat.sub_zero, List.take_length] at k
      exact k _ _ (Same.refl _) (.tup ha hs)
    · refine k _ _ (same_new hp) (.tup (.inl (.inl (off_upd (new_out hL hp)))) ?_)
      unfold cutV
      rw [hs.length]
      exact ((hs.drop _).take _).up (XT.same (same_new hp))
end
end HW
set_option maxHeartbeats 4000000
namespace HW
open PySem PySem.Spec PyProof.Rows L2
open SX (S)
section
variable {X : Cx} {W : Wd} {Γ : List DV} {μ : Mu} {α : Type} {iter elt t : Expr} {scope : Scope} {pos p1 p2 tpos : Pos} {kk : Nat} {e1 e2 : α → PyData} {xs : List α} {n1 n2 : Str}
/-- [elt for n1, n2 in iter] -/
theorem lcP0 (k1 k2 : Nat) (hi : IterD X W Γ μ (.Tuple [.Name n1 p1, .Name n2 p2] kk tpos) iter (fun x => pr2 (e1 x) (e2 x)) xs) (hz : xs.length ≤ 16777216) (f : α → PyData)
    (he : ∀ x ∈ xs, ∀ W1, Wle W W1 → ∀ s H C cl fp, Ed (blkOf X scope s H C cl fp) W1 (((wipeD [k1, k2] Γ).set k1 (.d (e1 x))).set k2 (.d (e2 x))) μ elt (f x)) (hN : X.N.Nodup) (hn1 : X.N[k1]? = some n1 := by rfl) (hn2 : X.N[k2]? = some n2 := by rfl)
    (hv1 : ∀ s H C cl fp, Loc (blkOf X scope s H C cl fp).env.scope n1 := by intro _ _ _ _ _; first | exact Or.inl rfl | exact Or.inr rfl) (hf1 : ∀ s H C cl fp, (blkOf X scope s H C cl fp).fn n1 = true ∨ (blkOf X scope s H C cl fp).env.scope.names.lookup n1 = some .local := by intro _ _ _ _ _; first | exact .inr rfl | exact .inl rfl)
    (hv2 : ∀ s H C cl fp, Loc (blkOf X scope s H C cl fp).env.scope n2 := by intro _ _ _ _ _; first | exact Or.inl rfl | exact Or.inr rfl) (hf2 : ∀ s H C cl fp, (blkOf X scope s H C cl fp).fn n2 = true ∨ (blkOf X scope s H C cl fp).env.scope.names.lookup n2 = some .local := by intro _ _ _ _ _; first | exact .inr rfl | exact .inl rfl)
    (hcm : ∀ s H C cl fp, (blkOf X scope s H C cl fp).calm = true := by intro _ _ _ _ _; rfl)
    (hb : BlkOk X.N X.env.scope scope [(n1, k1), (n2, k2)] := by exact blkOk_by (by kernel_rfl)) :
    LcEv X W Γ μ elt (.Tuple [.Name n1 p1, .Name n2 p2] kk tpos) iter [] scope (fun ys => ys = xs.map f) := by
  have h := lc0 (E := fun x y => y = f x) (elt := elt) (scope := scope) [(n1, k1), (n2, k2)] hi (tg_pair (tg_name (K := X.K) k1) (tg_name k2))
    (fun s H C cl fp => pg_tup (hcm s H C cl fp) (pgs_cons (pg_name hN hn1 (hv1 s H C cl fp) (hf1 s H C cl fp)) (pgs_cons (pg_name hN hn2 (hv2 s H C cl fp) (hf2 s H C cl fp)) pgs_nil))) (fun _ _ x _ => ⟨e1 x, e2 x, rfl, trivial, trivial⟩) (fun _ e => e ▸ hz) (fun _ e x hx W1 l s H C cl fp => (he x (e ▸ hx) W1 l s H C cl fp).ev) hb (by simp)
  obtain ⟨wi, g, tt, te, own, h1, h2, h3, h4, h5, h6⟩ := h.ex
  exact ⟨wi, g, tt, te, own, h1, h2, h3, h4, h5, fun σ H R Q k => h6 σ H R Q fun ys v H2 ⟨l, e, hp⟩ => k ys v H2 (by rw [← e]; exact paired_map hp)⟩
/-- [elt for n1, n2 in iter if t] -/
theorem lcP1 (k1 k2 : Nat) (hi : IterD X W Γ μ (.Tuple [.Name n1 p1, .Name n2 p2] kk tpos) iter (fun x => pr2 (e1 x) (e2 x)) xs) (hz : xs.length ≤ 16777216) (c : α → Bool) (f : α → PyData)
    (ht : ∀ x ∈ xs, ∀ W1, Wle W W1 → ∀ s H C cl fp, EdT (blkOf X scope s H C cl fp) W1 (((wipeD [k1, k2] Γ).set k1 (.d (e1 x))).set k2 (.d (e2 x))) μ t (c x))
    (he : ∀ x ∈ xs, c x = true → ∀ W1, Wle W W1 → ∀ s H C cl fp, Ed (blkOf X scope s H C cl fp) W1 (((wipeD [k1, k2] Γ).set k1 (.d (e1 x))).set k2 (.d (e2 x))) μ elt (f x)) (hN : X.N.Nodup) (hn1 : X.N[k1]? = some n1 := by rfl) (hn2 : X.N[k2]? = some n2 := by rfl)
    (hv1 : ∀ s H C cl fp, Loc (blkOf X scope s H C cl fp).env.scope n1 := by intro _ _ _ _ _; first | exact Or.inl rfl | exact Or.inr rfl) (hf1 : ∀ s H C cl fp, (blkOf X scope s H C cl fp).fn n1 = true ∨ (blkOf X scope s H C cl fp).env.scope.names.lookup n1 = some .local := by intro _ _ _ _ _; first | exact .inr rfl | exact .inl rfl)
    (hv2 : ∀ s H C cl fp, Loc (blkOf X scope s H C cl fp).env.scope n2 := by intro _ _ _ _ _; first | exact Or.inl rfl | exact Or.inr rfl) (hf2 : ∀ s H C cl fp, (blkOf X scope s H C cl fp).fn n2 = true ∨ (blkOf X scope s H C cl fp).env.scope.names.lookup n2 = some .local := by intro _ _ _ _ _; first | exact .inr rfl | exact .inl rfl)
    (hcm : ∀ s H C cl fp, (blkOf X scope s H C cl fp).calm = true := by intro _ _ _ _ _; rfl)
    (hb : BlkOk X.N X.env.scope scope [(n1, k1), (n2, k2)] := by exact blkOk_by (by kernel_rfl)) :
    LcEv X W Γ μ elt (.Tuple [.Name n1 p1, .Name n2 p2] kk tpos) iter [t] scope (fun ys => ys = (xs.filter c).map f) := by
  have h := lc1 (E := fun x y => y = f x) (c := c) (t := t) (elt := elt) (scope := scope) [(n1, k1), (n2, k2)] hi (tg_pair (tg_name (K := X.K) k1) (tg_name k2))
    (fun s H C cl fp => pg_tup (hcm s H C cl fp) (pgs_cons (pg_name hN hn1 (hv1 s H C cl fp) (hf1 s H C cl fp)) (pgs_cons (pg_name hN hn2 (hv2 s H C cl fp) (hf2 s H C cl fp)) pgs_nil))) (fun _ _ x _ => ⟨e1 x, e2 x, rfl, trivial, trivial⟩) (fun _ e => e ▸ hz)
    (fun _ e x hx W1 l s H C cl fp => ht x (e ▸ hx) W1 l s H C cl fp) (fun _ e x hx hc W1 l s H C cl fp => (he x (e ▸ hx) hc W1 l s H C cl fp).ev) hb (by simp)
  obtain ⟨wi, g, tt, te, own, h1, h2, h3, h4, h5, h6⟩ := h.ex
  exact ⟨wi, g, tt, te, own, h1, h2, h3, h4, h5, fun σ H R Q k => h6 σ H R Q fun ys v H2 ⟨l, e, hp⟩ => k ys v H2 (by rw [← e]; exact paired_map hp)⟩
end
end HW
set_option maxHeartbeats 4000000
namespace HW
open PySem PySem.Spec PyProof.Rows L2
open SX (S)
section
variable {X : Cx} {W : Wd} {Γ : List DV} {μ : Mu} {α : Type} {iter elt t : Expr} {scope : Scope} {pos p : Pos} {enc : α → PyData} {n : Str} {P : List α → Prop} {E : α → PyData → Prop}
/-- [elt for n in iter], the items and what comes of them told by P and E -/
theorem lcNV (k : Nat) (hi : IterV X W Γ μ (.Name n p) iter enc P) (hz : ∀ xs, P xs → xs.length ≤ 16777216)
    (he : ∀ xs, P xs → ∀ x ∈ xs, ∀ W1, Wle W W1 → ∀ s H C cl fp, Ev (blkOf X scope s H C cl fp) W1 ((wipeD [k] Γ).set k (.d (enc x))) μ elt (E x)) (hN : X.N.Nodup) (hn : X.N[k]? = some n := by rfl)
    (hv : ∀ s H C cl fp, Loc (blkOf X scope s H C cl fp).env.scope n := by intro _ _ _ _ _; first | exact Or.inl rfl | exact Or.inr rfl) (hf : ∀ s H C cl fp, (blkOf X scope s H C cl fp).fn n = true ∨ (blkOf X scope s H C cl fp).env.scope.names.lookup n = some .local := by intro _ _ _ _ _; first | exact .inr rfl | exact .inl rfl) (hb : BlkOk X.N X.env.scope scope [(n, k)] := by exact blkOk_by (by kernel_rfl)) :
    LcEv X W Γ μ elt (.Name n p) iter [] scope (fun ys => ∃ xs, P xs ∧ Paired E xs ys) :=
  lc0 (E := E) (elt := elt) (scope := scope) [(n, k)] hi (tg_name (K := X.K) k) (fun s H C cl fp => pg_name hN hn (hv s H C cl fp) (hf s H C cl fp)) (fun _ _ _ _ => trivial) hz (fun _ e x hx W1 l s H C cl fp => he _ e x hx W1 l s H C cl fp) hb (by simp)
end

section
variable {X : Cx} {W : Wd} {Γ : List DV} {μ : Mu} {e o : Expr} {pos apos : Pos}
theorem sg_flat (cs : List Nat) : (cs.map fun c => [c]).flatten = cs := by
  induction cs with
  | nil => rfl
  | cons a r ih => rw [List.map_cons, List.flatten_cons, ih]; rfl
theorem sg_sum (cs : List Nat) : ((cs.map fun c => [c]).map List.length).sum = cs.length := by
  induction cs with
  | nil => rfl
  | cons a r ih => rw [List.map_cons, List.map_cons, List.sum_cons, ih, List.length_cons, Nat.add_comm]; rfl
/-- "".join of signs -/
theorem ev_joinC {Ws : List Nat → Prop} (ho : Ed X W Γ μ o (.str (S []))) (he : Ev X W Γ μ e (fun z => ∃ cs : List Nat, z = .list (cs.map sg) ∧ Ws cs)) (hz : ∀ cs, Ws cs → cs.length ≤ 16777216)
    (hs : starEach [e] X.env = [(false, eval e X.env)] := by rfl) (hbase : attributeBase o "join" X.env (eval o X.env) = eval o X.env := by rfl) (hline : (apos.endLine == pos.line) = true := by rfl) :
    Ev X W Γ μ (.Call (.Attribute o "join" apos) [e] [] pos) (fun z => ∃ cs, z = .str (S cs) ∧ Ws cs) :=
  (ev_join (Ws := fun ws => ∃ cs : List Nat, ws = cs.map (fun c => [c]) ∧ Ws cs) ho (he.imp fun d ⟨cs, e1, e2⟩ => ⟨cs.map fun c => [c], by rw [e1, List.map_map]; rfl, cs, rfl, e2⟩) (fun ws ⟨cs, e1, e2⟩ => by rw [e1, sg_sum]; exact hz cs e2) hs hbase hline).imp fun d ⟨ws, e1, cs, e2, e3⟩ => ⟨cs, by rw [e1, e2, sg_flat], e3⟩
theorem ed_joinC (cs : List Nat) {ds : List PyData} (ho : Ed X W Γ μ o (.str (S []))) (he : Ed X W Γ μ e (.list ds)) (hd : ds = cs.map sg) (hz : cs.length ≤ 16777216)
    (hs : starEach [e] X.env = [(false, eval e X.env)] := by rfl) (hbase : attributeBase o "join" X.env (eval o X.env) = eval o X.env := by rfl) (hline : (apos.endLine == pos.line) = true := by rfl) :
    Ed X W Γ μ (.Call (.Attribute o "join" apos) [e] [] pos) (.str (S cs)) :=
  (ev_joinC (Ws := fun z => z = cs) ho (he.evP ⟨cs, by rw [hd], rfl⟩) (fun _ q => q ▸ hz) hs hbase hline |>.imp (B := fun z => z = .str (S cs)) fun d ⟨w, e1, e2⟩ => by rw [e1, e2]).ed
end
theorem paired_sg {α : Type} {Q : Nat → Prop} : ∀ {xs : List α} {ys : List PyData}, Paired (fun _ z => ∃ c, z = sg c ∧ Q c) xs ys → ∃ cs : List Nat, ys = cs.map sg ∧ ∀ c ∈ cs, Q c
  | _, _, .nil => ⟨[], rfl, fun _ h => nomatch h⟩
  | _, _, .cons ⟨c, e, q⟩ t => by
    obtain ⟨cs, e2, h⟩ := paired_sg t
    refine ⟨c :: cs, by rw [e, e2]; rfl, fun x hx => ?_⟩
    rcases List.mem_cons.mp hx with h1 | h1
    · rw [h1]; exact q
    · exact h x h1
/-! ### to forget -/
def wk : List DV → List DV → Prop
  | [], [] => True
  | a :: as, b :: bs => (b = .no ∨ b = a) ∧ wk as bs
  | _, _ => False
theorem wk.at : ∀ {Γ Γ' : List DV}, wk Γ Γ' → Γ.length = Γ'.length ∧ ∀ (i : Nat) (dv : DV), Γ'[i]? = some dv → dv = .no ∨ Γ[i]? = some dv
  | [], [], _ => ⟨rfl, fun i dv h => by simp at h⟩
  | a :: as, b :: bs, h => by
    obtain ⟨h1, h2⟩ := wk.at h.2
    refine ⟨by rw [List.length_cons, List.length_cons, h1], fun i dv e => ?_⟩
    cases i with
    | zero =>
      cases e
      exact h.1.imp id fun q => by rw [q]; rfl
    | succ i => exact h2 i dv (by simpa using e)
theorem Slots.weak {K : PySem.W.Frag} {H : Hp} {σ : L2.St} {Γ Γ' : List DV} (s : Slots K H σ Γ) (h : wk Γ Γ') : Slots K H σ Γ' := by
  obtain ⟨h1, h2⟩ := wk.at h
  refine ⟨s.len.trans h1, fun i dv e => ?_⟩
  rcases h2 i dv e with q | q
  · subst q
    have hl : i < σ.length := by
      rw [s.len, h1]
      exact (List.getElem?_eq_some_iff.mp e).1
    exact ⟨σ[i], List.getElem?_eq_getElem hl, trivial⟩
  · exact s.at_ i dv q
section
variable {X : Cx} {W : Wd} {Γ Γ' : List DV} {μ : Mu} {sts : List Stmt} {D : Ends}
theorem run_weak (h : Run X W Γ' μ sts D) (w : wk Γ Γ') : Run X W Γ μ sts D := fun σ H R => h σ H ⟨R.wd, R.fr, R.sl.weak w, R.mu, R.nd⟩
/-- the end of a turn, the state forgotten down to Γ' -/
theorem run_turnW {Φ : List DV → Mu → Prop} (Γ' : List DV) (w : wk Γ Γ') (h : Φ Γ' μ) (hD : D.nx = StP X.K W Φ := by rfl) : Run X W Γ μ [] D := run_weak (run_turn hD h) w
end

/-! ### a law's beginning: its row of draws -/
def tLst2 (K : PySem.W.Frag) (t : TA) : TE := fun σ H Q => t σ H fun xs H1 => xs.length ≤ sizeLine ∧ ∀ p, H1 p = none → (∀ a ys, SqL K H1 a ys → a ≠ p) → Q (.ref p) (upd H1 p (.lst xs))
/-- a list displayed: it is none of the lists that are there -/
theorem pe_lst2 {X : Cx} {es : List Expr} {t : TA} {pos : Pos} (h : PA X es t) : PE X (.List es pos) (tLst2 X.K t) := by
  refine ⟨fun pins s σ H Q I hq => wpAny_List_spliced (thn (h.run pos pins s σ H _ I hq) fun us s1 ⟨xs, H1, I1, r, z, q⟩ => ⟨by rw [← r.length]; exact z, ?_⟩)⟩
  refine ⟨.ref s1.heap.objs.size, _, I1.laid (t' := s1.toks) (o := .lst xs) (fun b u e => Heap.get?_push_of_some _ e) (Nat.le_refl _) ⟨z, us, 0, r, Heap.get?_push_size _ rfl⟩, rfl, q _ (I1.hok.fresh (Nat.le_refl _)) fun a ys hl => ?_⟩
  obtain ⟨its, _, pl, _⟩ := I1.list hl
  exact Nat.ne_of_lt pl.lt
/-- a law: the script at a, True comes -/
def spLaw (K : PySem.W.Frag) : Sp := fun vs H Q _ => ∃ (a : Addr) (ns : List Int), vs = [.ref a] ∧ ns.length ≤ 63 ∧ SqL K H a (ns.map V.int) ∧ ∀ H', Q (.bl true) H'
section
variable {P : Program} {w : World} {K : PySem.W.Frag} {mg : Str → Option Value} {base : Heap} {qual : Str} {params : Arguments} {rest : List Stmt} {scope : Scope} {f : Addr} {fd : FuncData} {N : List Str} {k : Nat} {p0 p1 p2 p3 p4 p5 p6 : Pos} {j1 j2 j3 : Nat} {sd : Int}
theorem fd_law {body : List Stmt} (F : FunD K "law" qual params body scope [] [] f fd) (S : FnScope N ["_law_script"] scope) (hN : N = ("_law_script" : Str) :: ("_law_row" : Str) :: N.drop 2)
    (hb : body = .Assign [.Name "_law_row" p0] (.List [.Name "_law_script" p1, .Constant (.int 0) j1 p2, .Constant (.int sd) j2 p3, .Constant (.int 0) j3 p4] p5) p6 :: rest)
    (hx : ∀ (cdv : Value) (A : Around) (outer : List Env) (s : Shared) (H : Hp) (E : XK), Loc (cxOf CX0 P w K mg base N qual scope f cdv A outer s H E).nox.env.scope "_law_row" := by intro _ _ _ _ _ _; first | exact Or.inl rfl | exact Or.inr rfl)
    (hv : ∀ (cdv : Value) (A : Around) (outer : List Env) (s : Shared) (H : Hp) (E : XK), Vis (cxOf CX0 P w K mg base N qual scope f cdv A outer s H E).nox.env.scope "_law_script" := by intro _ _ _ _ _ _; first | exact Or.inl rfl | exact Or.inr (Or.inl rfl) | exact Or.inr (Or.inr rfl))
    (hs : ∀ (cdv : Value) (A : Around) (outer : List Env) (s : Shared) (H : Hp) (E : XK), swapsWith (.List [.Name "_law_script" p1, .Constant (.int 0) j1 p2, .Constant (.int sd) j2 p3, .Constant (.int 0) j3 p4] p5) (some (.Name "_law_row" p0)) p6.line (cxOf CX0 P w K mg base N qual scope f cdv A outer s H E).nox.env = pure false := by intro _ _ _ _ _ _; rfl)
    (hf : ∀ (cdv : Value) (A : Around) (outer : List Env) (s : Shared) (H : Hp) (E : XK), (cxOf CX0 P w K mg base N qual scope f cdv A outer s H E).nox.fn "_law_row" = true ∨ (cxOf CX0 P w K mg base N qual scope f cdv A outer s H E).nox.env.scope.names.lookup ("_law_row" : Str) = some .local := by intro _ _ _ _ _ _; first | exact .inr rfl | exact .inl rfl)
    (h : ∀ (cdv : Value) (A : Around) (outer : List Env) (s : Shared) (H : Hp) (E : XK), Room k (A.deeper (envOfC qual scope s.heap.objs.size f cdv)) → ∀ (W : Wd) (r scr : Addr) (ns : List Int), W.row = some (r, scr, ns) →
      Run (cxOf CX0 P w K mg base N qual scope f cdv A outer s H E).nox W (.no :: .r r :: List.replicate (N.length - 2) .no) [] rest { nx := fun _ H' => RetP K W (fun z => z = .bool true) .non H', rt := RetP K W (fun z => z = .bool true) }) :
    FnOk P w K mg base CX0 (k + 1) f fd ["_law_script"] (spLaw K) := by
  refine F.ok S (fun vs H Q E ⟨a, ns, e, _⟩ => by rw [e]; rfl) fun cdv A outer s H vs Q E hr ⟨a, ns, e, hns, hl, q⟩ => ?_
  subst e
  refine ⟨_, PSs.nox wSs.ps, ?_⟩
  rw [hb]
  have hN0 : N[0]? = some ("_law_script" : Str) := by rw [hN]; rfl
  have hN1 : N[1]? = some ("_law_row" : Str) := by rw [hN]; rfl
  refine wSs_cons ((ps_set (i := 1) S.nd hN1 (hx cdv A outer s H E) (pe_lst2 (pa_cons (pe_var (i := 0) hN0 (hv cdv A outer s H E)) (pa_cons pe_int (pa_cons pe_int (pa_cons pe_int pa_nil))))) (hs cdv A outer s H E) (hf cdv A outer s H E)).w ?_)
  have hst : start N [.ref a] = some (.ref a) :: none :: List.replicate (N.length - 2) none := by
    rw [hN]
    show some (V.ref a) :: List.replicate _ none = _
    simp [List.replicate_succ]
  rw [hst]
  refine ⟨_, rfl, Nat.le_of_ble_eq_true rfl, fun r hr' hfr => ?_⟩
  have har : a ≠ r := hfr a _ hl
  let row : HO := .lst [.ref a, .int 0, .int sd, .int 0]
  let W : Wd := ⟨upd H r row, [r], some (r, a, ns)⟩
  have hW : upd H r row r = some row := upd_same
  have ok : WdOk K W := ⟨fun b hb => by
    rw [List.mem_singleton.mp hb]
    show upd H r row r ≠ none
    rw [hW]
    simp, fun r' s' n' e => by
    cases e
    exact ⟨List.mem_cons_self, SqL.up (fun o e => by show upd H r row a = some o; rw [upd_ne har]; exact e) hl, har, hns⟩⟩
  have sl : Slots K (off (hd W []) (upd H r row)) (some (.ref a) :: some (.ref r) :: List.replicate (N.length - 2) none) (.no :: .r r :: List.replicate (N.length - 2) .no) := by
    refine ⟨by simp, fun i dv e => ?_⟩
    match i, e with
    | 0, e => cases e; exact ⟨_, rfl, trivial⟩
    | 1, e => cases e; exact ⟨_, rfl, rfl⟩
    | i + 2, e =>
      have e' : (List.replicate (N.length - 2) DV.no)[i]? = some dv := e
      rw [List.getElem?_replicate] at e'
      split at e'
      · rename_i hi
        cases e'
        refine ⟨none, ?_, trivial⟩
        show (List.replicate (N.length - 2) (none : Option V))[i]? = some none
        rw [List.getElem?_replicate, if_pos hi]
      · cases e'
  have ret : ∀ v H', RetP K W (fun z => z = .bool true) v H' → Q v H' := fun v H' ⟨fr, d', e, hv'⟩ => by
    subst e
    cases hv'
    exact q H'
  have z := h cdv A outer s H E hr W r a ns rfl _ _ ⟨ok, ⟨fun _ _ _ e => e, fun r' s' n' e => by cases e; exact ⟨0, sd, 0, hW, Int.le_refl _⟩⟩, sl, fun _ z => (nomatch z), List.nodup_nil⟩
  intro pins st I
  refine wpAny_mono (z pins st I) (fun fl s' hq => ?_) fun _ _ z => z
  cases fl with
  | next =>
    obtain ⟨σ', H', I', q'⟩ := hq
    exact ⟨σ', H', I', ret _ _ q'⟩
  | brk => exact hq
  | cont => exact hq
  | ret u =>
    obtain ⟨v, σ', H', I', r', q'⟩ := hq
    exact ⟨v, σ', H', I', r', ret _ _ q'⟩
end
end HW
set_option maxHeartbeats 4000000
namespace HW
open PySem PySem.Spec PyProof.Rows L2
open SX (S)
/-- the end of a turn, the state forgotten down to Γ' -/
theorem run_go {X : Cx} {W : Wd} {Γ : List DV} {μ : Mu} {Φ : List DV → Mu → Prop} {rt : VK} {bk ct : L2.St → Hp → Prop} (Γ' : List DV) (w : wk Γ Γ') (h : Φ Γ' μ) : Run X W Γ μ [] ⟨StP X.K W Φ, rt, bk, ct⟩ := run_turnW Γ' w h rfl
/-! ### shapes, for == -/
structure Shp (n : Nat) (d : PyData) : Prop where
  lay : d.canLay0 = true
  dep : d.depth ≤ n
theorem Shp.int {i : Int} : Shp 0 (.int i) := ⟨rfl, Nat.le_refl _⟩
theorem Shp.bl {i : Bool} : Shp 0 (.bool i) := ⟨rfl, Nat.le_refl _⟩
theorem Shp.non : Shp 0 .none := ⟨rfl, Nat.le_refl _⟩
theorem Shp.all {n : Nat} : ∀ {xs : List PyData}, (∀ x ∈ xs, Shp n x) → PyData.canLayAll0 xs = true ∧ PyData.depthAll xs ≤ n
  | [], _ => ⟨rfl, Nat.zero_le _⟩
  | x :: xs, h => by
    obtain ⟨h1, h2⟩ := Shp.all fun y hy => h y (List.mem_cons_of_mem _ hy)
    have h3 := h x List.mem_cons_self
    exact ⟨by rw [PyData.canLayAll0, h3.lay, h1]; rfl, by rw [PyData.depthAll]; exact Nat.max_le.mpr ⟨h3.dep, h2⟩⟩
theorem Shp.list {n : Nat} {xs : List PyData} (h : ∀ x ∈ xs, Shp n x) : Shp (n + 1) (.list xs) := ⟨by rw [PyData.canLay0]; exact (Shp.all h).1, by rw [PyData.depth]; exact Nat.succ_le_succ (Shp.all h).2⟩
theorem Shp.tup {n : Nat} {xs : List PyData} (h : ∀ x ∈ xs, Shp n x) : Shp (n + 1) (.tuple xs) := ⟨by rw [PyData.canLay0]; exact (Shp.all h).1, by rw [PyData.depth]; exact Nat.succ_le_succ (Shp.all h).2⟩
theorem Shp.up {n m : Nat} {d : PyData} (h : Shp n d) (l : n ≤ m) : Shp m d := ⟨h.lay, Nat.le_trans h.dep l⟩
theorem Shp.str {l : List Nat} (h : ∀ c ∈ l, c < 128) : Shp 0 (.str (S l)) := ⟨by
  show PyData.strOk (S l) = true
  unfold PyData.strOk
  simp only [S, List.all_toArray, List.all_eq_true, decide_eq_true_eq]
  exact fun c hc => Nat.lt_trans (h c hc) (by decide), Nat.le_refl _⟩
theorem Shp.ok {n : Nat} {d : PyData} (h : Shp n d) (l : n ≤ 64 := by decide) : SeqAt.shaped d = true := by
  unfold SeqAt.shaped
  rw [h.lay, decide_eq_true (Nat.le_trans h.dep l)]
  rfl
section
variable {X : Cx} {x y : PyData} {n : Nat}
theorem c_eqSame (hu : X.A.units + 64 < cLine) (h : Shp n x) (hn : n ≤ 64 := by decide) : OpD X (compareOp .Eq) x x (.bool true) := by
  have z := c_eqD (X := X) hu (h.ok hn) (h.ok hn)
  rw [SeqAt.eqv_refl x h.lay] at z
  exact z
theorem c_neSame (hu : X.A.units + 64 < cLine) (h : Shp n x) (hn : n ≤ 64 := by decide) : OpD X (compareOp .NotEq) x x (.bool false) := by
  have z := c_neD (X := X) hu (h.ok hn) (h.ok hn)
  rw [SeqAt.eqv_refl x h.lay] at z
  exact z
end
end HW
set_option maxHeartbeats 4000000
namespace HW
open PySem PySem.Spec PyProof.Rows L2
open SX (S)
abbrev FnP (K : PySem.W.Frag) (x : Str) (st : Stmt) (f : Addr) (fd : FuncData) : Prop := FunD K x x (defArgs st) (defBody st) (defScope st) [] [] f fd
structure Gs (mg : Str → Option Value) : Prop where
  isinstance : mg "isinstance" = none
  str : mg "str" = none
  int : mg "int" = none
  len : mg "len" = none
  all : mg "all" = none
  range : mg "range" = none
  set : mg "set" = none
  enumerate : mg "enumerate" = none
  zip : mg "zip" = none
  min : mg "min" = none
  max : mg "max" = none
  sorted : mg "sorted" = none
  any : mg "any" = none
  tuple : mg "tuple" = none
  list : mg "list" = none
  bool : mg "bool" = none
  dict : mg "dict" = none
  abs : mg "abs" = none
  sum : mg "sum" = none
abbrev gSEEN (mg : Str → Option Value) : Prop := ∃ t, mg "SEEN" = some (.str "x" t)
abbrev gHOLE (mg : Str → Option Value) : Prop := ∃ t, mg "HOLE" = some (.str "." t)
abbrev gOPEN (mg : Str → Option Value) : Prop := ∃ t, mg "OPEN" = some (.str "?" t)
abbrev gLETTERS (mg : Str → Option Value) : Prop := ∃ t, mg "LETTERS" = some (.str "abcd" t)
abbrev gMOST_MASK (mg : Str → Option Value) : Prop := ∃ t, mg "MOST_MASK" = some (.int 12 t)
abbrev gMOST_ROW (mg : Str → Option Value) : Prop := ∃ t, mg "MOST_ROW" = some (.int 60 t)
/-! the plain words -/
def maskB (m : List Nat) : Bool := decide (1 ≤ m.length) && decide (m.length ≤ 12) && m.all (fun c => decide (c ∈ [120, 46])) && decide (m[0]? = some 120) && decide (m.getLast? = some 120)
def rowB (l : List Nat) : Bool := decide (l.length ≤ 60) && l.all (fun c => decide (c ∈ [97, 98, 99, 100]))
def seenL (m : List Nat) : List Nat := ((m.mapIdx Prod.mk).filter fun q => decide (q.2 = 120)).map Prod.fst
abbrev sD (l : List Nat) : PyData := .str (S l)
abbrev nD (l : List Nat) : PyData := .list (l.map nn)
abbrev wD (l : List (List Nat)) : PyData := .list (l.map sD)
def R_is_mask (ds : List PyData) (d : PyData) : Prop := ∃ m : List Nat, ds = [sD m] ∧ maskB m = true ∧ d = .bool true
def R_need_mask (ds : List PyData) (d : PyData) : Prop := ∃ m : List Nat, ds = [sD m] ∧ maskB m = true ∧ d = .none
def R_is_row (ds : List PyData) (d : PyData) : Prop := ∃ l : List Nat, ds = [sD l] ∧ rowB l = true ∧ d = .bool true
def R_need_row (ds : List PyData) (d : PyData) : Prop := ∃ l : List Nat, ds = [sD l] ∧ rowB l = true ∧ d = .none
def R_seen_by (ds : List PyData) (d : PyData) : Prop := ∃ m : List Nat, ds = [sD m] ∧ m.length ≤ 16777216 ∧ d = nD (seenL m)
theorem map_fst_le {α β : Type} (l : List (α × β)) (p : α × β → Bool) : ((l.filter p).map Prod.fst).length ≤ l.length := by
  rw [List.length_map]
  exact List.length_filter_le ..
/-! ### the draws -/
section
variable {X : Cx} {σ : L2.St} {H : Hp} {a b : Expr} {x y z : V} {Q : VK} {pos : Pos}
/-- e gives v here, whatever the heap is then: the heap stays -/
def At (X : Cx) (σ : L2.St) (H : Hp) (e : Expr) (v : V) : Prop := ∀ Q : VK, Q v H → wE X e σ H Q
theorem at_var (i : Nat) {n : Str} (h : σ[i]? = some (some x)) (hN : X.N[i]? = some n := by rfl) (hv : Vis X.env.scope n := by first | exact Or.inl rfl | exact Or.inr (Or.inl rfl) | exact Or.inr (Or.inr rfl))
    (h1 : (n == ("__debug__" : Str)) = false := by decide) (h2 : (n == ("__classdict__" : Str)) = false := by decide) : At X σ H (.Name n pos) x := fun Q q => (pe_var hN hv h1 h2).w ⟨x, h, q⟩
theorem at_k {e : Expr} {v : V} (h : At X σ H e v) (q : Q v H) : wE X e σ H Q := h Q q
theorem at_int {i : Int} {j p} : At X σ H (.Constant (.int i) j p) (.int i) := fun Q q => pe_int.w q
theorem at_op {op : Operator} {r : R2} (o : OpR X (binaryOp op) r) (ha : At X σ H a x) (hb : At X σ H b y) (hz : ∀ Q : VK, Q z H → r x y H Q) : At X σ H (.BinOp a op b pos) z := fun Q q => (pe_op o wE.pe wE.pe).w (ha _ (hb _ (hz Q q)))
theorem at_ix {p : Addr} {xs : List V} {i : Int} (ha : At X σ H a (.ref p)) (hb : At X σ H b (.int i)) (hl : SqL X.K H p xs) (hx : atI xs i = some x) (hs : PlainIx b := by exact fun _ _ => rfl) : At X σ H (.Subscript a b pos) x := fun Q q =>
  (pe_ix ix_list wE.pe wE.pe hs).w (ha _ (hb _ ⟨p, xs, i, x, rfl, rfl, hl, hx, q⟩))
theorem at_int1 {p : Pos} {i : Int} (ha : At X σ H a (.int i)) (hm : X.mg "int" = none) (hg : Gl X "int" := by rfl) (hs : starEach [a] X.env = (false, eval a X.env) :: starEach [] X.env := by rfl) (hpl : (backTo pos (starEach [] X.env)).any (·.1) = false := by rfl) : At X σ H (.Call (.Name "int" p) [a] [] pos) (.int i) := fun Q q =>
  (pe_callTy call_int1 hg hm boot_int (pa_cons wE.pe pa_nil hs) (by decide) (by decide) hs hpl).w (ha _ (.inl ⟨i, rfl, q⟩))
theorem at_len {p : Pos} {l : Addr} {xs : List V} (ha : At X σ H a (.ref l)) (hl : SqL X.K H l xs) (hm : X.mg "len" = none) (hg : Gl X "len" := by rfl) (hs : starEach [a] X.env = (false, eval a X.env) :: starEach [] X.env := by rfl) (hpl : (backTo pos (starEach [] X.env)).any (·.1) = false := by rfl) : At X σ H (.Call (.Name "len" p) [a] [] pos) (.int xs.length) := fun Q q =>
  (pe_callB call_len_seq hg hm boot_len (pa_cons wE.pe pa_nil hs) (by decide) (by decide) hs hpl).w (ha _ ⟨l, xs, rfl, .inl hl, q⟩)
theorem at_cmp {op : CmpOp} {r : R2} {k : Bool} (o : OpR X (compareOp op) r) (ha : At X σ H a x) (hb : At X σ H b y) (hz : ∀ Q : VK, Q (.bl k) H → r x y H Q) {Qb : Bool → Hp → Prop} (q : Qb k H) (hm : behindInMarks op b = false := by first | exact nomark _ | rfl) : wT X (.Compare a [op] [b] pos) σ H Qb :=
  (pt_cmpR o wE.pe wE.pe hm).w (ha _ (hb _ (hz _ ⟨k, rfl, q⟩)))
end
def R_taken_pre (ds : List PyData) : Prop := ∃ m : Int, ds = [.int m] ∧ 0 < m ∧ m < 1073741824
def R_taken_post (ds : List PyData) (d : PyData) : Prop := ∃ m : Int, ∃ k : Nat, ds = [.int m] ∧ d = .int (k : Int) ∧ (k : Int) < m
/-! ### rings -/
def ringV (l ps : List Nat) : List (List Nat) := (List.range l.length).map fun p => ps.map fun a => l.getD ((p + a) % l.length) 0
def R_need_ring (ds : List PyData) (d : PyData) : Prop := ∃ l : List Nat, ds = [sD l] ∧ rowB l = true ∧ l ≠ [] ∧ d = .none
def R_rvo (ds : List PyData) (d : PyData) : Prop := ∃ l m : List Nat, ds = [sD l, sD m] ∧ l.length ≤ 4000 ∧ m.length ≤ 4000 ∧ d = wD (ringV l (seenL m))
def R_ring_views (ds : List PyData) (d : PyData) : Prop := ∃ l m : List Nat, ds = [sD l, sD m] ∧ rowB l = true ∧ l ≠ [] ∧ maskB m = true ∧ d = wD (ringV l (seenL m))
def R_ring_tells (ds : List PyData) (d : PyData) : Prop := ∃ l m : List Nat, ds = [sD l, sD m] ∧ rowB l = true ∧ l ≠ [] ∧ maskB m = true ∧ d = .bool (decide ((ringV l (seenL m)).Nodup))
theorem rowB_len {l : List Nat} (h : rowB l = true) : l.length ≤ 60 := by
  unfold rowB at h
  simp only [Bool.and_eq_true, decide_eq_true_eq] at h
  exact h.1
theorem maskB_len {m : List Nat} (h : maskB m = true) : m.length ≤ 12 := by
  unfold maskB at h
  simp only [Bool.and_eq_true, decide_eq_true_eq] at h
  exact h.1.1.1.2
theorem seenL_len (m : List Nat) : (seenL m).length ≤ m.length := by
  unfold seenL
  refine Nat.le_trans (map_fst_le _ _) ?_
  simp
theorem sum_le {α : Type} (f : α → Nat) (c : Nat) : ∀ (l : List α), (∀ x ∈ l, f x ≤ c) → (l.map f).sum ≤ l.length * c
  | [], _ => by simp
  | x :: l, h => by
    have h1 := h x List.mem_cons_self
    have h2 := sum_le f c l fun y hy => h y (List.mem_cons_of_mem _ hy)
    rw [List.map_cons, List.sum_cons, List.length_cons, Nat.add_mul]
    omega

/-! ### the law's own defs -/
def lowL (n : Nat) (l : List Nat) : Prop := ∀ c ∈ l, 97 ≤ c ∧ c < 97 + n
def pre_mask (ds : List PyData) : Prop := ∃ w : Nat, ds = [nn w] ∧ 1 ≤ w ∧ w ≤ 12
def post_mask (ds : List PyData) (d : PyData) : Prop := ∃ (w : Nat) (m : List Nat), ds = [nn w] ∧ d = sD m ∧ maskB m = true ∧ m.length ≤ w
def pre_line (ds : List PyData) : Prop := ∃ a n : Nat, ds = [nn a, nn n] ∧ a ≤ 100000 ∧ 1 ≤ n ∧ n ≤ 4
def post_line (ds : List PyData) (d : PyData) : Prop := ∃ (a n : Nat) (l : List Nat), ds = [nn a, nn n] ∧ d = sD l ∧ l.length ≤ a ∧ lowL n l
def openL (m : List Nat) : List Nat := (List.range m.length).filter fun i => decide (m.getD i 0 = 120)
def R_open (ds : List PyData) (d : PyData) : Prop := ∃ m : List Nat, ds = [sD m] ∧ m.length ≤ 4000 ∧ d = nD (openL m)
def lawV (l m : List Nat) : List (List Nat) := (List.range (l.length + 1 - m.length)).map fun p => (openL m).map fun a => l.getD (p + a) 0
def R_lviews (ds : List PyData) (d : PyData) : Prop := ∃ l m : List Nat, ds = [sD l, sD m] ∧ l.length ≤ 4000 ∧ 1 ≤ m.length ∧ m.length ≤ 4000 ∧ d = wD (lawV l m)
abbrev DRAW (P : Program) (w : World) (K : PySem.W.Frag) (mg : Str → Option Value) (base : Heap) (k : Nat) : Prop := Fd P w K mg base k "_law_taken" ["_law_row", "_law_many"] (spW K R_taken_pre R_taken_post)
section
variable {X : Cx} {W : Wd} {Γ : List DV} {μ : Mu} {a : Expr} {pos p p2 : Pos} {n : Str} {r scr : Addr} {ns : List Int} {k : Nat}
/-- _law_taken(_law_row, a) -/
theorem ev_taken {A : PyData → Prop} (m : Nat) (F : DRAW X.prog X.w X.K X.mg X.base k) (hr : Room k X.A) (hrow : W.row = some (r, scr, ns)) (i : Nat) (ha : Ev X W Γ μ a A) (hm : ∀ d, A d → ∃ z : Nat, d = nn z ∧ 1 ≤ z ∧ z ≤ m) (hm2 : m < 1000000 := by decide)
    (hi : Γ[i]? = some (.r r) := by rfl) (hN : X.N[i]? = some n := by rfl) (hv : Vis X.env.scope n := by first | exact Or.inl rfl | exact Or.inr (Or.inl rfl) | exact Or.inr (Or.inr rfl))
    (h1 : (n == ("__debug__" : Str)) = false := by decide) (h2 : (n == ("__classdict__" : Str)) = false := by decide) (hg : Gl X "_law_taken" := by rfl)
    (he : starEach (.Name n p2 :: [a]) X.env = (false, eval (.Name n p2) X.env) :: starEach [a] X.env := by rfl) (hpl : (backTo pos (starEach [a] X.env)).any (·.1) = false := by rfl) (he2 : starEach [a] X.env = (false, eval a X.env) :: starEach [] X.env := by rfl) :
    Ev X W Γ μ (.Call (.Name "_law_taken" p) (.Name n p2 :: [a]) [] pos) (fun d => ∃ z k : Nat, A (nn z) ∧ d = nn k ∧ k < z ∧ z ≤ m) :=
  (ev_draw F hr hrow i (eva_cons ha eva_nil he2) (fun ds ⟨x, r, e, ax, er⟩ => by
    obtain ⟨z, e2, h3, h4⟩ := hm x ax
    subst er
    exact ⟨(z : Int), by rw [e, e2], by omega, by omega⟩) hi hN hv h1 h2 hg (by decide) he hpl).imp fun d ⟨ds, ⟨x, r, e, ax, er⟩, m', k', e3, e4, h5⟩ => by
    obtain ⟨z, e2, h3, h4⟩ := hm x ax
    subst er
    rw [e, e2] at e3
    have e5 : (z : Int) = m' := by
      have := (List.cons.inj e3).1
      exact PyData.int.inj this
    exact ⟨z, k', e2 ▸ ax, e4, by omega, h4⟩
theorem ev_takenN (m : Nat) (F : DRAW X.prog X.w X.K X.mg X.base k) (hr : Room k X.A) (hrow : W.row = some (r, scr, ns)) (i : Nat) {z : Int} (ha : Ed X W Γ μ a (.int z)) (e : z = (m : Int)) (h1m : 1 ≤ m := by decide) (hm2 : m < 1000000 := by decide)
    (hi : Γ[i]? = some (.r r) := by rfl) (hN : X.N[i]? = some n := by rfl) (hv : Vis X.env.scope n := by first | exact Or.inl rfl | exact Or.inr (Or.inl rfl) | exact Or.inr (Or.inr rfl))
    (h1 : (n == ("__debug__" : Str)) = false := by decide) (h2 : (n == ("__classdict__" : Str)) = false := by decide) (hg : Gl X "_law_taken" := by rfl)
    (he : starEach (.Name n p2 :: [a]) X.env = (false, eval (.Name n p2) X.env) :: starEach [a] X.env := by rfl) (hpl : (backTo pos (starEach [a] X.env)).any (·.1) = false := by rfl) (he2 : starEach [a] X.env = (false, eval a X.env) :: starEach [] X.env := by rfl) :
    Ev X W Γ μ (.Call (.Name "_law_taken" p) (.Name n p2 :: [a]) [] pos) (fun d => ∃ k : Nat, d = nn k ∧ k < m) :=
  (ev_taken (A := fun d => d = nn m) m F hr hrow i (ha.evP (by rw [e])) (fun d e => ⟨m, e, h1m, Nat.le_refl _⟩) hm2 hi hN hv h1 h2 hg he hpl he2).imp fun d ⟨z, k, e1, e2, h3, h4⟩ => ⟨k, e2, by omega⟩
end

theorem EvA.imp {X : Cx} {W : Wd} {Γ : List DV} {μ : Mu} {es : List Expr} {A B : List PyData → Prop} (h : EvA X W Γ μ es A) (i : ∀ d, A d → B d) : EvA X W Γ μ es B := fun σ H R Q k => h σ H R Q fun v d H2 R2 x2 r p => k v d H2 R2 x2 r (i d p)

/-! ### the plain law -/
theorem mapIdx_range (m : List Nat) : m.mapIdx Prod.mk = (List.range m.length).map fun i => (i, m.getD i 0) := by
  apply List.ext_getElem?
  intro i
  rw [List.getElem?_mapIdx, List.getElem?_map]
  by_cases h : i < m.length
  · rw [List.getElem?_range h, List.getElem?_eq_getElem h]
    show some (i, m[i]) = some (i, m.getD i 0)
    rw [List.getD_eq_getElem?_getD, List.getElem?_eq_getElem h]
    rfl
  · rw [List.getElem?_eq_none (by omega), List.getElem?_eq_none (by simp; omega)]
    rfl
theorem open_seen (m : List Nat) : openL m = seenL m := by
  unfold seenL openL
  rw [mapIdx_range, List.filter_map, List.map_map]
  have e : (Prod.fst ∘ fun i => (i, m.getD i 0)) = (id : Nat → Nat) := rfl
  rw [e, List.map_id]
  rfl
theorem mem_open {m : List Nat} {a : Nat} (h : a ∈ openL m) : a < m.length := by
  have := (List.mem_filter.mp h).1
  simpa using this
theorem rep_get (l : List Nat) : ∀ (n i : Nat), i < n * l.length → ((List.replicate n l).flatten).getD i 0 = l.getD (i % l.length) 0
  | 0, i, h => by omega
  | n + 1, i, h => by
    rw [List.replicate_succ, List.flatten_cons, List.getD_eq_getElem?_getD, List.getD_eq_getElem?_getD]
    by_cases q : i < l.length
    · rw [List.getElem?_append_left q, Nat.mod_eq_of_lt q]
    · rw [List.getElem?_append_right (by omega)]
      have ih := rep_get l n (i - l.length) (by rw [Nat.add_mul] at h; omega)
      rw [List.getD_eq_getElem?_getD, List.getD_eq_getElem?_getD] at ih
      rw [ih, ← Nat.mod_eq_sub_mod (by omega)]
theorem law_rings (l m : List Nat) (h1 : 1 ≤ l.length) (h2 : m.length ≤ 12) : (lawV (List.replicate 13 l).flatten m).take l.length = ringV l (seenL m) := by
  unfold lawV ringV
  have hl : (List.replicate 13 l).flatten.length = 13 * l.length := by simp; omega
  rw [hl, ← List.map_take, List.take_range, open_seen, Nat.min_eq_left (by omega)]
  refine List.map_congr_left fun p hp => List.map_congr_left fun a ha => ?_
  have h3 := mem_open (open_seen m ▸ ha)
  have h4 : p < l.length := by simpa using hp
  exact rep_get l 13 (p + a) (by omega)
theorem low_row {l : List Nat} (h1 : l.length ≤ 60) (h2 : lowL 4 l) : rowB l = true := by
  unfold rowB
  simp only [Bool.and_eq_true, decide_eq_true_eq, List.all_eq_true]
  refine ⟨h1, fun c hc => ?_⟩
  have := h2 c hc
  have : c = 97 ∨ c = 98 ∨ c = 99 ∨ c = 100 := by omega
  rcases this with e | e | e | e <;> (subst e; decide)
theorem rowB_low {l : List Nat} (h : rowB l = true) : ∀ c ∈ l, c < 128 := by
  unfold rowB at h
  simp only [Bool.and_eq_true, decide_eq_true_eq, List.all_eq_true] at h
  intro c hc
  have := h.2 c hc
  simp at this
  omega
theorem ringV_low {l ps : List Nat} (h : rowB l = true) : ∀ v ∈ ringV l ps, ∀ c ∈ v, c < 128 := by
  intro v hv c hc
  unfold ringV at hv
  obtain ⟨p, _, rfl⟩ := List.mem_map.mp hv
  obtain ⟨a, _, rfl⟩ := List.mem_map.mp hc
  rw [List.getD_eq_getElem?_getD]
  cases e : l[(p + a) % l.length]? with
  | none => decide
  | some x => exact rowB_low h x (List.mem_of_getElem? e)
theorem shp_w {ws : List (List Nat)} (h : ∀ v ∈ ws, ∀ c ∈ v, c < 128) : Shp 1 (wD ws) := Shp.list fun x hx => by
  obtain ⟨v, hv, rfl⟩ := List.mem_map.mp hx
  exact Shp.str (h v hv)

end HW
set_option maxHeartbeats 4000000
namespace HW
open PySem PySem.Spec PyProof.Rows L2
open SX (S)
section
variable {X : Cx} {W W0 : Wd} {Γ : List DV} {μ : Mu} {e c a b : Expr} {rest sts body : List Stmt} {D : Ends} {d x y : PyData} {pos p p1 p2 p3 : Pos} {n n1 n2 : Str} {α : Type}
/-- l.extend(e) -/
theorem run_extP {P : List PyData → Prop} (i j : Nat) {l : Addr} {ys : List PyData} (he : Ev X W Γ μ e (fun z => ∃ zs, z = .list zs ∧ P zs)) (hl : ∀ zs, P zs → ys.length + zs.length ≤ 16777216) (h : ∀ zs, P zs → Run X W Γ (μ.set j (l, .lst (ys ++ zs))) rest D)
    (hi : Γ[i]? = some (.r l) := by rfl) (hj : μ[j]? = some (l, .lst ys) := by rfl) (hN : X.N[i]? = some n := by rfl) (hv : Vis X.env.scope n := by first | exact Or.inl rfl | exact Or.inr (Or.inl rfl) | exact Or.inr (Or.inr rfl))
    (h1 : (n == ("__debug__" : Str)) = false := by decide) (h2 : (n == ("__classdict__" : Str)) = false := by decide)
    (hbase : attributeBase (.Name n p1) "extend" X.env (eval (.Name n p1) X.env) = eval (.Name n p1) X.env := by rfl)
    (hfew : ((backTo p3 (starEach [e] X.env)).all (fun x => !x.1) && (backToKw p3 (keywordEach [] X.env)).all (fun x => x.1.isSome)
      && decide ([e].length + ([] : List Keyword).length + (if ([] : List Keyword).isEmpty then 0 else 1) < 30)) = true := by rfl)
    (hline : (p2.endLine == p3.line) = true := by rfl) (hs : starEach [e] X.env = (false, eval e X.env) :: starEach [] X.env := by rfl) (hplain : (backTo p3 (starEach [] X.env)).any (·.1) = false := by rfl)
    (hsw : swapsWith (.Call (.Attribute (.Name n p1) "extend" p2) [e] [] p3) none pos.line X.env = pure false := by rfl) :
    Run X W Γ μ (.Expr (.Call (.Attribute (.Name n p1) "extend" p2) [e] [] p3) pos :: rest) D := fun σ H R => by
  refine wSs_cons ((ps_expr (pe_bm PySem.F.plainAttrs_list PySem.F.slot_list_extend PySem.F.type_list_extend mt_extend (pe_var hN hv h1 h2) (pa_cons wE.pe pa_nil hs) hbase hfew hline hs hplain) hsw).w ?_)
  obtain ⟨o, e1, e2⟩ := R.sl.at_ i _ hi
  have e2' : o = some (.ref l) := e2
  subst e2'
  have hmem : (l, MO.lst ys) ∈ μ := List.mem_of_getElem? hj
  obtain ⟨xs, hx, _⟩ := (R.mu _ hmem).2
  refine ⟨_, e1, .inl ⟨rfl, _, SqL.of hx⟩, ?_⟩
  refine he σ H R _ fun v d H2 R2 e2 r ⟨zs, ed, p⟩ => ?_
  subst ed
  cases r with
  | lst ha hv =>
    obtain ⟨xs2, hx2, hv2⟩ := (R2.mu _ hmem).2
    refine ⟨l, _, xs2, _, rfl, rfl, hx2, (off_some ha).2, by rw [hv2.length, hv.length]; exact hl zs p, ?_⟩
    exact h zs p _ _ (R2.chg hj ⟨_, upd_same, hv2.app hv⟩)
theorem run_ext (i j : Nat) {l : Addr} {ys zs : List PyData} (he : Ed X W Γ μ e (.list zs)) (hl : ys.length + zs.length ≤ 16777216) (h : Run X W Γ (μ.set j (l, .lst (ys ++ zs))) rest D)
    (hi : Γ[i]? = some (.r l) := by rfl) (hj : μ[j]? = some (l, .lst ys) := by rfl) (hN : X.N[i]? = some n := by rfl) (hv : Vis X.env.scope n := by first | exact Or.inl rfl | exact Or.inr (Or.inl rfl) | exact Or.inr (Or.inr rfl))
    (h1 : (n == ("__debug__" : Str)) = false := by decide) (h2 : (n == ("__classdict__" : Str)) = false := by decide)
    (hbase : attributeBase (.Name n p1) "extend" X.env (eval (.Name n p1) X.env) = eval (.Name n p1) X.env := by rfl)
    (hfew : ((backTo p3 (starEach [e] X.env)).all (fun x => !x.1) && (backToKw p3 (keywordEach [] X.env)).all (fun x => x.1.isSome)
      && decide ([e].length + ([] : List Keyword).length + (if ([] : List Keyword).isEmpty then 0 else 1) < 30)) = true := by rfl)
    (hline : (p2.endLine == p3.line) = true := by rfl) (hs : starEach [e] X.env = (false, eval e X.env) :: starEach [] X.env := by rfl) (hplain : (backTo p3 (starEach [] X.env)).any (·.1) = false := by rfl)
    (hsw : swapsWith (.Call (.Attribute (.Name n p1) "extend" p2) [e] [] p3) none pos.line X.env = pure false := by rfl) :
    Run X W Γ μ (.Expr (.Call (.Attribute (.Name n p1) "extend" p2) [e] [] p3) pos :: rest) D :=
  run_extP (P := fun w => w = zs) i j (he.evP ⟨zs, rfl, rfl⟩) (fun _ e => e ▸ hl) (fun _ e => e ▸ h) hi hj hN hv h1 h2 hbase hfew hline hs hplain hsw
/-- for n1, n2 in iter -/
theorem run_for2 {xs : List α} {iter : Expr} {e1 e2 : α → PyData} {kk : Nat} {tpos : Pos} (k1 k2 : Nat) (hi : IterD X W Γ μ (.Tuple [.Name n1 p1, .Name n2 p2] kk tpos) iter (fun x => pr2 (e1 x) (e2 x)) xs) (J : Nat → List DV → Mu → Prop) (h0 : J 0 Γ μ)
    (hs : ∀ W1, Wle W W1 → ∀ i x Γ' μ', xs[i]? = some x → J i Γ' μ' → Run X W1 ((Γ'.set k1 (.d (e1 x))).set k2 (.d (e2 x))) μ' body { D with nx := StP X.K W1 (J (i + 1)), ct := StP X.K W1 (J (i + 1)), bk := wSs X rest D })
    (hd' : ∀ Γ' μ', J xs.length Γ' μ' → Run X W Γ' μ' rest D) (hN : X.N.Nodup) (hn1 : X.N[k1]? = some n1 := by rfl) (hn2 : X.N[k2]? = some n2 := by rfl) (hx1 : Loc X.env.scope n1 := by first | exact Or.inl rfl | exact Or.inr rfl) (hx2 : Loc X.env.scope n2 := by first | exact Or.inl rfl | exact Or.inr rfl)
    (hf1 : X.fn n1 = true ∨ X.env.scope.names.lookup n1 = some .local := by first | exact .inr rfl | exact .inl rfl) (hf2 : X.fn n2 = true ∨ X.env.scope.names.lookup n2 = some .local := by first | exact .inr rfl | exact .inl rfl)
    (hp : PassesOwn (model X.prog X.w) X.A X.env X.xe := by exact PassesOwn.never) (hc : X.calm = true := by rfl) (hf : ∀ x, foldedSetIterable iter X.env x = pure x := by intro _; rfl) :
    Run X W Γ μ (.For (.Tuple [.Name n1 p1, .Name n2 p2] kk tpos) iter body [] pos :: rest) D :=
  run_forG hi (tg_pair (tg_name (K := X.K) k1) (tg_name k2)) (pg_tup hc (pgs_cons (pg_name hN hn1 hx1 hf1) (pgs_cons (pg_name hN hn2 hx2 hf2) pgs_nil))) (fun _ _ x _ => ⟨e1 x, e2 x, rfl, trivial, trivial⟩) (fun _ => J) (fun _ _ => h0) (fun _ e W1 l i x Γ' μ' h j => hs W1 l i x Γ' μ' (e ▸ h) j) (fun _ e Γ' μ' j => hd' Γ' μ' (e ▸ j)) hp hc hf
/-- n1, n2 = a, b : two plain names -/
theorem run_parP {As : List PyData → Prop} (i j : Nat) {kt k2 : Nat} {pt pt2 : Pos} (ha : EvA X W Γ μ [a, b] As) (h : ∀ ds, As ds → ∃ x y, ds = [x, y] ∧ Run X W ((Γ.set i (.d x)).set j (.d y)) μ rest D) (hN : X.N.Nodup) (hij : i ≠ j := by decide) (hi : X.N[i]? = some n1 := by rfl) (hj : X.N[j]? = some n2 := by rfl)
    (hx : X.env.scope.names.lookup n1 = some .local := by rfl) (hy : X.env.scope.names.lookup n2 = some .local := by rfl) (hc : X.calm = true := by rfl)
    (hw : swappedStores [.Tuple [.Name n1 p1, .Name n2 p2] kt pt] (.Tuple [a, b] k2 pt2) X.env = pure (some [n1, n2]) := by rfl)
    (hs : swapsWithSole [.Tuple [.Name n1 p1, .Name n2 p2] kt pt] (.Tuple [a, b] k2 pt2) pos.line X.env = pure false := by rfl) :
    Run X W Γ μ (.Assign [.Tuple [.Name n1 p1, .Name n2 p2] kt pt] (.Tuple [a, b] k2 pt2) pos :: rest) D := fun σ H R =>
  wSs_cons ((ps_par hc hN hi hj hij hx hy wA.pa hw hs).w (ha σ H R _ fun vs ds H2 R2 e2 r pa => by
    obtain ⟨x, y, rfl, hr⟩ := h ds pa
    cases r with
    | cons r1 r =>
      cases r with
      | cons r2 r =>
        cases r
        exact ⟨_, _, rfl, hr _ _ ⟨R2.wd, R2.fr, (R2.sl.set i r1).set j r2, R2.mu, R2.nd⟩⟩))
theorem run_par (i j : Nat) {kt k2 : Nat} {pt pt2 : Pos} (ha : EdA X W Γ μ [a, b] [x, y]) (h : Run X W ((Γ.set i (.d x)).set j (.d y)) μ rest D) (hN : X.N.Nodup) (hij : i ≠ j := by decide) (hi : X.N[i]? = some n1 := by rfl) (hj : X.N[j]? = some n2 := by rfl)
    (hx : X.env.scope.names.lookup n1 = some .local := by rfl) (hy : X.env.scope.names.lookup n2 = some .local := by rfl) (hc : X.calm = true := by rfl)
    (hw : swappedStores [.Tuple [.Name n1 p1, .Name n2 p2] kt pt] (.Tuple [a, b] k2 pt2) X.env = pure (some [n1, n2]) := by rfl)
    (hs : swapsWithSole [.Tuple [.Name n1 p1, .Name n2 p2] kt pt] (.Tuple [a, b] k2 pt2) pos.line X.env = pure false := by rfl) :
    Run X W Γ μ (.Assign [.Tuple [.Name n1 p1, .Name n2 p2] kt pt] (.Tuple [a, b] k2 pt2) pos :: rest) D :=
  run_parP (As := fun l => l = [x, y]) i j (ha.ev rfl) (fun ds e => ⟨x, y, e, h⟩) hN hij hi hj hx hy hc hw hs
/-- n1, n2 = e : a pair of data (also where a name is a cell) -/
theorem run_asg2P {P : PyData → Prop} (i j : Nat) {kt : Nat} {pt : Pos} (he : Ev X W Γ μ e P) (h : ∀ d, P d → ∃ x y, d = .tuple [x, y] ∧ Run X W ((Γ.set i (.d x)).set j (.d y)) μ rest D) (hN : X.N.Nodup) (hi : X.N[i]? = some n1 := by rfl) (hj : X.N[j]? = some n2 := by rfl)
    (hx1 : Loc X.env.scope n1 := by first | exact Or.inl rfl | exact Or.inr rfl) (hx2 : Loc X.env.scope n2 := by first | exact Or.inl rfl | exact Or.inr rfl)
    (hf1 : X.fn n1 = true ∨ X.env.scope.names.lookup n1 = some .local := by first | exact .inr rfl | exact .inl rfl) (hf2 : X.fn n2 = true ∨ X.env.scope.names.lookup n2 = some .local := by first | exact .inr rfl | exact .inl rfl) (hc : X.calm = true := by rfl)
    (hs : swapsWithSole [.Tuple [.Name n1 p1, .Name n2 p2] kt pt] e pos.line X.env = pure false := by rfl) (hw : swappedStores [.Tuple [.Name n1 p1, .Name n2 p2] kt pt] e X.env = pure none := by rfl)
    (h1 : (assignEach [.Tuple [.Name n1 p1, .Name n2 p2] kt pt] X.env).map (·.2) = [assign (.Tuple [.Name n1 p1, .Name n2 p2] kt pt) X.env] := by rfl) :
    Run X W Γ μ (.Assign [.Tuple [.Name n1 p1, .Name n2 p2] kt pt] e pos :: rest) D := fun σ H R =>
  wSs_cons ((ps_asg wE.pe (pg_tup hc (pgs_cons (pg_name hN hi hx1 hf1) (pgs_cons (pg_name hN hj hx2 hf2) pgs_nil))) hs hw h1).w (he σ H R _ fun v d H2 R2 e2 r pd => by
    obtain ⟨x, y, rfl, hr⟩ := h d pd
    refine (tg_pair (tg_name (K := X.K) i) (tg_name j)).run _ v _ σ H2 Γ _ r ⟨x, y, rfl, trivial, trivial⟩ R2.sl fun σ3 s3 _ _ => ?_
    exact hr _ _ ⟨R2.wd, R2.fr, s3, R2.mu, R2.nd⟩))
theorem run_asg2 (i j : Nat) {kt : Nat} {pt : Pos} (he : Ed X W Γ μ e (.tuple [x, y])) (h : Run X W ((Γ.set i (.d x)).set j (.d y)) μ rest D) (hN : X.N.Nodup) (hi : X.N[i]? = some n1 := by rfl) (hj : X.N[j]? = some n2 := by rfl)
    (hx1 : Loc X.env.scope n1 := by first | exact Or.inl rfl | exact Or.inr rfl) (hx2 : Loc X.env.scope n2 := by first | exact Or.inl rfl | exact Or.inr rfl)
    (hf1 : X.fn n1 = true ∨ X.env.scope.names.lookup n1 = some .local := by first | exact .inr rfl | exact .inl rfl) (hf2 : X.fn n2 = true ∨ X.env.scope.names.lookup n2 = some .local := by first | exact .inr rfl | exact .inl rfl) (hc : X.calm = true := by rfl)
    (hs : swapsWithSole [.Tuple [.Name n1 p1, .Name n2 p2] kt pt] e pos.line X.env = pure false := by rfl) (hw : swappedStores [.Tuple [.Name n1 p1, .Name n2 p2] kt pt] e X.env = pure none := by rfl)
    (h1 : (assignEach [.Tuple [.Name n1 p1, .Name n2 p2] kt pt] X.env).map (·.2) = [assign (.Tuple [.Name n1 p1, .Name n2 p2] kt pt) X.env] := by rfl) :
    Run X W Γ μ (.Assign [.Tuple [.Name n1 p1, .Name n2 p2] kt pt] e pos :: rest) D :=
  run_asg2P (P := fun z => z = .tuple [x, y]) i j he.ev (fun _ e => ⟨x, y, e, h⟩) hN hi hj hx1 hx2 hf1 hf2 hc hs hw h1
/-- n += e, of ints -/
theorem run_augI (i : Nat) {z k : Int} (he : Ed X W Γ μ e (.int k)) (h : Run X W (Γ.set i (.d (.int (z + k)))) μ rest D) (hN : X.N.Nodup) (hd_ : Γ[i]? = some (.d (.int z)) := by rfl) (hi : X.N[i]? = some n := by rfl) (hx : Loc X.env.scope n := by first | exact Or.inl rfl | exact Or.inr rfl)
    (hf : X.fn n = true ∨ X.env.scope.names.lookup n = some .local := by first | exact .inr rfl | exact .inl rfl) : Run X W Γ μ (.AugAssign (.Name n p) .Add e pos :: rest) D := fun σ H R => by
  obtain ⟨o, e1, v, e2, r⟩ := R.sl.at_ i _ hd_
  subst e2
  cases r
  refine wSs_cons ((ps_aug hN hi hx wE.pe ip_add hf).w ⟨_, e1, he σ H R _ fun v H2 R2 x2 r2 => ?_⟩)
  cases r2
  exact ⟨z, k, rfl, rfl, h _ _ ⟨R2.wd, R2.fr, R2.sl.set i (.int _), R2.mu, R2.nd⟩⟩
/-- while c: the state J m with the measure m; c tells b m -/
theorem run_while {c : Expr} (J : Nat → List DV → Mu → Prop) (B : Nat → Bool) (m0 : Nat) (h0 : J m0 Γ μ) (hc : ∀ W1, Wle W W1 → ∀ m Γ' μ', J m Γ' μ' → EdT X W1 Γ' μ' c (B m))
    (hs : ∀ W1, Wle W W1 → ∀ m Γ' μ', B m = true → J m Γ' μ' → Run X W1 Γ' μ' body { D with nx := StP X.K W1 (fun Γ2 μ2 => ∃ m', m' < m ∧ J m' Γ2 μ2), ct := StP X.K W1 (fun Γ2 μ2 => ∃ m', m' < m ∧ J m' Γ2 μ2), bk := wSs X rest D })
    (hd' : ∀ m Γ' μ', B m = false → J m Γ' μ' → Run X W Γ' μ' rest D) (hp : PassesOwn (model X.prog X.w) X.A X.env X.xe := by exact PassesOwn.never) :
    Run X W Γ μ (.While c body [] pos :: rest) D := fun σ H R => by
  refine wSs_cons ((ps_while hp wT.pt wSs.ps).w ⟨fun m => StP X.K (W.now μ H) (J m), ⟨m0, Γ, μ, h0, R.now⟩, ?_⟩)
  have le1 : Wle W (W.now μ H) := R.now_le
  rintro m σ' H' ⟨Γ', μ', j, R'⟩
  refine hc _ le1 m Γ' μ' j σ' H' R' _ fun H2 R2 _ => ?_
  cases hb : B m with
  | true =>
    refine iteT ⟨StP X.K (W.now μ H) (fun Γ2 μ2 => ∃ m', m' < m ∧ J m' Γ2 μ2), fun σ2 H3 ⟨Γ2, μ2, ⟨m', hm, j'⟩, R3⟩ => ⟨m', hm, Γ2, μ2, j', R3⟩, ?_⟩
    exact hs _ le1 m Γ' μ' hb j σ' H2 R2
  | false => exact iteF (hd' m Γ' μ' hb j σ' H2 (R2.wdown le1 R.wd))
end
end HW
set_option maxHeartbeats 4000000
namespace HW
open PySem PySem.Spec PyProof.Rows L2
open SX (S)
/-! ### views -/
def viewL (l m : List Nat) (p : Nat) : List Nat := (seenL m).map fun a => l.getD (p + a) 0
def viewsL (l m : List Nat) : List (List Nat) := (List.range (l.length + 1 - m.length)).map (viewL l m)
def tellsB (l m : List Nat) : Bool := decide (viewsL l m).Nodup
theorem lawV_eq (l m : List Nat) : lawV l m = viewsL l m := by unfold lawV viewsL; rw [open_seen]; rfl
theorem viewsL_len (l m : List Nat) : (viewsL l m).length = l.length + 1 - m.length := by simp [viewsL]
theorem mem_seen {m : List Nat} {a : Nat} (h : a ∈ seenL m) : a < m.length := mem_open (open_seen m ▸ h)
theorem maskB_pos {m : List Nat} (h : maskB m = true) : 1 ≤ m.length := by
  unfold maskB at h
  simp only [Bool.and_eq_true, decide_eq_true_eq] at h
  exact h.1.1.1.1
def R_view_by (ds : List PyData) (d : PyData) : Prop := ∃ (l m : List Nat) (p : Nat), ds = [sD l, sD m, nn p] ∧ l.length ≤ 4000 ∧ m.length ≤ 4000 ∧ p + m.length ≤ l.length ∧ d = sD (viewL l m p)
def R_views_of (ds : List PyData) (d : PyData) : Prop := ∃ l m : List Nat, ds = [sD l, sD m] ∧ l.length ≤ 4000 ∧ 1 ≤ m.length ∧ m.length ≤ 4000 ∧ d = wD (viewsL l m)
def R_views (ds : List PyData) (d : PyData) : Prop := ∃ l m : List Nat, ds = [sD l, sD m] ∧ rowB l = true ∧ maskB m = true ∧ d = wD (viewsL l m)
def R_tells_by (ds : List PyData) (d : PyData) : Prop := ∃ l m : List Nat, ds = [sD l, sD m] ∧ l.length ≤ 4000 ∧ 1 ≤ m.length ∧ m.length ≤ 4000 ∧ d = .bool (tellsB l m)
def R_tells (ds : List PyData) (d : PyData) : Prop := ∃ l m : List Nat, ds = [sD l, sD m] ∧ rowB l = true ∧ maskB m = true ∧ d = .bool (tellsB l m)
def R_is_from (ds : List PyData) (d : PyData) : Prop := ∃ v a b : Int, ds = [.int v, .int a, .int b] ∧ d = .bool (decide (a ≤ v) && decide (v ≤ b))
def R_need_letters (ds : List PyData) (d : PyData) : Prop := ∃ n : Nat, ds = [nn n] ∧ 1 ≤ n ∧ n ≤ 4 ∧ d = .none
def letL (n : Nat) : List Nat := [97, 98, 99, 100].take n
theorem mem_letL {n c : Nat} (hn : n ≤ 4) : c ∈ letL n ↔ 97 ≤ c ∧ c < 97 + n := by
  unfold letL
  match n, hn with
  | 0, _ => constructor <;> intro h <;> first | omega | simp at h
  | 1, _ => simp; omega
  | 2, _ => simp; omega
  | 3, _ => simp; omega
  | 4, _ => simp; omega
theorem letL_len {n : Nat} (hn : n ≤ 4) : (letL n).length = n := by simp [letL]; omega
def R_need_row_in (ds : List PyData) (d : PyData) : Prop := ∃ (l : List Nat) (n : Nat), ds = [sD l, nn n] ∧ 1 ≤ n ∧ n ≤ 4 ∧ rowB l = true ∧ lowL n l ∧ d = .none
def R_ltells (ds : List PyData) (d : PyData) : Prop := ∃ l m : List Nat, ds = [sD l, sD m] ∧ l.length ≤ 4000 ∧ 1 ≤ m.length ∧ m.length ≤ 4000 ∧ d = .bool (tellsB l m)
def chgL (l : List Nat) (i c : Nat) : List Nat := l.take i ++ [c] ++ l.drop (i + 1)
theorem chgL_len (l : List Nat) (i c : Nat) (h : i < l.length) : (chgL l i c).length = l.length := by simp [chgL]; omega
def weakAt (l m : List Nat) (n i : Nat) : List PyData := (((letL n).filter fun c => decide (c ≠ l.getD i 0)).filter fun c => tellsB (chgL l i c) m).map fun c => pr2 (nn i) (sg c)
def weakL (l m : List Nat) (n : Nat) : List PyData := (List.range l.length).flatMap (weakAt l m n)
def R_weak (ds : List PyData) (d : PyData) : Prop := ∃ (l m : List Nat) (n : Nat), ds = [sD l, sD m, nn n] ∧ 1 ≤ n ∧ n ≤ 4 ∧ rowB l = true ∧ lowL n l ∧ maskB m = true ∧ d = .list (weakL l m n)
theorem weakAt_len (l m : List Nat) {n : Nat} (hn : n ≤ 4) (i : Nat) : (weakAt l m n i).length ≤ 4 := by
  unfold weakAt
  rw [List.length_map]
  refine Nat.le_trans (List.length_filter_le ..) (Nat.le_trans (List.length_filter_le ..) ?_)
  rw [letL_len hn]
  exact hn
theorem flat_len {α β : Type} (f : α → List β) (c : Nat) : ∀ l : List α, (∀ x ∈ l, (f x).length ≤ c) → (l.flatMap f).length ≤ l.length * c
  | [], _ => by simp
  | x :: l, h => by
    have h1 := h x List.mem_cons_self
    have h2 := flat_len f c l fun y hy => h y (List.mem_cons_of_mem _ hy)
    rw [List.flatMap_cons, List.length_append, List.length_cons, Nat.add_mul]
    omega

/-! ### draws in use -/
section
variable {X : Cx} {W : Wd} {Γ : List DV} {μ : Mu} {a b e i : Expr} {pos p p2 : Pos} {n : Str} {r scr : Addr} {ns : List Int} {k : Nat}
/-- [..][draw] -/
theorem ev_pick (xs : List PyData) (he : Ed X W Γ μ e (.list xs)) (hi : Ev X W Γ μ i (fun d => ∃ q : Nat, d = nn q ∧ q < xs.length)) (hs : PlainIx i := by exact fun _ _ => rfl) : Ev X W Γ μ (.Subscript e i pos) (fun z => z ∈ xs) :=
  ev_ix he.ev hi (fun x y ex ⟨q, ey, hq⟩ => by
    subst ex
    subst ey
    exact ⟨xs[q], List.getElem_mem hq, i_list (n := q) (List.getElem?_eq_getElem hq)⟩) hs
/-- "abcd"[draw] -/
theorem ev_sign (l : List Nat) (hl : l.length ≤ 1000) (he : Ed X W Γ μ e (sD l)) (hi : Ev X W Γ μ i (fun d => ∃ q : Nat, d = nn q ∧ q < l.length)) (hs : PlainIx i := by exact fun _ _ => rfl) : Ev X W Γ μ (.Subscript e i pos) (fun z => ∃ c, z = sg c ∧ c ∈ l) :=
  ev_ix he.ev hi (fun x y ex ⟨q, ey, hq⟩ => by
    subst ex
    subst ey
    exact ⟨sg l[q], ⟨l[q], rfl, List.getElem_mem hq⟩, i_str (n := q) (by omega) (List.getElem?_eq_getElem hq)⟩) hs
/-- _law_mask(_law_row, a) -/
theorem ev_lmask (wd : Nat) (F : Fd X.prog X.w X.K X.mg X.base k "_law_mask" ["_law_row", "_law_width"] (spW X.K pre_mask post_mask)) (hr : Room k X.A) (hrow : W.row = some (r, scr, ns)) (j : Nat) (ha : Ev X W Γ μ a (fun z => ∃ q : Nat, z = nn q ∧ 1 ≤ q ∧ q ≤ wd)) (hw : wd ≤ 12 := by decide)
    (hi : Γ[j]? = some (.r r) := by rfl) (hN : X.N[j]? = some n := by rfl) (hv : Vis X.env.scope n := by first | exact Or.inl rfl | exact Or.inr (Or.inl rfl) | exact Or.inr (Or.inr rfl))
    (h1 : (n == ("__debug__" : Str)) = false := by decide) (h2 : (n == ("__classdict__" : Str)) = false := by decide) (hg : Gl X "_law_mask" := by rfl)
    (he : starEach (.Name n p2 :: [a]) X.env = (false, eval (.Name n p2) X.env) :: starEach [a] X.env := by rfl) (hpl : (backTo pos (starEach [a] X.env)).any (·.1) = false := by rfl) (he2 : starEach [a] X.env = (false, eval a X.env) :: starEach [] X.env := by rfl) :
    Ev X W Γ μ (.Call (.Name "_law_mask" p) (.Name n p2 :: [a]) [] pos) (fun d => ∃ m : List Nat, d = sD m ∧ maskB m = true ∧ m.length ≤ wd) :=
  (ev_draw F hr hrow j (A := fun ds => ∃ q : Nat, ds = [nn q] ∧ 1 ≤ q ∧ q ≤ wd) (eva_cons ha eva_nil he2 |>.imp fun ds ⟨x, r, e, ⟨q, e2, h⟩, e3⟩ => ⟨q, by rw [e, e2, e3], h⟩) (fun ds ⟨q, e, h3, h4⟩ => ⟨q, e, h3, by omega⟩) hi hN hv h1 h2 hg (by decide) he hpl).imp fun d ⟨ds, ⟨q, e, h3, h4⟩, hp⟩ => by
    obtain ⟨w', m, e2, e3, hm, hl⟩ := hp
    rw [e] at e2
    have := PyData.int.inj (List.cons.inj e2).1
    exact ⟨m, e3, hm, by omega⟩
/-- _law_line(_law_row, a, b) -/
theorem ev_lline (A N : Nat) (F : Fd X.prog X.w X.K X.mg X.base k "_law_line" ["_law_row", "_law_most", "_law_letters"] (spW X.K pre_line post_line)) (hr : Room k X.A) (hrow : W.row = some (r, scr, ns)) (j : Nat) (ha : Ev X W Γ μ a (fun z => ∃ q : Nat, z = nn q ∧ q ≤ A)) (hb : Ev X W Γ μ b (fun z => ∃ q : Nat, z = nn q ∧ 1 ≤ q ∧ q ≤ N)) (hA : A ≤ 100000 := by decide) (hNN : N ≤ 4 := by decide)
    (hi : Γ[j]? = some (.r r) := by rfl) (hN : X.N[j]? = some n := by rfl) (hv : Vis X.env.scope n := by first | exact Or.inl rfl | exact Or.inr (Or.inl rfl) | exact Or.inr (Or.inr rfl))
    (h1 : (n == ("__debug__" : Str)) = false := by decide) (h2 : (n == ("__classdict__" : Str)) = false := by decide) (hg : Gl X "_law_line" := by rfl)
    (he : starEach (.Name n p2 :: [a, b]) X.env = (false, eval (.Name n p2) X.env) :: starEach [a, b] X.env := by rfl) (hpl : (backTo pos (starEach [a, b] X.env)).any (·.1) = false := by rfl) (he2 : starEach [a, b] X.env = (false, eval a X.env) :: starEach [b] X.env := by rfl) (he3 : starEach [b] X.env = (false, eval b X.env) :: starEach [] X.env := by rfl) :
    Ev X W Γ μ (.Call (.Name "_law_line" p) (.Name n p2 :: [a, b]) [] pos) (fun d => ∃ l : List Nat, d = sD l ∧ l.length ≤ A ∧ lowL N l) :=
  (ev_draw F hr hrow j (A := fun ds => ∃ q q2 : Nat, ds = [nn q, nn q2] ∧ q ≤ A ∧ 1 ≤ q2 ∧ q2 ≤ N) (eva_cons ha (eva_cons hb eva_nil he3) he2 |>.imp fun ds ⟨x, r, e, ⟨q, e2, h⟩, y, r2, e3, ⟨q2, e4, h4⟩, e5⟩ => ⟨q, q2, by rw [e, e2, e3, e4, e5], h, h4⟩) (fun ds ⟨q, q2, e, h3, h4, h5⟩ => ⟨q, q2, e, by omega, h4, by omega⟩) hi hN hv h1 h2 hg (by decide) he hpl).imp fun d ⟨ds, ⟨q, q2, e, h3, h4, h5⟩, hp⟩ => by
    obtain ⟨a', n', l, e2, e3, hl, hlow⟩ := hp
    rw [e] at e2
    have e4 := PyData.int.inj (List.cons.inj e2).1
    have e5 := PyData.int.inj (List.cons.inj (List.cons.inj e2).2).1
    exact ⟨l, e3, by omega, fun c hc => by
      have := hlow c hc
      omega⟩
/-- 1 + draw -/
theorem ev_1up {m : Nat} (he : Ev X W Γ μ e (fun d => ∃ q : Nat, d = nn q ∧ q < m)) {j} : Ev X W Γ μ (.BinOp (.Constant (.int 1) j p) .Add e pos) (fun z => ∃ q : Nat, z = nn q ∧ 1 ≤ q ∧ q ≤ m) :=
  ev_op ed_int.ev he (fun x y ex ⟨q, ey, hq⟩ => by
    subst ex
    subst ey
    exact ⟨_, ⟨1 + q, by push_cast; rfl, by omega, by omega⟩, o_add⟩)
end
theorem in_nn {xs : List Nat} {z : PyData} (h : z ∈ xs.map nn) : ∃ a, z = nn a ∧ a ∈ xs := by
  obtain ⟨a, ha, rfl⟩ := List.mem_map.mp h
  exact ⟨a, rfl, ha⟩
end HW
set_option maxHeartbeats 4000000
namespace HW
open PySem PySem.Spec PyProof.Rows L2
open SX (S)
section
variable {X : Cx} {w : List Nat} {ws : List (List Nat)} {ds : List PyData}
theorem inV_S (w : List Nat) : ∀ ws : List (List Nat), inV (.str (S w)) ((ws.map S).map V.str) = decide (w ∈ ws)
  | [] => rfl
  | v :: ws => by
    have ih := inV_S w ws
    unfold inV at ih ⊢
    rw [List.map_cons, List.map_cons, List.any_cons, ih]
    have e : eqV (V.str (S v)) (V.str (S w)) = decide (w = v) := by
      show (S v == S w) = _
      rw [SX.S_beq_eq]
      exact decide_eq_decide.mpr ⟨Eq.symm, Eq.symm⟩
    rw [e]
    by_cases h : w = v
    · subst h; simp
    · simp [h]
theorem flat_S : ∀ ws : List (List Nat), ((ws.map S).map V.str).all flatV = true
  | [] => rfl
  | v :: ws => by rw [List.map_cons, List.map_cons, List.all_cons, flat_S ws]; rfl
theorem c_inLS : OpD X (compareOp .In) (sD w) (wD ws) (.bool (decide (w ∈ ws))) := OpR.to op_in_seq fun a b H Q ⟨L, _, ha, hb, k⟩ => by
  cases ha
  cases hb with
  | lst hl hv =>
    have ev := vaAll_S hv
    subst ev
    refine ⟨_, _, rfl, .inl (SqL.of (off_some hl).2), rfl, flat_S ws, ?_⟩
    show Q (.bl (inV _ _)) H
    rw [inV_S]
    exact k _ _ (Same.refl _) (.bl _)
theorem c_ninLS : OpD X (compareOp .NotIn) (sD w) (wD ws) (.bool (!decide (w ∈ ws))) := OpR.to op_notIn_seq fun a b H Q ⟨L, _, ha, hb, k⟩ => by
  cases ha
  cases hb with
  | lst hl hv =>
    have ev := vaAll_S hv
    subst ev
    refine ⟨_, _, rfl, .inl (SqL.of (off_some hl).2), rfl, flat_S ws, ?_⟩
    show Q (.bl (!inV _ _)) H
    rw [inV_S]
    exact k _ _ (Same.refl _) (.bl _)
theorem c_inTS : OpD X (compareOp .In) (sD w) (.tuple (ws.map sD)) (.bool (decide (w ∈ ws))) := OpR.to op_in_seq fun a b H Q ⟨L, _, ha, hb, k⟩ => by
  cases ha
  cases hb with
  | tup hl hv =>
    have ev := vaAll_S hv
    subst ev
    refine ⟨_, _, rfl, .inr (SqT.up same_off hl), rfl, flat_S ws, ?_⟩
    show Q (.bl (inV _ _)) H
    rw [inV_S]
    exact k _ _ (Same.refl _) (.bl _)
theorem c_ninTS : OpD X (compareOp .NotIn) (sD w) (.tuple (ws.map sD)) (.bool (!decide (w ∈ ws))) := OpR.to op_notIn_seq fun a b H Q ⟨L, _, ha, hb, k⟩ => by
  cases ha
  cases hb with
  | tup hl hv =>
    have ev := vaAll_S hv
    subst ev
    refine ⟨_, _, rfl, .inr (SqT.up same_off hl), rfl, flat_S ws, ?_⟩
    show Q (.bl (!inV _ _)) H
    rw [inV_S]
    exact k _ _ (Same.refl _) (.bl _)
/-- tuple(list), list(list), list(tuple) -/
theorem c_tupL : CallD X (.type "tuple") [.list ds] (.tuple ds) := CallR.to call_tuple_of fun vs H Q ⟨L, hL, hv, k⟩ => by
  cases hv with
  | cons h1 h2 =>
    cases h2
    cases h1 with
    | lst ha hs => exact ⟨_, _, rfl, .inl ⟨SqL.of (off_some ha).2, fun l hl => k _ _ (same_new hl) (.tup (.inl (.inl (off_upd (new_out hL hl)))) (hs.up (XT.same (same_new hl))))⟩⟩
theorem c_listL : CallD X (.type "list") [.list ds] (.list ds) := CallR.to call_list_of fun vs H Q ⟨L, hL, hv, k⟩ => by
  cases hv with
  | cons h1 h2 =>
    cases h2
    cases h1 with
    | lst ha hs => exact ⟨_, _, rfl, .inl (SqL.of (off_some ha).2), fun l hl => k _ _ (same_new hl) (.lst (off_upd (new_out hL hl)) (hs.up (XT.same (same_new hl))))⟩
theorem c_listT : CallD X (.type "list") [.tuple ds] (.list ds) := CallR.to call_list_of fun vs H Q ⟨L, hL, hv, k⟩ => by
  cases hv with
  | cons h1 h2 =>
    cases h2
    cases h1 with
    | tup ha hs => exact ⟨_, _, rfl, .inr (SqT.up same_off ha), fun l hl => k _ _ (same_new hl) (.lst (off_upd (new_out hL hl)) (hs.up (XT.same (same_new hl))))⟩
/-- xs == [], xs != [] -/
theorem eqv_nil (ds : List PyData) : PyData.eqv (.list ds) (.list []) = ds.isEmpty := by cases ds <;> rfl
theorem c_eqNil {n : Nat} (hu : X.A.units + 64 < cLine) (h : Shp n (.list ds)) (hn : n ≤ 64 := by decide) : OpD X (compareOp .Eq) (.list ds) (.list []) (.bool ds.isEmpty) := by
  have z := c_eqD (X := X) (y := .list []) hu (h.ok hn) rfl
  rw [eqv_nil] at z
  exact z
theorem c_neNil {n : Nat} (hu : X.A.units + 64 < cLine) (h : Shp n (.list ds)) (hn : n ≤ 64 := by decide) : OpD X (compareOp .NotEq) (.list ds) (.list []) (.bool (!ds.isEmpty)) := by
  have z := c_neD (X := X) (y := .list []) hu (h.ok hn) rfl
  rw [eqv_nil] at z
  exact z
end
end HW
set_option maxHeartbeats 4000000
namespace HW
open PySem PySem.Spec PyProof.Rows L2
open SX (S)
section
variable {X : Cx} {W W0 : Wd} {Γ : List DV} {μ : Mu} {b : Expr} {rest : List Stmt} {D : Ends} {x y : PyData} {pos p p1 p2 pl : Pos} {n1 n2 : Str}
/-- n1, n2 = [], b : n1 a local list -/
theorem run_parL0 (i j : Nat) {kt k2 : Nat} {pt pt2 : Pos} (hb : ∀ l, Ed X W Γ ((l, .lst []) :: μ) b y) (h : ∀ l, Run X W ((Γ.set i (.r l)).set j (.d y)) ((l, .lst []) :: μ) rest D) (hN : X.N.Nodup) (hij : i ≠ j := by decide) (hi : X.N[i]? = some n1 := by rfl) (hj : X.N[j]? = some n2 := by rfl)
    (hx : X.env.scope.names.lookup n1 = some .local := by rfl) (hy : X.env.scope.names.lookup n2 = some .local := by rfl) (hc : X.calm = true := by rfl)
    (hw : swappedStores [.Tuple [.Name n1 p1, .Name n2 p2] kt pt] (.Tuple [.List [] pl, b] k2 pt2) X.env = pure (some [n1, n2]) := by rfl)
    (hs : swapsWithSole [.Tuple [.Name n1 p1, .Name n2 p2] kt pt] (.Tuple [.List [] pl, b] k2 pt2) pos.line X.env = pure false := by rfl)
    (hs1 : starEach [.List [] pl, b] X.env = (false, eval (.List [] pl) X.env) :: starEach [b] X.env := by rfl) (hs2 : starEach [b] X.env = (false, eval b X.env) :: starEach [] X.env := by rfl) :
    Run X W Γ μ (.Assign [.Tuple [.Name n1 p1, .Name n2 p2] kt pt] (.Tuple [.List [] pl, b] k2 pt2) pos :: rest) D := fun σ H R =>
  wSs_cons ((ps_par hc hN hi hj hij hx hy (pa_cons (pe_lst pa_nil) (pa_cons wE.pe pa_nil hs2) hs1) hw hs).w ⟨Nat.zero_le _, fun l hl => by
    have R1 := R.born (m := .lst []) (o := .lst []) hl ⟨[], upd_same, .nil⟩
    exact hb l σ _ R1 _ fun v H2 R2 x2 r2 => ⟨_, _, rfl, h l _ _ ⟨R2.wd, R2.fr, (R2.sl.setr i).set j r2, R2.mu, R2.nd⟩⟩⟩)
/-- n1, n2 = a, [] : n2 a local list -/
theorem run_parL1 {a : Expr} (i j : Nat) {kt k2 : Nat} {pt pt2 : Pos} (ha : Ed X W Γ μ a x) (h : ∀ l, Run X W ((Γ.set i (.d x)).set j (.r l)) ((l, .lst []) :: μ) rest D) (hN : X.N.Nodup) (hij : i ≠ j := by decide) (hi : X.N[i]? = some n1 := by rfl) (hj : X.N[j]? = some n2 := by rfl)
    (hx : X.env.scope.names.lookup n1 = some .local := by rfl) (hy : X.env.scope.names.lookup n2 = some .local := by rfl) (hc : X.calm = true := by rfl)
    (hw : swappedStores [.Tuple [.Name n1 p1, .Name n2 p2] kt pt] (.Tuple [a, .List [] pl] k2 pt2) X.env = pure (some [n1, n2]) := by rfl)
    (hs : swapsWithSole [.Tuple [.Name n1 p1, .Name n2 p2] kt pt] (.Tuple [a, .List [] pl] k2 pt2) pos.line X.env = pure false := by rfl)
    (hs1 : starEach [a, .List [] pl] X.env = (false, eval a X.env) :: starEach [.List [] pl] X.env := by rfl) (hs2 : starEach [.List [] pl] X.env = (false, eval (.List [] pl) X.env) :: starEach [] X.env := by rfl) :
    Run X W Γ μ (.Assign [.Tuple [.Name n1 p1, .Name n2 p2] kt pt] (.Tuple [a, .List [] pl] k2 pt2) pos :: rest) D := fun σ H R =>
  wSs_cons ((ps_par hc hN hi hj hij hx hy (pa_cons wE.pe (pa_cons (pe_lst pa_nil) pa_nil hs2) hs1) hw hs).w (ha σ H R _ fun v H2 R2 x2 r2 => ⟨Nat.zero_le _, fun l hl => by
    have sm := same_new (o := .lst []) hl
    have R3 : Rep X.K W (Γ.set i (.d x)) μ (σ.set i (some v)) H2 := ⟨R2.wd, R2.fr, R2.sl.set i r2, R2.mu, R2.nd⟩
    have R1 := R3.born (m := .lst []) (o := .lst []) hl ⟨[], upd_same, .nil⟩
    exact ⟨_, _, rfl, h l _ _ ⟨R1.wd, R1.fr, R1.sl.setr j, R1.mu, R1.nd⟩⟩⟩))
end

/-! ### the rows that are told, letter by letter -/
theorem getD_app {l : List Nat} {c i : Nat} (h : i < l.length) : (l ++ [c]).getD i 0 = l.getD i 0 := by
  rw [List.getD_eq_getElem?_getD, List.getD_eq_getElem?_getD, List.getElem?_append_left h]
theorem viewL_app {l m : List Nat} {c p : Nat} (h : p + m.length ≤ l.length) : viewL (l ++ [c]) m p = viewL l m p := by
  unfold viewL
  refine List.map_congr_left fun a ha => getD_app ?_
  have := mem_seen ha
  omega
theorem viewsL_snoc (l m : List Nat) (c : Nat) (hm : 1 ≤ m.length) : viewsL (l ++ [c]) m = if l.length + 1 < m.length then viewsL l m else viewsL l m ++ [viewL (l ++ [c]) m (l.length + 1 - m.length)] := by
  unfold viewsL
  rw [List.length_append, List.length_singleton]
  by_cases h : l.length + 1 < m.length
  · rw [if_pos h]
    have e1 : l.length + 1 + 1 - m.length = 0 := by omega
    have e2 : l.length + 1 - m.length = 0 := by omega
    rw [e1, e2]
    rfl
  · rw [if_neg h]
    have e1 : l.length + 1 + 1 - m.length = (l.length + 1 - m.length) + 1 := by omega
    rw [e1, List.range_succ, List.map_append]
    congr 1
    refine List.map_congr_left fun p hp => viewL_app ?_
    have := List.mem_range.mp hp
    omega
def okC (m r : List Nat) (c : Nat) : Bool := decide (r.length + 1 < m.length) || !decide (viewL (r ++ [c]) m (r.length + 1 - m.length) ∈ viewsL r m)
theorem tells_snoc (r m : List Nat) (c : Nat) (hm : 1 ≤ m.length) : tellsB (r ++ [c]) m = (tellsB r m && okC m r c) := by
  unfold tellsB okC
  rw [viewsL_snoc r m c hm]
  by_cases h : r.length + 1 < m.length
  · rw [if_pos h, decide_eq_true h]
    simp
  · rw [if_neg h, decide_eq_false h, Bool.false_or, Bool.eq_iff_iff]
    simp only [decide_eq_true_eq, Bool.and_eq_true, Bool.not_eq_true', decide_eq_false_iff_not]
    rw [List.nodup_append]
    constructor
    · rintro ⟨h1, _, h3⟩
      exact ⟨h1, fun q => h3 _ q _ (List.mem_singleton.mpr rfl) rfl⟩
    · rintro ⟨h1, h2⟩
      exact ⟨h1, by simp, fun a ha b hb => by rw [List.mem_singleton.mp hb]; rintro rfl; exact h2 ha⟩
def stepR (m : List Nat) (n : Nat) (r : List Nat) : List (List Nat) := ((letL n).filter (okC m r)).map fun c => r ++ [c]
def nextL (m : List Nat) (n : Nat) (rs : List (List Nat)) : List (List Nat) := rs.flatMap (stepR m n)
def lev (m : List Nat) (n : Nat) : Nat → List (List Nat)
  | 0 => [[]]
  | k + 1 => nextL m n (lev m n k)
theorem stepR_len (m : List Nat) {n : Nat} (hn : n ≤ 4) (r : List Nat) : (stepR m n r).length ≤ n := by
  unfold stepR
  rw [List.length_map]
  exact Nat.le_trans (List.length_filter_le ..) (by rw [letL_len hn]; exact Nat.le_refl _)
theorem lev_len (m : List Nat) {n : Nat} (hn : n ≤ 4) : ∀ k, (lev m n k).length ≤ n ^ k
  | 0 => by simp [lev]
  | k + 1 => by
    have h1 := flat_len (stepR m n) n (lev m n k) (fun r _ => stepR_len m hn r)
    have h2 := Nat.mul_le_mul_right n (lev_len m hn k)
    rw [← Nat.pow_succ] at h2
    exact Nat.le_trans h1 h2
theorem mem_lev {m : List Nat} {n : Nat} (hm : 1 ≤ m.length) (hn : n ≤ 4) : ∀ {k : Nat} {r : List Nat}, r ∈ lev m n k ↔ r.length = k ∧ lowL n r ∧ tellsB r m = true
  | 0, r => by
    constructor
    · intro h
      have e : r = [] := by simpa [lev] using h
      subst e
      refine ⟨rfl, (fun c hc => nomatch hc), ?_⟩
      unfold tellsB viewsL
      have : ([] : List Nat).length + 1 - m.length = 0 := by simp; omega
      rw [this]
      rfl
    · rintro ⟨h, _⟩
      have e : r = [] := List.length_eq_zero_iff.mp h
      subst e
      simp [lev]
  | k + 1, r => by
    show r ∈ (lev m n k).flatMap (stepR m n) ↔ _
    rw [List.mem_flatMap]
    constructor
    · rintro ⟨q, hq, hr⟩
      obtain ⟨h1, h2, h3⟩ := (mem_lev hm hn).mp hq
      unfold stepR at hr
      obtain ⟨c, hc, rfl⟩ := List.mem_map.mp hr
      obtain ⟨hc1, hc2⟩ := List.mem_filter.mp hc
      refine ⟨by simp [h1], fun x hx => ?_, by rw [tells_snoc q m c hm, h3, hc2]; rfl⟩
      rcases List.mem_append.mp hx with z | z
      · exact h2 x z
      · rw [List.mem_singleton.mp z]
        exact (mem_letL hn).mp hc1
    · rintro ⟨h1, h2, h3⟩
      have hne : r ≠ [] := by rintro rfl; simp at h1
      have er := List.dropLast_concat_getLast hne
      refine ⟨r.dropLast, (mem_lev hm hn).mpr ⟨by simp [h1], fun c hc => h2 c (List.dropLast_subset r hc), ?_⟩, ?_⟩
      · rw [← er, tells_snoc _ m _ hm, Bool.and_eq_true] at h3
        exact h3.1
      · unfold stepR
        refine List.mem_map.mpr ⟨r.getLast hne, List.mem_filter.mpr ⟨(mem_letL hn).mpr (h2 _ (List.getLast_mem hne)), ?_⟩, er⟩
        rw [← er, tells_snoc _ m _ hm, Bool.and_eq_true] at h3
        exact h3.2
/-! counting -/
theorem nodup_len {α : Type} [DecidableEq α] : ∀ (l D : List α), l.Nodup → (∀ x ∈ l, x ∈ D) → l.length ≤ D.length
  | [], _, _, _ => Nat.zero_le _
  | x :: l, D, h, s => by
    have h1 := List.nodup_cons.mp h
    have hx := s x List.mem_cons_self
    have ih := nodup_len l (D.erase x) h1.2 fun y hy => (List.mem_erase_of_ne (by rintro rfl; exact h1.1 hy)).mpr (s y (List.mem_cons_of_mem _ hy))
    rw [List.length_erase_of_mem hx] at ih
    have := List.length_pos_of_mem hx
    rw [List.length_cons]
    omega
def words (n : Nat) : Nat → List (List Nat)
  | 0 => [[]]
  | s + 1 => (words n s).flatMap fun v => (letL n).map fun c => v ++ [c]
theorem words_len {n : Nat} (hn : n ≤ 4) : ∀ s, (words n s).length ≤ n ^ s
  | 0 => by simp [words]
  | s + 1 => by
    have h1 := flat_len (fun v : List Nat => (letL n).map fun c => v ++ [c]) n (words n s) (fun v _ => by rw [List.length_map, letL_len hn]; exact Nat.le_refl _)
    have h2 := Nat.mul_le_mul_right n (words_len hn s)
    rw [← Nat.pow_succ] at h2
    exact Nat.le_trans h1 h2
theorem mem_words {n : Nat} (hn : n ≤ 4) : ∀ {s : Nat} {v : List Nat}, v.length = s → lowL n v → v ∈ words n s
  | 0, v, h, _ => by
    have e : v = [] := List.length_eq_zero_iff.mp h
    subst e
    simp [words]
  | s + 1, v, h, hl => by
    have hne : v ≠ [] := by rintro rfl; simp at h
    refine List.mem_flatMap.mpr ⟨v.dropLast, mem_words hn (by simp [h]) fun c hc => hl c (List.dropLast_subset v hc), ?_⟩
    exact List.mem_map.mpr ⟨v.getLast hne, (mem_letL hn).mpr (hl _ (List.getLast_mem hne)), List.dropLast_concat_getLast hne⟩
theorem viewL_low {l m : List Nat} {n p : Nat} (hl : lowL n l) (h : p + m.length ≤ l.length) : lowL n (viewL l m p) := by
  intro c hc
  unfold viewL at hc
  obtain ⟨a, ha, rfl⟩ := List.mem_map.mp hc
  have h1 := mem_seen ha
  have h2 : p + a < l.length := by omega
  rw [List.getD_eq_getElem?_getD, List.getElem?_eq_getElem h2]
  exact hl _ (List.getElem_mem h2)
theorem viewL_len (l m : List Nat) (p : Nat) : (viewL l m p).length = (seenL m).length := by simp [viewL]
/-- a told row has at most so many places -/
theorem told_bound {r m : List Nat} {n : Nat} (hm : 1 ≤ m.length) (hn : n ≤ 4) (hl : lowL n r) (ht : tellsB r m = true) : r.length + 1 - m.length ≤ n ^ (seenL m).length := by
  unfold tellsB at ht
  have h := nodup_len (viewsL r m) (words n (seenL m).length) (of_decide_eq_true ht) fun v hv => by
    unfold viewsL at hv
    obtain ⟨p, hp, rfl⟩ := List.mem_map.mp hv
    have := List.mem_range.mp hp
    exact mem_words hn (viewL_len _ _ _) (viewL_low hl (by omega))
  rw [viewsL_len] at h
  exact Nat.le_trans h (words_len hn _)
theorem lev_top {m : List Nat} {n k : Nat} (hm : 1 ≤ m.length) (hn : n ≤ 4) (h : lev m n k ≠ []) : k + 1 ≤ n ^ (seenL m).length + m.length := by
  obtain ⟨r, hr⟩ := List.exists_mem_of_ne_nil _ h
  obtain ⟨h1, h2, h3⟩ := (mem_lev hm hn).mp hr
  have := told_bound hm hn h2 h3
  omega
theorem lev_nil {m : List Nat} {n k : Nat} (h : lev m n k = []) : ∀ j, k ≤ j → lev m n j = []
  | 0, hj => by have : k = 0 := by omega
                subst this; exact h
  | j + 1, hj => by
    by_cases e : k = j + 1
    · subst e; exact h
    · show nextL m n (lev m n j) = []
      rw [lev_nil h j (by omega)]
      rfl
/-- small enough -/
structure Small (m : List Nat) (n : Nat) : Prop where
  mask : maskB m = true
  lo : 1 ≤ n
  hi : n ≤ 4
  wide : m.length ≤ [12, 8, 5, 4].getD (n - 1) 0
  seen : (seenL m).length ≤ [12, 4, 2, 1].getD (n - 1) 0
theorem Small.bound {m : List Nat} {n : Nat} (h : Small m n) : n ^ (n ^ (seenL m).length + m.length - 1) ≤ 8388608 ∧ n ^ (seenL m).length ≤ 16 := by
  obtain ⟨_, lo, hi, wide, seen⟩ := h
  match n, lo, hi with
  | 1, _, _ => simp
  | 2, _, _ =>
    have w : m.length ≤ 8 := wide
    have s : (seenL m).length ≤ 4 := seen
    have h1 : 2 ^ (seenL m).length ≤ 2 ^ 4 := Nat.pow_le_pow_right (by decide) s
    refine ⟨Nat.le_trans (Nat.pow_le_pow_right (by decide) (show _ ≤ 23 by omega)) (by decide), h1⟩
  | 3, _, _ =>
    have w : m.length ≤ 5 := wide
    have s : (seenL m).length ≤ 2 := seen
    have h1 : 3 ^ (seenL m).length ≤ 3 ^ 2 := Nat.pow_le_pow_right (by decide) s
    refine ⟨Nat.le_trans (Nat.pow_le_pow_right (by decide) (show _ ≤ 13 by omega)) (by decide), by omega⟩
  | 4, _, _ =>
    have w : m.length ≤ 4 := wide
    have s : (seenL m).length ≤ 1 := seen
    have h1 : 4 ^ (seenL m).length ≤ 4 ^ 1 := Nat.pow_le_pow_right (by decide) s
    refine ⟨Nat.le_trans (Nat.pow_le_pow_right (by decide) (show _ ≤ 7 by omega)) (by decide), by omega⟩
theorem Small.pos {m : List Nat} {n : Nat} (h : Small m n) : 1 ≤ m.length := maskB_pos h.mask
theorem Small.top {m : List Nat} {n k : Nat} (h : Small m n) (hk : lev m n k ≠ []) : k + 1 ≤ 16 + m.length := by
  have := lev_top h.pos h.hi hk
  have := h.bound.2
  omega
theorem Small.len {m : List Nat} {n : Nat} (h : Small m n) (k : Nat) : (lev m n k).length ≤ 8388608 := by
  by_cases e : lev m n k = []
  · rw [e]; exact Nat.zero_le _
  · have h1 := lev_top h.pos h.hi e
    exact Nat.le_trans (lev_len m h.hi k) (Nat.le_trans (Nat.pow_le_pow_right h.lo (by omega)) h.bound.1)
/-- where the levels end -/
theorem exists_top (m : List Nat) (n T : Nat) (hT : lev m n T = []) : ∃ K, K ≤ T ∧ lev m n K = [] ∧ ∀ j, j < K → lev m n j ≠ [] := by
  induction T with
  | zero => exact ⟨0, Nat.le_refl _, hT, fun j hj => by omega⟩
  | succ T ih =>
    by_cases e : lev m n T = []
    · obtain ⟨K, h1, h2, h3⟩ := ih e
      exact ⟨K, by omega, h2, h3⟩
    · refine ⟨T + 1, Nat.le_refl _, hT, fun j hj q => ?_⟩
      exact e (lev_nil q T (by omega))
theorem Small.ends {m : List Nat} {n : Nat} (h : Small m n) : lev m n (16 + m.length) = [] := by
  by_cases e : lev m n (16 + m.length) = []
  · exact e
  · have := h.top e
    omega
/-- the least k without a row -/
noncomputable def topK (m : List Nat) (n : Nat) : Nat := open Classical in if h : ∃ K, lev m n K = [] ∧ ∀ j, j < K → lev m n j ≠ [] then h.choose else 0
theorem Small.topK {m : List Nat} {n : Nat} (h : Small m n) : lev m n (topK m n) = [] ∧ ∀ j, j < HW.topK m n → lev m n j ≠ [] := by
  have ex : ∃ K, lev m n K = [] ∧ ∀ j, j < K → lev m n j ≠ [] := by
    obtain ⟨K, _, h2⟩ := exists_top m n _ h.ends
    exact ⟨K, h2⟩
  unfold HW.topK
  rw [dif_pos ex]
  exact ex.choose_spec
theorem topK_eq {m : List Nat} {n K : Nat} (hs : Small m n) (h1 : lev m n K = []) (h2 : ∀ j, j < K → lev m n j ≠ []) : K = topK m n := by
  obtain ⟨g1, g2⟩ := hs.topK
  rcases Nat.lt_trichotomy K (topK m n) with h | h | h
  · exact absurd h1 (g2 K h)
  · exact h
  · exact absurd g1 (h2 _ h)
theorem Small.topK_pos {m : List Nat} {n : Nat} (h : Small m n) : 1 ≤ HW.topK m n := by
  obtain ⟨g1, g2⟩ := h.topK
  rcases Nat.eq_zero_or_pos (HW.topK m n) with e | e
  · rw [e] at g1
    simp [lev] at g1
  · exact e
/-! as data -/
abbrev rowT (m r : List Nat) : PyData := pr2 (sD r) (.tuple ((viewsL r m).map sD))
abbrev rowsT (m : List Nat) (rs : List (List Nat)) : PyData := .list (rs.map (rowT m))
def R_need_small (ds : List PyData) (d : PyData) : Prop := ∃ (m : List Nat) (n : Nat), ds = [sD m, nn n] ∧ Small m n ∧ d = .none
def R_longer (ds : List PyData) (d : PyData) : Prop := ∃ (rs : List (List Nat)) (m : List Nat) (n : Nat), ds = [rowsT m rs, sD m, nn n] ∧ 1 ≤ n ∧ n ≤ 4 ∧ maskB m = true ∧ (∀ r ∈ rs, r.length ≤ 3000) ∧ rs.length ≤ 16777216 ∧ (nextL m n rs).length < 16777216 ∧ d = rowsT m (nextL m n rs)
noncomputable def levelsD (m : List Nat) (n : Nat) : PyData := .list ((List.range (topK m n)).map fun j => wD (lev m n j))
def R_levels_of (ds : List PyData) (d : PyData) : Prop := ∃ (m : List Nat) (n : Nat), ds = [sD m, nn n] ∧ Small m n ∧ d = levelsD m n
def R_longest (ds : List PyData) (d : PyData) : Prop := ∃ (m : List Nat) (n : Nat), ds = [sD m, nn n] ∧ Small m n ∧ d = .int ((topK m n : Nat) - 1 : Int)
theorem low_128 {n : Nat} {l : List Nat} (hn : n ≤ 4) (h : lowL n l) : ∀ c ∈ l, c < 128 := fun c hc => by
  have := h c hc
  omega
theorem shp_rowT {n : Nat} (hn : n ≤ 4) {m r : List Nat} (h : lowL n r) : Shp 2 (rowT m r) := Shp.tup fun x hx => by
  rcases List.mem_cons.mp hx with e | hx
  · rw [e]; exact (Shp.str (low_128 hn h)).up (by decide)
  · rw [List.mem_singleton.mp hx]
    refine Shp.tup fun y hy => ?_
    obtain ⟨v, hv, rfl⟩ := List.mem_map.mp hy
    unfold viewsL at hv
    obtain ⟨p, hp, rfl⟩ := List.mem_map.mp hv
    have := List.mem_range.mp hp
    by_cases hm : 1 ≤ m.length
    · exact Shp.str (low_128 hn (viewL_low h (by omega)))
    · have em : m = [] := List.length_eq_zero_iff.mp (by omega)
      subst em
      exact Shp.str (l := viewL r [] p) (fun c hc => by
        have e : viewL r [] p = [] := rfl
        rw [e] at hc
        cases hc)
theorem shp_lev {m : List Nat} {n : Nat} (hm : 1 ≤ m.length) (hn : n ≤ 4) (k : Nat) : Shp 3 (rowsT m (lev m n k)) := Shp.list fun x hx => by
  obtain ⟨r, hr, rfl⟩ := List.mem_map.mp hx
  exact shp_rowT hn ((mem_lev hm hn).mp hr).2.1
end HW
set_option maxHeartbeats 4000000
namespace HW
open PySem PySem.Spec PyProof.Rows L2
open SX (S)
section
variable {X : Cx} {W : Wd} {Γ : List DV} {μ : Mu} {n : Str} {pos : Pos} {ns : List Int}
theorem va_ints {K : PySem.W.Frag} {H : Hp} : ∀ ns : List Int, VaAll K H (ns.map V.int) (ns.map PyData.int)
  | [] => .nil
  | n :: ns => .cons (.int n) (va_ints ns)
/-- a constant tuple of ints -/
theorem ed_gtup (hm : HX.gTup X.K X.mg n ns) (hg : Gl X n := by rfl) (h1 : (n == ("__debug__" : Str)) = false := by decide) : Ed X W Γ μ (.Name n pos) (.tuple (ns.map PyData.int)) := by
  obtain ⟨a, hm, hs⟩ := hm
  exact ed_c (pe_glob hg hm (v := .ref a) rfl h1) fun H => .tup (hs H) (va_ints ns)
end
abbrev gWID (K : PySem.W.Frag) (mg : Str → Option Value) : Prop := HX.gTup K mg "MOST_WIDTHS" [12, 8, 5, 4]
abbrev gSEE (K : PySem.W.Frag) (mg : Str → Option Value) : Prop := HX.gTup K mg "MOST_SEEN" [12, 4, 2, 1]
end HW
set_option maxHeartbeats 4000000
namespace HW
open PySem PySem.Spec PyProof.Rows L2
open SX (S)
/-! ### comprehensions with two for -/
/-- what a walked thing wants -/
def wI (X : Cx) (tg iter : Expr) : TI := fun σ H R => ∀ (pins : List (Addr × Obj)) (s : Shared), Inv X pins σ H s → wpAny (model X.prog X.w) X.A (eval iter X.env) (fun v s1 => wpAny (model X.prog X.w) X.A (pyIter v) (PIE X pins σ tg R) X.xe s1) X.xe s
theorem wI.pi {X : Cx} {tg iter : Expr} : PI X tg iter (wI X tg iter) := ⟨fun pins s _ _ _ I h => h pins s I⟩
theorem _root_.L2.PI.w {X : Cx} {tg iter : Expr} {t : TI} (h : PI X tg iter t) {σ : L2.St} {H : Hp} {R : It → Hp → Prop} (q : t σ H R) : wI X tg iter σ H R := fun pins s I => h.run pins s σ H R I q
def wIb (X : Cx) (scope : Scope) (tg iter : Expr) : TI := fun σ H R => ∀ s H0 C cl fp, wI (blkOf X scope s H0 C cl fp) tg iter σ H R
theorem wIb.pi {X : Cx} {scope : Scope} {tg iter : Expr} (s : Shared) (H : Hp) (C : Addr) (cl : List (Str × Addr)) (fp : List Addr) : PI (blkOf X scope s H C cl fp) tg iter (wIb X scope tg iter) := ⟨fun pins st _ _ _ I h => h s H C cl fp pins st I⟩
section
variable {X : Cx} {W : Wd} {Γ : List DV} {μ : Mu} {α β : Type} {tg iter tg1 iter1 elt : Expr} {scope : Scope} {enc : α → PyData} {enc1 : β → PyData} {xs : List α} {ys : α → List β} {f : α → β → PyData} {k1 k2 : Nat}
theorem flat_take_succ {γ : Type} {g : α → List γ} {i : Nat} {x : α} (h : xs[i]? = some x) : (xs.take (i + 1)).flatMap g = (xs.take i).flatMap g ++ g x := by
  rw [List.take_add_one, h, List.flatMap_append]
  simp
theorem flat_take_le {γ : Type} {g : α → List γ} (i : Nat) : ((xs.take i).flatMap g).length ≤ (xs.flatMap g).length := by
  have e : xs.flatMap g = (xs.take i).flatMap g ++ (xs.drop i).flatMap g := by rw [← List.flatMap_append, List.take_append_drop]
  rw [e, List.length_append]
  omega
theorem yes_ (σ : L2.St) (H : Hp) (Q : Bool → Hp → Prop) (q : Q true H) : tYes σ H Q := q
theorem lc2_read {wi : TI} (hk : k1 ≠ k2)
    (hi : ∀ σ H, Rep X.K W Γ μ σ H → ∀ R : It → Hp → Prop, (∀ J H1, Rep X.K W Γ μ σ H1 → XT (hd W μ) H H1 → WalkD X.K (off (hd W μ) H1) J (xs.map enc) → R J H1) → wi σ H R)
    (hi1 : ∀ x ∈ xs, ∀ W1, Wle W W1 → ∀ s H C cl fp, IterD (blkOf X scope s H C cl fp) W1 ((wipeD [k1, k2] Γ).set k1 (.d (enc x))) μ tg1 iter1 enc1 (ys x)) (hz : (xs.flatMap fun x => (ys x).map (f x)).length ≤ 16777216)
    (he : ∀ x ∈ xs, ∀ y ∈ ys x, ∀ W1, Wle W W1 → ∀ s H C cl fp, Ed (blkOf X scope s H C cl fp) W1 ((wipeD [k2] ((wipeD [k1, k2] Γ).set k1 (.d (enc x)))).set k2 (.d (enc1 y))) μ elt (f x y))
    {σ : L2.St} {H : Hp} (R : Rep X.K W Γ μ σ H) {Q : VK} (q : ∀ v H2, Rep X.K W Γ μ σ H2 → XT (hd W μ) H H2 → Va X.K (off (hd W μ) H2) v (.list (xs.flatMap fun x => (ys x).map (f x))) → Q v H2) :
    tLc2 wi (gName k1) tYes (wIb X scope tg1 iter1) (gName k2) tYes (wEb X scope elt) [k1, k2] [k2] σ H Q := by
  refine hi σ H R _ fun J H1 R1 e1 wkk D hD => ?_
  let g : α → List PyData := fun x => (ys x).map (f x)
  let vs : List Nat := [k1, k2]
  let Pv : Nat → Hp → Prop := fun i H' => Rep X.K (W.now μ H1) (wipeD vs Γ) ((D, .lst ((xs.take i).flatMap g)) :: μ) (wipe σ vs) H'
  have R1n := R1.now
  have Rw : Rep X.K (W.now μ H1) (wipeD vs Γ) μ (wipe σ vs) H1 := ⟨R1n.wd, R1n.fr, R1n.sl.wipe vs, R1n.mu, R1n.nd⟩
  have h0 : Pv 0 (upd H1 D (.lst [])) := Rw.born hD ⟨[], upd_same, .nil⟩
  have nDmu : ∀ {i H'}, Pv i H' → Same (off (hd W μ) H1) H' := fun Rp a o e => by
    obtain ⟨h1, h2⟩ := off_some e
    refine Rp.fr.keep a o (fun z => h1 (List.mem_append_left _ (Rep.isRow_M Rp.wd z))) ?_
    show off (μ.map (·.1)) H1 a = some o
    rw [off_out (fun z => h1 (List.mem_append_right _ z))]
    exact h2
  have le1 : Wle W (W.now μ H1) := R1.now_le
  refine ⟨fun i m H' => m = xs.length - i ∧ i ≤ xs.length ∧ Pv i H', ⟨xs.length, by simp, Nat.zero_le _, h0⟩, ?_⟩
  rintro i m H' ⟨rfl, hile, Rp⟩
  by_cases hlt : i < xs.length
  · refine .inr ⟨wkk.go i H' (by simpa using hlt) (nDmu Rp), Pv (i + 1), fun H2 p' => ⟨xs.length - (i + 1), by omega, rfl, hlt, p'⟩, fun v H2 y => ?_⟩
    obtain ⟨x, hx⟩ : ∃ x, xs[i]? = some x := ⟨xs[i], by simp [hlt]⟩
    have xin : x ∈ xs := List.mem_of_getElem? hx
    have dx : (xs.map enc)[i]? = some (enc x) := by rw [List.getElem?_map, hx]; rfl
    have pool : Same (off (hd W μ) H1) (off (hd (W.now μ H1) ((D, .lst ((xs.take i).flatMap g)) :: μ)) H') := fun a o e => by
      obtain ⟨h1, h2⟩ := off_some e
      have na : a ≠ D := fun z => by rw [z, hD] at h2; cases h2
      rw [off_out (fun z => by
        rcases List.mem_append.mp z with z | z
        · exact h1 (List.mem_append_left _ z)
        · rw [List.map_cons] at z
          rcases List.mem_cons.mp z with z | z
          · exact na z
          · exact h1 (List.mem_append_right _ z))]
      exact nDmu Rp a o e
    obtain ⟨s2, r2⟩ := wkk.yld i (enc x) H' v H2 _ dx Rp.ne pool y
    have Rp2 := Rp.same s2
    refine (tg_name (K := X.K) k1).run _ v (enc x) (wipe σ vs) H2 _ _ r2 trivial Rp2.sl fun σ3 sl3 l3 u3 => ?_
    refine ⟨wipe_eq (ks := [k1]) (by intro k hk; rw [List.mem_singleton.mp hk]; exact List.mem_cons_self) l3 u3, ?_⟩
    have R3 : Rep X.K (W.now μ H1) ((wipeD vs Γ).set k1 (.d (enc x))) ((D, .lst ((xs.take i).flatMap g)) :: μ) σ3 H2 := ⟨Rp2.wd, Rp2.fr, sl3, Rp2.mu, Rp2.nd⟩
    refine yes_ _ _ _ ?_
    refine iteT ?_
    intro s0 H0 C0 cl0 fp0
    obtain ⟨wj, pj, rj⟩ := hi1 x xin _ (le1.trans (park_le R3)) s0 H0 C0 cl0 fp0
    refine pj.w (rj σ3 H2 R3.park _ fun zs J1 H4 ez R4 x4 wk1 => ?_)
    subst ez
    have x4' := park_xt R3 R4
    have R4' := R3.unpark R4
    -- the inner world
    let acc := (xs.take i).flatMap g
    let WB := (W.now μ H1).now ((D, .lst acc) :: μ) H4
    have leB : Wle (W.now μ H1) WB := R4'.now_le
    let Pw : Nat → Hp → Prop := fun j H5 => Rep X.K WB (wipeD [k2] ((wipeD vs Γ).set k1 (.d (enc x)))) ((D, .lst (acc ++ ((ys x).take j).map (f x))) :: μ) (wipe σ3 [k2]) H5
    have RB := R4'.now
    have w0 : Pw 0 H4 := by
      show Rep X.K WB _ ((D, .lst (acc ++ ((ys x).take 0).map (f x))) :: μ) _ H4
      rw [List.take_zero, List.map_nil, List.append_nil]
      exact ⟨RB.wd, RB.fr, RB.sl.wipe [k2], RB.mu, RB.nd⟩
    have keepB : ∀ {j H5}, Pw j H5 → XT (hd (W.now μ H1) ((D, .lst acc) :: μ)) H4 H5 := fun Rj a o e => by
      obtain ⟨h1, h2⟩ := off_some e
      rw [off_out h1]
      refine Rj.fr.keep a o (fun z => h1 (List.mem_append_left _ (Rep.isRow_M Rj.wd z))) ?_
      show off ((((D, MO.lst acc) :: μ)).map (·.1)) H4 a = some o
      rw [off_out (fun z => h1 (List.mem_append_right _ z))]
      exact h2
    have pk : ∀ a, a ∈ hd ((W.now μ H1).park μ D H2) μ ↔ a ∈ hd (W.now μ H1) ((D, .lst acc) :: μ) := fun a => mem_park
    have pool1 : ∀ {j H5}, Pw j H5 → Same (off (hd ((W.now μ H1).park μ D H2) μ) H4) (off (hd WB ((D, .lst (acc ++ ((ys x).take j).map (f x))) :: μ)) H5) := fun Rj a o e => by
      obtain ⟨h1, h2⟩ := off_some e
      have h1' : a ∉ hd (W.now μ H1) ((D, .lst acc) :: μ) := fun z => h1 ((pk a).mpr z)
      exact keepB Rj a o (by rw [off_out h1']; exact h2)
    have pool1' : ∀ {j H5}, Pw j H5 → Same (off (hd ((W.now μ H1).park μ D H2) μ) H4) H5 := fun Rj a o e => (off_some (pool1 Rj a o e)).2
    have hacc : ∀ j, j ≤ (ys x).length → (acc ++ ((ys x).take j).map (f x)).length ≤ ((xs.take (i + 1)).flatMap g).length := fun j hj => by
      have h3 : ((xs.take (i + 1)).flatMap g).length = acc.length + (ys x).length := by
        rw [flat_take_succ hx, List.length_append]
        show _ + ((ys x).map (f x)).length = _
        rw [List.length_map]
      have h4 : (acc ++ ((ys x).take j).map (f x)).length ≤ acc.length + (ys x).length := by
        rw [List.length_append, List.length_map, List.length_take]
        omega
      exact Nat.le_trans h4 (Nat.le_of_eq h3.symm)
    have hz' : (xs.flatMap g).length ≤ 16777216 := hz
    have htot := flat_take_le (xs := xs) (g := g) (i + 1)
    refine ⟨fun j k H5 => k = (ys x).length - j ∧ j ≤ (ys x).length ∧ Pw j H5, ⟨(ys x).length, by simp, Nat.zero_le _, w0⟩, ?_⟩
    rintro j k H5 ⟨rfl, hjle, Rj⟩
    by_cases hlj : j < (ys x).length
    · refine .inr ⟨wk1.go j H5 (by simpa using hlj) (pool1' Rj), Pw (j + 1), fun H6 p' => ⟨(ys x).length - (j + 1), by omega, rfl, hlj, p'⟩, fun v1 H6 y1 => ?_⟩
      obtain ⟨b, hb⟩ : ∃ b, (ys x)[j]? = some b := ⟨(ys x)[j], by simp [hlj]⟩
      have bin : b ∈ ys x := List.mem_of_getElem? hb
      have db : ((ys x).map enc1)[j]? = some (enc1 b) := by rw [List.getElem?_map, hb]; rfl
      obtain ⟨s6, r6⟩ := wk1.yld j (enc1 b) H5 v1 H6 _ db Rj.ne (pool1 Rj) y1
      have Rj2 := Rj.same s6
      refine (tg_name (K := X.K) k2).run _ v1 (enc1 b) (wipe σ3 [k2]) H6 _ _ r6 trivial Rj2.sl fun σ4 sl4 l4 u4 => ?_
      refine ⟨wipe_eq (ks := [k2]) (by intro k hk; exact hk) l4 u4, ?_⟩
      have R6 : Rep X.K WB ((wipeD [k2] ((wipeD vs Γ).set k1 (.d (enc x)))).set k2 (.d (enc1 b))) ((D, .lst (acc ++ ((ys x).take j).map (f x))) :: μ) σ4 H6 := ⟨Rj2.wd, Rj2.fr, sl4, Rj2.mu, Rj2.nd⟩
      refine yes_ _ _ _ ?_
      refine iteT ?_
      intro s9 H9 C9 cl9 fp9
      refine he x xin b bin _ ((le1.trans leB).trans (park_le R6)) s9 H9 C9 cl9 fp9 σ4 H6 R6.park _ fun v5 H7 R7 x7 r7 => ?_
      have x7' := park_xt R6 R7
      have R7' := R6.unpark R7
      obtain ⟨ac, ha, hv⟩ := (R7'.mu _ List.mem_cons_self).2
      refine ⟨ac, ha, ?_, ?_⟩
      · rw [hv.length]
        have h3 := hacc (j + 1) hlj
        rw [List.take_add_one, hb, List.map_append] at h3
        simp only [List.length_append, List.length_map] at h3 ⊢
        have h4 : ((some b).toList.map (f x)).length = 1 := rfl
        simp only [List.length_map] at h4
        show _ < 16777216
        omega
      · have oc : off (hd (WB.park μ D H6) μ) H7 = off (hd WB ((D, .lst (acc ++ ((ys x).take j).map (f x))) :: μ)) H7 := off_cong fun a => mem_park
        have Rb : Rep X.K WB (wipeD [k2] ((wipeD vs Γ).set k1 (.d (enc x)))) ((D, .lst (acc ++ ((ys x).take j).map (f x))) :: μ) (wipe σ3 [k2]) H7 := ⟨R7'.wd, R7'.fr, Rj2.sl.up x7', R7'.mu, R7'.nd⟩
        have z := Rb.chg (j := 0) (m' := .lst ((acc ++ ((ys x).take j).map (f x)) ++ [f x b])) rfl ⟨ac ++ [v5], upd_same, hv.app (.cons (oc ▸ r7) .nil)⟩
        show Rep X.K WB _ ((D, .lst (acc ++ ((ys x).take (j + 1)).map (f x))) :: μ) _ _
        have e : acc ++ ((ys x).take (j + 1)).map (f x) = (acc ++ ((ys x).take j).map (f x)) ++ [f x b] := by
          rw [List.take_add_one, hb, List.map_append, List.append_assoc]
          rfl
        rw [e]
        exact z
    · have e : j = (ys x).length := by omega
      subst e
      refine .inl ⟨by have := wk1.stop H5 (pool1' Rj); simpa using this, ?_⟩
      have xk := keepB Rj
      have x25 : XT (hd (W.now μ H1) ((D, .lst acc) :: μ)) H2 H5 := x4'.trans xk
      have Rd := Rj.wdown leB R4'.wd
      have e2 : (xs.take (i + 1)).flatMap g = acc ++ ((ys x).take (ys x).length).map (f x) := by
        rw [flat_take_succ hx, List.take_length]
      show Rep X.K (W.now μ H1) (wipeD vs Γ) ((D, .lst ((xs.take (i + 1)).flatMap g)) :: μ) (wipe σ vs) H5
      rw [e2]
      exact ⟨Rd.wd, Rd.fr, (Rp2.sl.up x25 : _), Rd.mu, Rd.nd⟩
  · have e : i = xs.length := by omega
    subst e
    refine .inl ⟨by have := wkk.stop H' (nDmu Rp); simpa using this, ?_⟩
    have sm := nDmu Rp
    have Rp' : Rep X.K (W.now μ H1) (wipeD vs Γ) ((D, .lst (xs.flatMap g)) :: μ) (wipe σ vs) H' := by
      have z := Rp
      show Rep X.K (W.now μ H1) (wipeD vs Γ) ((D, .lst (xs.flatMap g)) :: μ) (wipe σ vs) H'
      have e3 : (xs.take xs.length).flatMap g = xs.flatMap g := by rw [List.take_length]
      rw [← e3]
      exact z
    obtain ⟨ac, ha, hv, nl, sl⟩ := Rp'.freeze
    have up : XT (hd W μ) H1 H' := fun a o e => by
      rw [off_out (off_some e).1]
      exact sm a o e
    refine q (.ref D) H' ⟨R.wd, Rp.fr.down le1, R1.sl.up up, fun p hp => ⟨(R1.mu p hp).1, (Rp.mu p (List.mem_cons_of_mem _ hp)).2.up (same_offs fun a ha => ?_) fun _ z => z⟩, R.nd⟩ (e1.trans up) (.lst (off_out nl |>.trans ha) hv)
    rcases List.mem_append.mp ha with z | z
    · exact List.mem_append_left _ z
    · exact List.mem_append_right _ (by rw [List.map_cons]; exact List.mem_cons_of_mem _ z)
end
section
variable {X : Cx} {W : Wd} {Γ : List DV} {μ : Mu} {α β : Type} {iter iter1 elt : Expr} {scope : Scope} {pos p1 p2 : Pos} {enc : α → PyData} {enc1 : β → PyData} {xs : List α} {n1 n2 : Str}
/-- [elt for n1 in iter for n2 in iter1] -/
theorem ed_lc2 (k1 k2 : Nat) (hi : IterD X W Γ μ (.Name n1 p1) iter enc xs) (ys : α → List β) (f : α → β → PyData) (hz : (xs.flatMap fun x => (ys x).map (f x)).length ≤ 16777216)
    (hi1 : ∀ x ∈ xs, ∀ W1, Wle W W1 → ∀ s H C cl fp, IterD (blkOf X scope s H C cl fp) W1 ((wipeD [k1, k2] Γ).set k1 (.d (enc x))) μ (.Name n2 p2) iter1 enc1 (ys x))
    (he : ∀ x ∈ xs, ∀ y ∈ ys x, ∀ W1, Wle W W1 → ∀ s H C cl fp, Ed (blkOf X scope s H C cl fp) W1 ((wipeD [k2] ((wipeD [k1, k2] Γ).set k1 (.d (enc x)))).set k2 (.d (enc1 y))) μ elt (f x y)) (hN : X.N.Nodup) (hk : k1 ≠ k2 := by decide) (hn1 : X.N[k1]? = some n1 := by rfl) (hn2 : X.N[k2]? = some n2 := by rfl)
    (hv1 : ∀ s H C cl fp, Loc (blkOf X scope s H C cl fp).env.scope n1 := by intro _ _ _ _ _; first | exact Or.inl rfl | exact Or.inr rfl) (hf1 : ∀ s H C cl fp, (blkOf X scope s H C cl fp).fn n1 = true ∨ (blkOf X scope s H C cl fp).env.scope.names.lookup n1 = some .local := by intro _ _ _ _ _; first | exact .inr rfl | exact .inl rfl)
    (hv2 : ∀ s H C cl fp, Loc (blkOf X scope s H C cl fp).env.scope n2 := by intro _ _ _ _ _; first | exact Or.inl rfl | exact Or.inr rfl) (hf2 : ∀ s H C cl fp, (blkOf X scope s H C cl fp).fn n2 = true ∨ (blkOf X scope s H C cl fp).env.scope.names.lookup n2 = some .local := by intro _ _ _ _ _; first | exact .inr rfl | exact .inl rfl)
    (hb : BlkOk X.N X.env.scope scope [(n1, k1), (n2, k2)] := by exact blkOk_by (by kernel_rfl)) (hc : X.calm = true := by rfl) (hs : ∀ x, foldedSetIterable iter X.env x = pure x := by intro _; rfl) (hs1 : ∀ env x, foldedSetIterable iter1 env x = pure x := by intro _ _; rfl) :
    Ed X W Γ μ (.ListComp elt [⟨.Name n1 p1, iter, [], 0⟩, ⟨.Name n2 p2, iter1, [], 0⟩] scope pos) (.list (xs.flatMap fun x => (ys x).map (f x))) := fun σ H R Q q => by
  obtain ⟨wi, h1, h2⟩ := hi
  refine (pe_lc2 (vs1 := [k2]) hc hN h1 hb (fun i hi => by rw [List.mem_singleton.mp hi]; simp) (fun s H C cl fp => pg_name hN hn1 (hv1 s H C cl fp) (hf1 s H C cl fp)) (fun _ _ _ _ _ => pts_nil) (wIb.pi (scope := scope)) (fun s H C cl fp => pg_name hN hn2 (hv2 s H C cl fp) (hf2 s H C cl fp)) (fun _ _ _ _ _ => pts_nil) wEb.pe hs hs1).w ?_
  exact lc2_read hk (fun σ H R Rr k => h2 σ H R Rr fun l J H1 e R1 x1 wkk => k J H1 R1 x1 (e ▸ wkk)) hi1 hz he R q
/-- x = [elt for n1 in iter for n2 in iter1] -/
theorem run_setLc2 {rest : List Stmt} {D : Ends} {spos py : Pos} {nm : Str} (i k1 k2 : Nat) (hi : IterD X W Γ μ (.Name n1 p1) iter enc xs) (ys : α → List β) (f : α → β → PyData) (hz : (xs.flatMap fun x => (ys x).map (f x)).length ≤ 16777216)
    (hi1 : ∀ x ∈ xs, ∀ W1, Wle W W1 → ∀ s H C cl fp, IterD (blkOf X scope s H C cl fp) W1 ((wipeD [k1, k2] Γ).set k1 (.d (enc x))) μ (.Name n2 p2) iter1 enc1 (ys x))
    (he : ∀ x ∈ xs, ∀ y ∈ ys x, ∀ W1, Wle W W1 → ∀ s H C cl fp, Ed (blkOf X scope s H C cl fp) W1 ((wipeD [k2] ((wipeD [k1, k2] Γ).set k1 (.d (enc x)))).set k2 (.d (enc1 y))) μ elt (f x y))
    (hr : Run X W (Γ.set i (.d (.list (xs.flatMap fun x => (ys x).map (f x))))) μ rest D) (hN : X.N.Nodup) (hk : k1 ≠ k2 := by decide) (hn : X.N[i]? = some nm := by rfl) (hn1 : X.N[k1]? = some n1 := by rfl) (hn2 : X.N[k2]? = some n2 := by rfl)
    (hl : X.env.scope.names.lookup nm = some .local := by rfl)
    (hsw : swapsWith (.ListComp elt [⟨.Name n1 p1, iter, [], 0⟩, ⟨.Name n2 p2, iter1, [], 0⟩] scope pos) (some (.Name nm py)) spos.line X.env = pure true := by exact (sw_true rfl rfl rfl (by decide +kernel)))
    (hv1 : ∀ s H C cl fp, Loc (blkOf X scope s H C cl fp).env.scope n1 := by intro _ _ _ _ _; first | exact Or.inl rfl | exact Or.inr rfl) (hf1 : ∀ s H C cl fp, (blkOf X scope s H C cl fp).fn n1 = true ∨ (blkOf X scope s H C cl fp).env.scope.names.lookup n1 = some .local := by intro _ _ _ _ _; first | exact .inr rfl | exact .inl rfl)
    (hv2 : ∀ s H C cl fp, Loc (blkOf X scope s H C cl fp).env.scope n2 := by intro _ _ _ _ _; first | exact Or.inl rfl | exact Or.inr rfl) (hf2 : ∀ s H C cl fp, (blkOf X scope s H C cl fp).fn n2 = true ∨ (blkOf X scope s H C cl fp).env.scope.names.lookup n2 = some .local := by intro _ _ _ _ _; first | exact .inr rfl | exact .inl rfl)
    (hb : BlkOk X.N X.env.scope scope [(n1, k1), (n2, k2)] := by exact blkOk_by (by kernel_rfl)) (hc : X.calm = true := by rfl) (hs : ∀ x, foldedSetIterable iter X.env x = pure x := by intro _; rfl) (hs1 : ∀ env x, foldedSetIterable iter1 env x = pure x := by intro _ _; rfl) :
    Run X W Γ μ (.Assign [.Name nm py] (.ListComp elt [⟨.Name n1 p1, iter, [], 0⟩, ⟨.Name n2 p2, iter1, [], 0⟩] scope pos) spos :: rest) D := fun σ H R => by
  obtain ⟨wi, h1, h2⟩ := hi
  refine wSs_cons ((ps_setLc2 (vs1 := [k2]) hc hN hn hl hsw h1 hb (fun i hi => by rw [List.mem_singleton.mp hi]; simp) (fun s H C cl fp => pg_name hN hn1 (hv1 s H C cl fp) (hf1 s H C cl fp)) (fun _ _ _ _ _ => pts_nil) (wIb.pi (scope := scope)) (fun s H C cl fp => pg_name hN hn2 (hv2 s H C cl fp) (hf2 s H C cl fp)) (fun _ _ _ _ _ => pts_nil) wEb.pe hs hs1).w ?_)
  exact lc2_read hk (fun σ H R Rr k => h2 σ H R Rr fun l J H1 e R1 x1 wkk => k J H1 R1 x1 (e ▸ wkk)) hi1 hz he R fun v H2 R2 x2 r => hr _ _ ⟨R2.wd, R2.fr, R2.sl.set i r, R2.mu, R2.nd⟩
end
end HW
set_option maxHeartbeats 4000000
namespace HW
open PySem PySem.Spec PyProof.Rows L2
open SX (S)
section
variable {X : Cx} {W : Wd} {Γ : List DV} {μ μ' : Mu} {sts a b rest : List Stmt} {D D' : Ends} {c : Expr} {pos : Pos}
/-- local objects forgotten -/
theorem run_sub (h : Run X W Γ μ' sts D) (s : μ'.Sublist μ) : Run X W Γ μ sts D := fun σ H R => by
  have sk : (μ'.map (·.1)).Sublist (μ.map (·.1)) := s.map _
  have sub : Same (off (hd W μ) H) (off (hd W μ') H) := same_offs fun a ha => by
    rcases List.mem_append.mp ha with z | z
    · exact List.mem_append_left _ z
    · exact List.mem_append_right _ (sk.subset z)
  exact h σ H ⟨R.wd, R.fr, R.sl.up sub, fun p hp => ⟨(R.mu p (s.subset hp)).1, (R.mu p (s.subset hp)).2.up sub fun _ z => z⟩, R.nd.sublist sk⟩
/-- weaker ends -/
theorem Run.mono (h : Run X W Γ μ sts D) (h1 : ∀ σ H, D.nx σ H → D'.nx σ H) (h2 : ∀ v H, D.rt v H → D'.rt v H) (h3 : ∀ σ H, D.bk σ H → D'.bk σ H) (h4 : ∀ σ H, D.ct σ H → D'.ct σ H) : Run X W Γ μ sts D' := fun σ H R pins s I =>
  wpAny_mono (h σ H R pins s I) (fun fl s' q => by
    cases fl with
    | next => obtain ⟨σ', H', I', q'⟩ := q; exact ⟨σ', H', I', h1 _ _ q'⟩
    | brk => obtain ⟨σ', H', I', q'⟩ := q; exact ⟨σ', H', I', h3 _ _ q'⟩
    | cont => obtain ⟨σ', H', I', q'⟩ := q; exact ⟨σ', H', I', h4 _ _ q'⟩
    | ret u => obtain ⟨v, σ', H', I', r, q'⟩ := q; exact ⟨v, σ', H', I', r, h2 _ _ q'⟩) fun _ _ z => z
/-- if, both ways on to one state Φ -/
theorem run_ifJ {k : Bool} (Φ : List DV → Mu → Prop) (hc : EdT X W Γ μ c k) (h1 : k = true → Run X W Γ μ a { D with nx := StP X.K W Φ }) (h2 : k = false → Run X W Γ μ b { D with nx := StP X.K W Φ }) (hr : ∀ Γ' μ', Φ Γ' μ' → Run X W Γ' μ' rest D) : Run X W Γ μ (.If c a b pos :: rest) D :=
  have on : ∀ σ H, StP X.K W Φ σ H → wSs X rest D σ H := fun σ H ⟨Γ', μ', p, R⟩ => hr Γ' μ' p σ H R
  run_if hc (fun q => (h1 q).mono on (fun _ _ z => z) (fun _ _ z => z) (fun _ _ z => z)) (fun q => (h2 q).mono on (fun _ _ z => z) (fun _ _ z => z) (fun _ _ z => z))
/-- the end of a branch, a turn: on to Φ -/
theorem run_to {Φ : List DV → Mu → Prop} {rt : VK} {bk ct : L2.St → Hp → Prop} (Γ' : List DV) (μ' : Mu) (w : wk Γ Γ') (s : μ'.Sublist μ) (h : Φ Γ' μ') : Run X W Γ μ [] ⟨StP X.K W Φ, rt, bk, ct⟩ := run_sub (run_go Γ' w h) s
end

/-! ### all masks -/
def maskG : Nat → List (List Nat)
  | 0 => [[120]]
  | k + 1 => (maskG k).flatMap fun v => [46, 120].map fun c => v ++ [c]
def masksL (w : Nat) : List (List Nat) := if w = 1 then [[120]] else (maskG (w - 2)).map fun v => v ++ [120]
def R_all_masks (ds : List PyData) (d : PyData) : Prop := ∃ w : Nat, ds = [nn w] ∧ 1 ≤ w ∧ w ≤ 12 ∧ d = wD (masksL w)
theorem maskG_len : ∀ k, (maskG k).length = 2 ^ k
  | 0 => rfl
  | k + 1 => by
    have h : ∀ l : List (List Nat), (l.flatMap fun v => [46, 120].map fun c => v ++ [c]).length = l.length * 2 := by
      intro l
      induction l with
      | nil => rfl
      | cons v l ih => rw [List.flatMap_cons, List.length_append, ih, List.length_cons]; simp; omega
    rw [maskG, h, maskG_len k, Nat.pow_succ]
theorem mem_maskG : ∀ {k : Nat} {v : List Nat}, v ∈ maskG k → v.length = k + 1 ∧ v[0]? = some 120 ∧ ∀ c ∈ v, c = 120 ∨ c = 46
  | 0, v, h => by
    have e : v = [120] := by simpa [maskG] using h
    subst e
    exact ⟨rfl, rfl, fun c hc => .inl (by simpa using hc)⟩
  | k + 1, v, h => by
    obtain ⟨u, hu, hv⟩ := List.mem_flatMap.mp h
    obtain ⟨c, hc, rfl⟩ := List.mem_map.mp hv
    obtain ⟨h1, h2, h3⟩ := mem_maskG hu
    refine ⟨by simp [h1], ?_, fun x hx => ?_⟩
    · rw [List.getElem?_append_left (by omega)]
      exact h2
    · rcases List.mem_append.mp hx with z | z
      · exact h3 x z
      · rw [List.mem_singleton.mp z]
        have : c = 46 ∨ c = 120 := by simpa using hc
        omega
theorem mem_masksL {w : Nat} {m : List Nat} (h1 : 1 ≤ w) (h2 : w ≤ 12) (h : m ∈ masksL w) : maskB m = true ∧ m.length = w := by
  unfold masksL at h
  by_cases e : w = 1
  · rw [if_pos e] at h
    have e2 : m = [120] := by simpa using h
    subst e2
    subst e
    exact ⟨by decide, rfl⟩
  · rw [if_neg e] at h
    obtain ⟨v, hv, rfl⟩ := List.mem_map.mp h
    obtain ⟨g1, g2, g3⟩ := mem_maskG hv
    refine ⟨?_, by simp [g1]; omega⟩
    unfold maskB
    simp only [Bool.and_eq_true, decide_eq_true_eq, List.all_eq_true]
    refine ⟨⟨⟨⟨by simp, by simp [g1]; omega⟩, fun c hc => ?_⟩, ?_⟩, List.getLast?_concat⟩
    · rcases List.mem_append.mp hc with z | z
      · rcases g3 c z with e | e <;> (subst e; simp)
      · rw [List.mem_singleton.mp z]; simp
    · rw [List.getElem?_append_left (by omega)]
      exact g2
theorem masksL_len {w : Nat} (h2 : w ≤ 12) : (masksL w).length ≤ 1024 := by
  unfold masksL
  split
  · simp
  · rw [List.length_map, maskG_len]
    exact Nat.le_trans (Nat.pow_le_pow_right (by decide) (show w - 2 ≤ 10 by omega)) (by decide)
/-- the law's way -/
theorem masksL_law {w : Nat} (h : 1 ≤ w) : (maskG (w - 1)).filter (fun v => decide (v.getLast? = some 120)) = masksL w := by
  unfold masksL
  by_cases e : w = 1
  · subst e
    rfl
  · rw [if_neg e]
    have e2 : w - 1 = (w - 2) + 1 := by omega
    rw [e2, maskG]
    generalize maskG (w - 2) = l
    induction l with
    | nil => rfl
    | cons v l ih =>
      rw [List.flatMap_cons, List.filter_append, ih, List.map_cons]
      simp [List.filter]
/-! the best ones -/
noncomputable def stepB (many n : Nat) (s : Nat × List (List Nat)) (m : List Nat) : Nat × List (List Nat) :=
  if (seenL m).length = many then
    (if topK m n - 1 > s.1 then (topK m n - 1, [m]) else if topK m n - 1 = s.1 then (s.1, s.2 ++ [m]) else s)
  else s
noncomputable def foldB (many n : Nat) (ms : List (List Nat)) : Nat × List (List Nat) := ms.foldl (stepB many n) (0, [])
def allM (w : Nat) : List (List Nat) := (List.range w).flatMap fun i => masksL (i + 1)
theorem foldB_snoc (many n : Nat) (ms : List (List Nat)) (m : List Nat) : foldB many n (ms ++ [m]) = stepB many n (foldB many n ms) m := by unfold foldB; rw [List.foldl_append]; rfl
theorem stepB_len (many n : Nat) (s : Nat × List (List Nat)) (m : List Nat) : (stepB many n s m).2.length ≤ s.2.length + 1 := by
  unfold stepB
  split
  · split
    · simp
    · split
      · simp
      · omega
  · omega
theorem foldB_len (many n : Nat) (ms : List (List Nat)) : (foldB many n ms).2.length ≤ ms.length := by
  have key : ∀ (ms : List (List Nat)) (s : Nat × List (List Nat)), (ms.foldl (stepB many n) s).2.length ≤ s.2.length + ms.length := by
    intro ms
    induction ms with
    | nil => intro s; exact Nat.le_refl _
    | cons m ms ih =>
      intro s
      have h1 := ih (stepB many n s m)
      have h2 := stepB_len many n s m
      rw [List.foldl_cons, List.length_cons]
      omega
  have := key ms (0, [])
  simpa [foldB] using this
theorem allM_len {w : Nat} (h : w ≤ 12) : (allM w).length ≤ 12288 := by
  have h1 := flat_len (fun i => masksL (i + 1)) 1024 (List.range w) (fun i hi => masksL_len (by have := List.mem_range.mp hi; omega))
  rw [List.length_range] at h1
  unfold allM
  omega
noncomputable def lensL (n : Nat) (ms : List (List Nat)) : List Nat := ms.map fun m => topK m n - 1
def R_best_masks (ds : List PyData) (d : PyData) : Prop := ∃ many w n : Nat, ds = [nn many, nn w, nn n] ∧ 1 ≤ many ∧ many ≤ 12 ∧ 1 ≤ w ∧ w ≤ 12 ∧ 1 ≤ n ∧ n ≤ 4 ∧ w ≤ [12, 8, 5, 4].getD (n - 1) 0 ∧ many ≤ [12, 4, 2, 1].getD (n - 1) 0 ∧
  d = .tuple [nn (foldB many n (allM w)).1, wD (foldB many n (allM w)).2]
/-- the greatest -/
def maxN (l : List Nat) : Nat := l.foldl max 0
theorem rev_ind {α : Type} {p : List α → Prop} (h0 : p []) (h1 : ∀ l a, p l → p (l ++ [a])) (l : List α) : p l := by
  have key : ∀ k (l : List α), l.length = k → p l := by
    intro k
    induction k with
    | zero => intro l h; rw [List.length_eq_zero_iff.mp h]; exact h0
    | succ k ih =>
      intro l h
      have hne : l ≠ [] := by rintro rfl; simp at h
      rw [← List.dropLast_concat_getLast hne]
      exact h1 _ _ (ih _ (by simp [h]))
  exact key _ l rfl
theorem foldB_spec (many n : Nat) (ms : List (List Nat)) : (∀ m ∈ ms, (seenL m).length = many → 1 ≤ topK m n - 1) →
    (∀ m ∈ ms, (seenL m).length = many → topK m n - 1 ≤ (foldB many n ms).1) ∧ (foldB many n ms).2 = ms.filter (fun m => decide ((seenL m).length = many) && decide (topK m n - 1 = (foldB many n ms).1)) ∧
    ((∃ m ∈ ms, (seenL m).length = many ∧ topK m n - 1 = (foldB many n ms).1) ∨ (foldB many n ms).1 = 0 ∧ ∀ m ∈ ms, (seenL m).length ≠ many) := by
  refine rev_ind (p := fun ms => (∀ m ∈ ms, (seenL m).length = many → 1 ≤ topK m n - 1) →
    (∀ m ∈ ms, (seenL m).length = many → topK m n - 1 ≤ (foldB many n ms).1) ∧ (foldB many n ms).2 = ms.filter (fun m => decide ((seenL m).length = many) && decide (topK m n - 1 = (foldB many n ms).1)) ∧
    ((∃ m ∈ ms, (seenL m).length = many ∧ topK m n - 1 = (foldB many n ms).1) ∨ (foldB many n ms).1 = 0 ∧ ∀ m ∈ ms, (seenL m).length ≠ many)) (fun _ => ⟨fun m hm => (nomatch hm), rfl, .inr ⟨rfl, fun m hm => (nomatch hm)⟩⟩) (fun ms m ih hp => ?_) ms
  · obtain ⟨h1, h2, h3⟩ := ih fun q hq => hp q (List.mem_append_left _ hq)
    rw [foldB_snoc]
    generalize hs : foldB many n ms = s at h1 h2 h3
    by_cases hm : (seenL m).length = many
    · have hp1 := hp m (List.mem_append_right _ (List.mem_singleton.mpr rfl)) hm
      rcases Nat.lt_trichotomy (topK m n - 1) s.1 with hlt | heq | hgt
      · have e : stepB many n s m = s := by
          unfold stepB
          rw [if_pos hm, if_neg (by omega), if_neg (by omega)]
        rw [e]
        refine ⟨fun q hq hqm => ?_, ?_, ?_⟩
        · rcases List.mem_append.mp hq with z | z
          · exact h1 q z hqm
          · rw [List.mem_singleton.mp z]; omega
        · rw [List.filter_append, ← h2]
          have : decide (topK m n - 1 = s.1) = false := decide_eq_false (by omega)
          simp [List.filter, this]
        · rcases h3 with ⟨q, hq, r⟩ | ⟨z, r⟩
          · exact .inl ⟨q, List.mem_append_left _ hq, r⟩
          · omega
      · have e : stepB many n s m = (s.1, s.2 ++ [m]) := by
          unfold stepB
          rw [if_pos hm, if_neg (by omega), if_pos heq]
        rw [e]
        refine ⟨fun q hq hqm => ?_, ?_, .inl ⟨m, List.mem_append_right _ (List.mem_singleton.mpr rfl), hm, heq⟩⟩
        · rcases List.mem_append.mp hq with z | z
          · exact h1 q z hqm
          · rw [List.mem_singleton.mp z]; omega
        · show s.2 ++ [m] = _
          rw [List.filter_append, ← h2]
          simp [List.filter, hm, heq]
      · have e : stepB many n s m = (topK m n - 1, [m]) := by
          unfold stepB
          rw [if_pos hm, if_pos hgt]
        rw [e]
        refine ⟨fun q hq hqm => ?_, ?_, .inl ⟨m, List.mem_append_right _ (List.mem_singleton.mpr rfl), hm, rfl⟩⟩
        · rcases List.mem_append.mp hq with z | z
          · have := h1 q z hqm
            show _ ≤ topK m n - 1
            omega
          · rw [List.mem_singleton.mp z]; exact Nat.le_refl _
        · show [m] = _
          rw [List.filter_append]
          have e3 : ms.filter (fun q => decide ((seenL q).length = many) && decide (topK q n - 1 = topK m n - 1)) = [] := by
            rw [List.filter_eq_nil_iff]
            intro q hq hc
            simp only [Bool.and_eq_true, decide_eq_true_eq] at hc
            have := h1 q hq hc.1
            omega
          rw [e3]
          simp [List.filter, hm]
    · have e : stepB many n s m = s := by
        unfold stepB
        rw [if_neg hm]
      rw [e]
      refine ⟨fun q hq hqm => ?_, ?_, ?_⟩
      · rcases List.mem_append.mp hq with z | z
        · exact h1 q z hqm
        · rw [List.mem_singleton.mp z] at hqm; exact absurd hqm hm
      · rw [List.filter_append, ← h2]
        simp [List.filter, hm]
      · rcases h3 with ⟨q, hq, r⟩ | ⟨z, r⟩
        · exact .inl ⟨q, List.mem_append_left _ hq, r⟩
        · refine .inr ⟨z, fun q hq => ?_⟩
          rcases List.mem_append.mp hq with y | y
          · exact r q y
          · rw [List.mem_singleton.mp y]; exact hm
/-- a mask's own width is told -/
theorem Small.reach {m : List Nat} {n : Nat} (h : Small m n) : m.length < HW.topK m n := by
  obtain ⟨g1, g2⟩ := h.topK
  rcases Nat.lt_or_ge m.length (HW.topK m n) with q | q
  · exact q
  · exfalso
    have e := lev_nil g1 m.length q
    have hm : List.replicate m.length 97 ∈ lev m n m.length := by
      refine (mem_lev h.pos h.hi).mpr ⟨by simp, fun c hc => ?_, ?_⟩
      · rw [List.eq_of_mem_replicate hc]
        have := h.lo
        omega
      · unfold tellsB viewsL
        have e1 : (List.replicate m.length 97).length + 1 - m.length = 1 := by simp
        rw [e1]
        simp [List.range_succ]
    rw [e] at hm
    cases hm
end HW
set_option maxHeartbeats 4000000
namespace HW
open PySem PySem.Spec PyProof.Rows L2
open SX (S)
/-! ### x[::-1] of texts and lists -/
theorem rev_picked (x : Str) (t : Tok) : (PySem.slicePicked x none none (some (-1, t))).filterMap (x.cps[·]?) = x.cps.toList.reverse := by
  have e : PySem.slicePicked x none none (some (-1, t)) = sliceRange ((x.cps.size : Int) - 1) (-1) (-1) := rfl
  rw [e, PySem.W.krv_sliceRange, PySem.W.krv_range, List.filterMap_reverse, PySem.W.krv_all]
def tRevS (te : TE) : TE := fun σ H Q => te σ H fun x H1 => ∃ z : Str, x = .str z ∧ z.length ≤ sizeLine ∧ Q (.str ⟨z.cps.toList.reverse.toArray⟩) H1
theorem pe_revS {X : Cx} {e : Expr} {te : TE} {k : Nat} {p1 p2 p3 pos : Pos} (he : PE X e te) : PE X (.Subscript e (.Slice none none (some (.UnaryOp .USub (.Constant (.int 1) k p1) p2)) p3) pos) (tRevS te) := by
  refine ⟨fun pins s σ H Q I h => ?_⟩
  refine Subscript_ (thn (he.run pins s σ H _ I h) fun v s1 ⟨x, H1, I1, r1, q1⟩ => ?_)
  obtain ⟨z, ex, hz, q⟩ := q1
  subst ex
  obtain ⟨tz, rfl⟩ := r1
  have hst : PO X (some (.UnaryOp .USub (.Constant (.int 1) k p1) p2)) (tPart (tUn (rU fun i => .int (-i)) (tC (.int 1)))) := po_some (pe_un un_neg pe_int)
  refine wpAny_Slice (thn (po_none.run pins s1 σ H1 (fun o H2 => o = none ∧ H2 = H1) I1 ⟨rfl, rfl⟩) fun vl s2 ⟨l, H2, I2, pl, el, e2⟩ => ?_)
  subst el e2
  refine thn (po_none.run pins s2 σ H2 (fun o H3 => o = none ∧ H3 = H2) I2 ⟨rfl, rfl⟩) fun vu s3 ⟨u, H3, I3, pu, eu, e3⟩ => ?_
  subst eu e3
  refine thn (hst.run pins s3 σ H3 (fun o H4 => o = some (-1) ∧ H4 = H3) I3 ⟨1, rfl, -1, rfl, rfl, rfl⟩) fun vs s4 ⟨o, H4, I4, ps, eo, e4⟩ => ?_
  subst eo e4
  have I5 : Inv X pins σ H4 { s4 with heap := s4.heap.push { cls := .type "slice", data := .fields #[vl, vu, vs] } } := I4.kept (t' := s4.toks) fun b ob q => Heap.get?_push_of_some _ q
  cases pl
  cases pu
  cases ps with
  | int i ts =>
    show wpAny (model X.prog X.w) X.A (subscriptTail e (.Slice none none (some (.UnaryOp .USub (.Constant (.int 1) k p1) p2)) p3) (.str z tz) (.ref s4.heap.objs.size)) (EP X pins σ Q) X.xe { s4 with heap := s4.heap.push { cls := .type "slice", data := .fields #[.none, .none, .int (-1) ts] } }
    refine tail_any (ops := [.str z tz, .ref s4.heap.objs.size]) (typeIs_str _ _ _) F.slot_str_getitem.lookup ?_ (by with_unfolding_all rfl)
    refine wpAny_getItem_str_slice (l := none) (u := none) (st := some (-1, ts)) ⟨_, Heap.get?_push_size _ rfl, rfl, rfl⟩ rfl ?_
    show Made.post (sliceMade z tz none none (some (-1, ts))) _ _
    unfold sliceMade
    rw [if_neg (by simp), rev_picked]
    have hl : (⟨z.cps.toList.reverse.toArray⟩ : Str).length ≤ sizeLine := by
      show (z.cps.toList.reverse.toArray).size ≤ _
      have : (z.cps.toList.reverse.toArray).size = z.cps.size := by simp
      rw [this]
      exact hz
    exact ⟨hl, .str _, H4, I5.tok _, ⟨_, rfl⟩, q⟩
section
variable {X : Cx} {W : Wd} {Γ : List DV} {μ : Mu} {e : Expr} {p1 p2 p3 pos : Pos} {k : Nat} {l : List Nat} {ds : List PyData}
theorem ed_revS (he : Ed X W Γ μ e (sD l)) (hl : l.length ≤ 16777216) : Ed X W Γ μ (.Subscript e (.Slice none none (some (.UnaryOp .USub (.Constant (.int 1) k p1) p2)) p3) pos) (sD l.reverse) := fun σ H R Q q =>
  (pe_revS wE.pe).w (he σ H R _ fun v H2 R2 x2 r2 => by
    cases r2
    refine ⟨S l, rfl, by rw [SX.S_len]; exact hl, ?_⟩
    exact q _ H2 R2 x2 (.str _))
theorem va_rev {K : PySem.W.Frag} {H : Hp} : ∀ {vs : List V} {ds : List PyData}, VaAll K H vs ds → VaAll K H vs.reverse ds.reverse
  | _, _, .nil => .nil
  | _, _, .cons h t => by
    rw [List.reverse_cons, List.reverse_cons]
    exact (va_rev t).app (.cons h .nil)
theorem ed_revL (he : Ed X W Γ μ e (.list ds)) : Ed X W Γ μ (.Subscript e (.Slice none none (some (.UnaryOp .USub (.Constant (.int 1) k p1) p2)) p3) pos) (.list ds.reverse) := fun σ H R Q q =>
  (pe_revL wE.pe).w (he σ H R _ fun v H2 R2 x2 r2 => by
    cases r2 with
    | lst ha hv =>
      rename_i aa xx
      refine ⟨_, _, rfl, SqL.of (off_some ha).2, fun p hp => ?_⟩
      have sm := same_new (o := .lst xx.reverse) hp
      exact q _ _ (R2.same sm) (x2.trans (XT.same sm)) (.lst (off_upd (new_out R2.ne hp)) ((va_rev hv).up (XT.same sm))))
end
/-! ### a, b = a list of two -/
section
variable {X : Cx} {W : Wd} {Γ : List DV} {μ : Mu} {e : Expr} {rest : List Stmt} {D : Ends} {pos p1 p2 : Pos} {n1 n2 : Str} {P : PyData → Prop}
theorem run_unl2P (i j : Nat) {kt : Nat} {pt : Pos} (he : Ev X W Γ μ e P) (h : ∀ d, P d → ∃ x y, d = .list [x, y] ∧ Run X W ((Γ.set i (.d x)).set j (.d y)) μ rest D) (hN : X.N.Nodup) (hi : X.N[i]? = some n1 := by rfl) (hj : X.N[j]? = some n2 := by rfl)
    (hx1 : Loc X.env.scope n1 := by first | exact Or.inl rfl | exact Or.inr rfl) (hx2 : Loc X.env.scope n2 := by first | exact Or.inl rfl | exact Or.inr rfl)
    (hf1 : X.fn n1 = true ∨ X.env.scope.names.lookup n1 = some .local := by first | exact .inr rfl | exact .inl rfl) (hf2 : X.fn n2 = true ∨ X.env.scope.names.lookup n2 = some .local := by first | exact .inr rfl | exact .inl rfl) (hc : X.calm = true := by rfl)
    (hs : swapsWithSole [.Tuple [.Name n1 p1, .Name n2 p2] kt pt] e pos.line X.env = pure false := by rfl) (hw : swappedStores [.Tuple [.Name n1 p1, .Name n2 p2] kt pt] e X.env = pure none := by rfl)
    (h1 : (assignEach [.Tuple [.Name n1 p1, .Name n2 p2] kt pt] X.env).map (·.2) = [assign (.Tuple [.Name n1 p1, .Name n2 p2] kt pt) X.env] := by rfl) :
    Run X W Γ μ (.Assign [.Tuple [.Name n1 p1, .Name n2 p2] kt pt] e pos :: rest) D := fun σ H R =>
  wSs_cons ((ps_asg wE.pe (pg_unl hc (pgs_cons (pg_name hN hi hx1 hf1) (pgs_cons (pg_name hN hj hx2 hf2) pgs_nil))) hs hw h1).w (he σ H R _ fun v d H2 R2 e2 r pd => by
    obtain ⟨x, y, rfl, hr⟩ := h d pd
    cases r with
    | lst ha hv =>
      cases hv with
      | cons r1 hv =>
        cases hv with
        | cons r2 hv =>
          cases hv
          exact ⟨_, _, rfl, SqL.of (off_some ha).2, rfl, _, _, rfl, _, _, rfl, rfl, hr _ _ ⟨R2.wd, R2.fr, (R2.sl.set i r1).set j r2, R2.mu, R2.nd⟩⟩))
end
end HW
set_option maxHeartbeats 4000000
namespace HW
open PySem PySem.Spec PyProof.Rows L2
open SX (S)
section
variable {X : Cx} {i : Nat} {xs : List Nat}
theorem inV_n (i : Nat) : ∀ xs : List Nat, inV (.int (i : Int)) ((xs.map fun x : Nat => (x : Int)).map V.int) = decide (i ∈ xs)
  | [] => rfl
  | x :: xs => by
    have ih := inV_n i xs
    unfold inV at ih ⊢
    rw [List.map_cons, List.map_cons, List.any_cons, ih]
    have e : eqV (V.int (x : Int)) (V.int (i : Int)) = decide (i = x) := by
      show ((x : Int) == (i : Int)) = _
      rw [Bool.eq_iff_iff, beq_iff_eq, decide_eq_true_eq]
      omega
    rw [e]
    by_cases h : i = x
    · subst h; simp
    · simp [h]
theorem flat_n : ∀ xs : List Nat, ((xs.map fun x : Nat => (x : Int)).map V.int).all flatV = true
  | [] => rfl
  | v :: ws => by rw [List.map_cons, List.map_cons, List.all_cons, flat_n ws]; rfl
theorem vaAll_n {K : PySem.W.Frag} {H : Hp} {vs : List V} (h : VaAll K H vs (xs.map nn)) : vs = (xs.map fun x : Nat => (x : Int)).map V.int := by
  have e : xs.map nn = (xs.map fun x : Nat => (x : Int)).map PyData.int := by rw [List.map_map]; rfl
  rw [e] at h
  exact h.ints
theorem c_inLI : OpD X (compareOp .In) (nn i) (nD xs) (.bool (decide (i ∈ xs))) := OpR.to op_in_seq fun a b H Q ⟨L, _, ha, hb, k⟩ => by
  cases ha
  cases hb with
  | lst hl hv =>
    have ev := vaAll_n hv
    subst ev
    refine ⟨_, _, rfl, .inl (SqL.of (off_some hl).2), rfl, flat_n xs, ?_⟩
    show Q (.bl (inV _ _)) H
    rw [inV_n]
    exact k _ _ (Same.refl _) (.bl _)
end
theorem ev_tup {X : Cx} {W : Wd} {Γ : List DV} {μ : Mu} {pos : Pos} {es : List Expr} {x1 : Nat} {As : List PyData → Prop} (h : EvA X W Γ μ es As) (hl : ∀ ds, As ds → ds.length ≤ 1000) : Ev X W Γ μ (.Tuple es x1 pos) (fun z => ∃ ds, z = .tuple ds ∧ As ds) := fun σ H R Q q =>
  (pe_tup wA.pa).w (h σ H R _ fun vs ds H2 R2 e2 r2 p2 => ⟨by rw [r2.length]; exact Nat.le_trans (hl ds p2) (by decide), fun p hp => by
    have s := same_new (o := .tup vs) hp
    exact q _ _ _ (R2.same s) (e2.trans (XT.same s)) (.tup (.inl (.inl (off_upd (new_out R2.ne hp)))) (r2.up (XT.same s))) ⟨ds, rfl, p2⟩⟩)
theorem run_ifVJ {X : Cx} {W : Wd} {Γ : List DV} {μ : Mu} {c : Expr} {a b rest : List Stmt} {D : Ends} {pos : Pos} {A : Bool → Prop} (Φ : List DV → Mu → Prop) (hc : EvT X W Γ μ c A) (h1 : A true → Run X W Γ μ a { D with nx := StP X.K W Φ }) (h2 : A false → Run X W Γ μ b { D with nx := StP X.K W Φ }) (hr : ∀ Γ' μ', Φ Γ' μ' → Run X W Γ' μ' rest D) : Run X W Γ μ (.If c a b pos :: rest) D :=
  have on : ∀ σ H, StP X.K W Φ σ H → wSs X rest D σ H := fun σ H ⟨Γ', μ', p, R⟩ => hr Γ' μ' p σ H R
  run_ifV hc (fun q => (h1 q).mono on (fun _ _ z => z) (fun _ _ z => z) (fun _ _ z => z)) (fun q => (h2 q).mono on (fun _ _ z => z) (fun _ _ z => z) (fun _ _ z => z))
theorem pick_filter {p : List Nat → Bool} (l : List (List Nat)) : ((List.range l.length).filter fun i => p (l.getD i [])).map (fun i => l.getD i []) = l.filter p := by
  have e : l = (List.range l.length).map fun i => l.getD i [] := by
    apply List.ext_getElem?
    intro i
    rw [List.getElem?_map]
    by_cases h : i < l.length
    · rw [List.getElem?_range h, List.getElem?_eq_getElem h]
      show some l[i] = some (l.getD i [])
      rw [List.getD_eq_getElem?_getD, List.getElem?_eq_getElem h]
      rfl
    · rw [List.getElem?_eq_none (by omega), List.getElem?_eq_none (by simp; omega)]
      rfl
  conv => rhs; rw [e, List.filter_map]
  rfl
theorem mask_128 {m : List Nat} (h : maskB m = true) : ∀ c ∈ m, c < 128 := by
  unfold maskB at h
  simp only [Bool.and_eq_true, decide_eq_true_eq, List.all_eq_true] at h
  intro c hc
  have := h.1.1.2 c hc
  simp at this
  omega
/-! ### unlike -/
def unlikeN (a b : List Nat) : Nat := ((a.zip b).filter fun q => decide (q.1 ≠ q.2)).length
def R_unlike (ds : List PyData) (d : PyData) : Prop := ∃ a b : List Nat, ds = [sD a, sD b] ∧ a.length ≤ 4000 ∧ b.length ≤ 4000 ∧ d = nn (unlikeN a b)
def R_lunlike (ds : List PyData) (d : PyData) : Prop := ∃ a b : List Nat, ds = [sD a, sD b] ∧ a.length ≤ 4000 ∧ a.length = b.length ∧ d = nn (unlikeN a b)
theorem unlike_law (a b : List Nat) (h : a.length = b.length) : ((List.range a.length).filter fun i => decide (a.getD i 0 ≠ b.getD i 0)).length = unlikeN a b := by
  unfold unlikeN
  have e : a.zip b = (List.range a.length).map fun i => (a.getD i 0, b.getD i 0) := by
    apply List.ext_getElem?
    intro i
    rw [List.getElem?_map]
    by_cases hi : i < a.length
    · have hb : i < b.length := by omega
      rw [List.getElem?_range hi, List.getElem?_eq_getElem (by simp; omega), List.getElem_zip]
      show some (a[i], b[i]) = some (a.getD i 0, b.getD i 0)
      rw [List.getD_eq_getElem?_getD, List.getD_eq_getElem?_getD, List.getElem?_eq_getElem hi, List.getElem?_eq_getElem hb]
      rfl
    · rw [List.getElem?_eq_none (by simp; omega), List.getElem?_eq_none (by simp; omega)]
      rfl
  rw [e, List.filter_map, List.length_map]
  rfl
theorem unlike_zero {a b : List Nat} (h : a.length = b.length) : unlikeN a b = 0 ↔ a = b := by
  unfold unlikeN
  rw [List.length_eq_zero_iff, List.filter_eq_nil_iff]
  constructor
  · intro hz
    apply List.ext_getElem h
    intro i h1 h2
    have hm : (a[i], b[i]) ∈ a.zip b := by
      rw [List.mem_iff_getElem]
      exact ⟨i, by simp; omega, by rw [List.getElem_zip]⟩
    have := hz _ hm
    simpa using this
  · rintro rfl q hq
    have : q.1 = q.2 := by
      obtain ⟨i, hi, e⟩ := List.mem_iff_getElem.mp hq
      rw [List.getElem_zip] at e
      rw [← e]
    simpa using this
/-! ### the law's small masks -/
def post_small (ds : List PyData) (d : PyData) : Prop := ∃ (m : List Nat) (n : Nat), d = .list [sD m, nn n] ∧ Small m n ∧ m.length ≤ 6
def keptL (ps : List Nat) (many : Nat) : List Nat := if many > 1 then ps.take 1 ++ ps.drop (ps.length - many + 1) else [0]
def maskOf (kept : List Nat) (top : Nat) : List Nat := (List.range (top + 1)).map fun i => if i ∈ kept then 120 else 46
theorem open_get {m : List Nat} {i : Nat} : i ∈ openL m ↔ i < m.length ∧ m[i]? = some 120 := by
  unfold openL
  rw [List.mem_filter, List.mem_range, decide_eq_true_eq, List.getD_eq_getElem?_getD]
  constructor
  · rintro ⟨h1, h2⟩
    rw [List.getElem?_eq_getElem h1] at h2 ⊢
    exact ⟨h1, congrArg some h2⟩
  · rintro ⟨h1, h2⟩
    rw [h2]
    exact ⟨h1, rfl⟩
theorem open_sorted (m : List Nat) : (openL m).Pairwise (· < ·) := by
  unfold openL
  exact List.Pairwise.filter _ List.pairwise_lt_range
theorem open_head {m : List Nat} (h : maskB m = true) : (openL m)[0]? = some 0 := by
  have h1 := maskB_pos h
  have h0 : 0 ∈ openL m := open_get.mpr ⟨h1, by
    unfold maskB at h
    simp only [Bool.and_eq_true, decide_eq_true_eq] at h
    exact h.1.2⟩
  have hs := open_sorted m
  cases e : openL m with
  | nil => rw [e] at h0; cases h0
  | cons a l =>
    rw [e] at h0 hs
    rcases List.mem_cons.mp h0 with z | z
    · rw [← z]; rfl
    · have := (List.pairwise_cons.mp hs).1 0 z
      omega
theorem kept_ok {m : List Nat} {many : Nat} (hm : maskB m = true) (h1 : 1 ≤ many) (h : many < (openL m).length) : ∃ top, (keptL (openL m) many).getLast? = some top ∧ 0 ∈ keptL (openL m) many ∧ top < m.length ∧ (keptL (openL m) many).length ≤ many := by
  have h0 := open_head hm
  have hp := maskB_pos hm
  unfold keptL
  by_cases q : many > 1
  · rw [if_pos q]
    have hd : (openL m).drop ((openL m).length - many + 1) ≠ [] := by
      intro e
      have := congrArg List.length e
      rw [List.length_drop] at this
      simp at this
      omega
    refine ⟨((openL m).drop ((openL m).length - many + 1)).getLast hd, ?_, ?_, ?_, ?_⟩
    · rw [List.getLast?_append, List.getLast?_eq_some_getLast hd]
      rfl
    · refine List.mem_append_left _ ?_
      have e : (openL m).take 1 = [0] := by
        cases e : openL m with
        | nil => rw [e] at h0; cases h0
        | cons a l =>
          rw [e] at h0
          cases h0
          rfl
      rw [e]
      exact List.mem_singleton.mpr rfl
    · exact (open_get.mp (List.mem_of_mem_drop (List.getLast_mem hd))).1
    · rw [List.length_append, List.length_take, List.length_drop]
      omega
  · rw [if_neg q]
    exact ⟨0, rfl, List.mem_singleton.mpr rfl, hp, by simp; omega⟩
theorem maskOf_ok {kept : List Nat} {top : Nat} (h0 : 0 ∈ kept) (ht : top ∈ kept) (hb : top < 12) : maskB (maskOf kept top) = true := by
  unfold maskB maskOf
  simp only [Bool.and_eq_true, decide_eq_true_eq, List.all_eq_true]
  refine ⟨⟨⟨⟨by simp, by simp; omega⟩, fun c hc => ?_⟩, ?_⟩, ?_⟩
  · obtain ⟨i, _, rfl⟩ := List.mem_map.mp hc
    by_cases q : i ∈ kept
    · rw [if_pos q]; simp
    · rw [if_neg q]; simp
  · rw [List.getElem?_map, List.getElem?_range (by omega)]
    show some (if 0 ∈ kept then 120 else 46) = _
    rw [if_pos h0]
  · rw [List.range_succ, List.map_append]
    show (_ ++ [if top ∈ kept then 120 else 46]).getLast? = _
    rw [if_pos ht, List.getLast?_concat]
theorem maskOf_len (kept : List Nat) (top : Nat) : (maskOf kept top).length = top + 1 := by simp [maskOf]
theorem maskOf_seen (kept : List Nat) (top : Nat) : (seenL (maskOf kept top)).length ≤ kept.length := by
  rw [← open_seen]
  refine nodup_len _ _ ((open_sorted _).imp (fun h => Nat.ne_of_lt h)) fun i hi => ?_
  obtain ⟨h1, h2⟩ := open_get.mp hi
  rw [maskOf_len] at h1
  unfold maskOf at h2
  rw [List.getElem?_map, List.getElem?_range h1] at h2
  have h3 : (if i ∈ kept then 120 else 46) = 120 := Option.some.inj h2
  by_cases q : i ∈ kept
  · exact q
  · rw [if_neg q] at h3
    omega
end HW
set_option maxHeartbeats 4000000
namespace HW
open PySem PySem.Spec PyProof.Rows L2
open SX (S)
/-! ### rows whose views differ much -/
def okF (m : List Nat) (far : Nat) (r : List Nat) (c : Nat) : Bool := decide (r.length + 1 < m.length) || (viewsL r m).all fun o => decide (far ≤ unlikeN (viewL (r ++ [c]) m (r.length + 1 - m.length)) o)
def stepFar (m : List Nat) (n far : Nat) (r : List Nat) : List (List Nat) := ((letL n).filter (okF m far r)).map fun c => r ++ [c]
def nextF (m : List Nat) (n far : Nat) (rs : List (List Nat)) : List (List Nat) := rs.flatMap (stepFar m n far)
def levF (m : List Nat) (n far : Nat) : Nat → List (List Nat)
  | 0 => [[]]
  | k + 1 => nextF m n far (levF m n far k)
theorem okF_okC {m r : List Nat} {far c : Nat} (hf : 1 ≤ far) (h : okF m far r c = true) : okC m r c = true := by
  unfold okF at h
  unfold okC
  rcases Bool.or_eq_true _ _ ▸ h with z | z
  · rw [z]; rfl
  · rw [Bool.or_eq_true]
    refine .inr ?_
    rw [Bool.not_eq_true', decide_eq_false_iff_not]
    intro hm
    have := List.all_eq_true.mp z _ hm
    have h1 := of_decide_eq_true this
    rw [(unlike_zero rfl).mpr rfl] at h1
    omega
theorem stepFar_len (m : List Nat) {n : Nat} (hn : n ≤ 4) (far : Nat) (r : List Nat) : (stepFar m n far r).length ≤ n := by
  unfold stepFar
  rw [List.length_map]
  exact Nat.le_trans (List.length_filter_le ..) (by rw [letL_len hn]; exact Nat.le_refl _)
theorem levF_len (m : List Nat) {n : Nat} (hn : n ≤ 4) (far : Nat) : ∀ k, (levF m n far k).length ≤ n ^ k
  | 0 => by simp [levF]
  | k + 1 => by
    have h1 := flat_len (stepFar m n far) n (levF m n far k) (fun r _ => stepFar_len m hn far r)
    have h2 := Nat.mul_le_mul_right n (levF_len m hn far k)
    rw [← Nat.pow_succ] at h2
    exact Nat.le_trans h1 h2
theorem levF_lev {m : List Nat} {n far : Nat} (hf : 1 ≤ far) : ∀ {k : Nat} {r : List Nat}, r ∈ levF m n far k → r ∈ lev m n k
  | 0, r, h => h
  | k + 1, r, h => by
    obtain ⟨q, hq, hr⟩ := List.mem_flatMap.mp (show r ∈ (levF m n far k).flatMap (stepFar m n far) from h)
    show r ∈ (lev m n k).flatMap (stepR m n)
    refine List.mem_flatMap.mpr ⟨q, levF_lev hf hq, ?_⟩
    unfold stepFar at hr
    obtain ⟨c, hc, rfl⟩ := List.mem_map.mp hr
    obtain ⟨h1, h2⟩ := List.mem_filter.mp hc
    exact List.mem_map.mpr ⟨c, List.mem_filter.mpr ⟨h1, okF_okC hf h2⟩, rfl⟩
theorem levF_nil {m : List Nat} {n far k : Nat} (h : levF m n far k = []) : ∀ j, k ≤ j → levF m n far j = []
  | 0, hj => by have : k = 0 := by omega
                subst this; exact h
  | j + 1, hj => by
    by_cases e : k = j + 1
    · subst e; exact h
    · show nextF m n far (levF m n far j) = []
      rw [levF_nil h j (by omega)]
      rfl
theorem Small.lenF {m : List Nat} {n far : Nat} (h : Small m n) (hf : 1 ≤ far) (k : Nat) : (levF m n far k).length ≤ 8388608 := by
  cases e : levF m n far k with
  | nil => exact Nat.zero_le _
  | cons r l =>
    have hr : r ∈ lev m n k := levF_lev hf (e ▸ List.mem_cons_self)
    have hne : lev m n k ≠ [] := by intro z; rw [z] at hr; cases hr
    have h1 := lev_top h.pos h.hi hne
    rw [← e]
    exact Nat.le_trans (levF_len m h.hi far k) (Nat.le_trans (Nat.pow_le_pow_right h.lo (by omega)) h.bound.1)
theorem Small.endsF {m : List Nat} {n far : Nat} (h : Small m n) (hf : 1 ≤ far) : levF m n far (16 + m.length) = [] := by
  cases e : levF m n far (16 + m.length) with
  | nil => rfl
  | cons r l =>
    have hr : r ∈ lev m n (16 + m.length) := levF_lev hf (e ▸ List.mem_cons_self)
    rw [h.ends] at hr
    cases hr
theorem exists_topF (m : List Nat) (n far T : Nat) (hT : levF m n far T = []) : ∃ K, K ≤ T ∧ levF m n far K = [] ∧ ∀ j, j < K → levF m n far j ≠ [] := by
  induction T with
  | zero => exact ⟨0, Nat.le_refl _, hT, fun j hj => by omega⟩
  | succ T ih =>
    by_cases e : levF m n far T = []
    · obtain ⟨K, h1, h2, h3⟩ := ih e
      exact ⟨K, by omega, h2, h3⟩
    · refine ⟨T + 1, Nat.le_refl _, hT, fun j hj q => ?_⟩
      exact e (levF_nil q T (by omega))
/-- with one letter apart: the told rows -/
theorem okF_one (m r : List Nat) (c : Nat) : okF m 1 r c = okC m r c := by
  unfold okF okC
  congr 1
  rw [Bool.eq_iff_iff, List.all_eq_true, Bool.not_eq_true', decide_eq_false_iff_not]
  have hl : ∀ o ∈ viewsL r m, (viewL (r ++ [c]) m (r.length + 1 - m.length)).length = o.length := fun o ho => by
    unfold viewsL at ho
    obtain ⟨p, _, rfl⟩ := List.mem_map.mp ho
    rw [viewL_len, viewL_len]
  constructor
  · intro h hm
    have := of_decide_eq_true (h _ hm)
    rw [(unlike_zero rfl).mpr rfl] at this
    omega
  · intro h o ho
    refine decide_eq_true ?_
    rcases Nat.eq_zero_or_pos (unlikeN (viewL (r ++ [c]) m (r.length + 1 - m.length)) o) with z | z
    · have := (unlike_zero (hl o ho)).mp z
      rw [this] at h
      exact absurd ho h
    · exact z
theorem levF_one (m : List Nat) (n : Nat) : ∀ k, levF m n 1 k = lev m n k
  | 0 => rfl
  | k + 1 => by
    show (levF m n 1 k).flatMap (stepFar m n 1) = (lev m n k).flatMap (stepR m n)
    rw [levF_one m n k]
    congr 1
    funext r
    unfold stepFar stepR
    congr 1
    exact List.filter_congr fun c _ => okF_one m r c
def R_wider (ds : List PyData) (d : PyData) : Prop := ∃ (rs : List (List Nat)) (m : List Nat) (n far : Nat), ds = [rowsT m rs, sD m, nn n, nn far] ∧ 1 ≤ n ∧ n ≤ 4 ∧ maskB m = true ∧ (∀ r ∈ rs, r.length ≤ 3000) ∧ rs.length ≤ 16777216 ∧ (nextF m n far rs).length < 16777216 ∧ d = rowsT m (nextF m n far rs)
def R_need_far (ds : List PyData) (d : PyData) : Prop := ∃ (m : List Nat) (n far : Nat), ds = [sD m, nn n, nn far] ∧ Small m n ∧ 1 ≤ far ∧ far ≤ 12 ∧ d = .none
/-- the last level with a row -/
def R_apart_rows (ds : List PyData) (d : PyData) : Prop := ∃ (m : List Nat) (n far K : Nat), ds = [sD m, nn n, nn far] ∧ Small m n ∧ 1 ≤ far ∧ far ≤ 12 ∧ 1 ≤ K ∧ levF m n far K = [] ∧ (∀ j, j < K → levF m n far j ≠ []) ∧ d = wD (levF m n far (K - 1))
def R_longest_apart (ds : List PyData) (d : PyData) : Prop := ∃ (m : List Nat) (n far K : Nat), ds = [sD m, nn n, nn far] ∧ Small m n ∧ 1 ≤ far ∧ far ≤ 12 ∧ 1 ≤ K ∧ levF m n far K = [] ∧ (∀ j, j < K → levF m n far j ≠ []) ∧ d = nn (K - 1)
def R_longest_rows (ds : List PyData) (d : PyData) : Prop := ∃ (m : List Nat) (n : Nat), ds = [sD m, nn n] ∧ Small m n ∧ d = wD (lev m n (topK m n - 1))
def R_lapart (ds : List PyData) (d : PyData) : Prop := ∃ (r m : List Nat) (c far : Nat), ds = [sD (r ++ [c]), sD m, nn far] ∧ r.length ≤ 3000 ∧ (∀ x ∈ r ++ [c], x < 128) ∧ maskB m = true ∧ d = .bool (okF m far r c)
section
variable {X : Cx} {ds : List PyData}
/-- x[:-1] -/
theorem s_listI {z : Int} (e : z = -1) (h : 1 ≤ ds.length) : SlD X (.list ds) none (some z) (.list ds.dropLast) := by
  have h1 := s_list (X := X) (ds := ds) (lo := none) (hi := some z)
  subst e
  have e1 : HT.sIx ds.length ds.length (some (-1)) = ds.length - 1 := by
    unfold HT.sIx
    simp
    omega
  rw [HT.sIx_none, e1, List.drop_zero, Nat.sub_zero] at h1
  rw [List.dropLast_eq_take]
  exact h1
end
theorem views_128 {l m : List Nat} (h : ∀ x ∈ l, x < 128) : ∀ v ∈ viewsL l m, ∀ c ∈ v, c < 128 := by
  intro v hv c hc
  unfold viewsL viewL at hv
  obtain ⟨p, _, rfl⟩ := List.mem_map.mp hv
  obtain ⟨a, _, rfl⟩ := List.mem_map.mp hc
  rw [List.getD_eq_getElem?_getD]
  cases e : l[p + a]? with
  | none => decide
  | some x => exact h x (List.mem_of_getElem? e)
end HW
set_option maxHeartbeats 4000000
namespace HW
open PySem PySem.Spec PyProof.Rows L2
open SX (S)
/-! ### shorter turns -/
theorem wk_n : wk [] [] := trivial
theorem wk_s {a : DV} {as bs : List DV} (h : wk as bs) : wk (a :: as) (a :: bs) := ⟨.inr rfl, h⟩
theorem wk_0 {a : DV} {as bs : List DV} (h : wk as bs) : wk (a :: as) (.no :: bs) := ⟨.inl rfl, h⟩
theorem wk_e {a b : DV} {as bs : List DV} (e : a = b) (h : wk as bs) : wk (a :: as) (b :: bs) := ⟨.inr e.symm, h⟩
/-- a state that has Γ' and μ' -/
def Stt (K : PySem.W.Frag) (W : Wd) (Γ' : List DV) (μ' : Mu) : L2.St → Hp → Prop := StP K W (fun Γ μ => wk Γ Γ' ∧ μ = μ')
section
variable {X : Cx} {W : Wd} {Γ Γ' : List DV} {μ μ' : Mu} {α : Type} {iter : Expr} {a b body rest : List Stmt} {pos p : Pos} {enc : α → PyData} {D : Ends} {n : Str} {c : Expr}
/-- the end of a turn, a branch -/
theorem run_e {rt : VK} {bk ct : L2.St → Hp → Prop} (hm : μ = μ' := by rfl) (w : wk Γ Γ' := by repeat (first | exact wk_n | refine wk_s ?_ | refine wk_0 ?_)) : Run X W Γ μ [] ⟨Stt X.K W Γ' μ', rt, bk, ct⟩ := run_turn rfl ⟨w, hm⟩
/-- .. by continue, break -/
theorem run_w (Γ' : List DV) (h : Run X W Γ' μ rest D) (w : wk Γ Γ' := by repeat (first | exact wk_n | refine wk_s ?_ | refine wk_0 ?_)) : Run X W Γ μ rest D := run_weak h w
/-- for n in iter: before turn i the state is Γ0 i, μ0 i -/
theorem run_forS {xs : List α} (k : Nat) (hi : IterD X W Γ μ (.Name n p) iter enc xs) (Γ0 : Nat → List DV) (μ0 : Nat → Mu)
    (hs : ∀ W1, Wle W W1 → ∀ i x, xs[i]? = some x → Run X W1 ((Γ0 i).set k (.d (enc x))) (μ0 i) body { D with nx := Stt X.K W1 (Γ0 (i + 1)) (μ0 (i + 1)), ct := Stt X.K W1 (Γ0 (i + 1)) (μ0 (i + 1)), bk := wSs X rest D })
    (hd' : Run X W (Γ0 xs.length) (μ0 xs.length) rest D) (hN : X.N.Nodup) (hk : ∀ i, (Γ0 i)[k]? = some .no := by intro _; rfl) (hm : μ = μ0 0 := by first | rfl | (simp; done)) (w : wk Γ (Γ0 0) := by repeat (first | exact wk_n | refine wk_s ?_ | refine wk_0 ?_)) (hn : X.N[k]? = some n := by rfl) (hx : Loc X.env.scope n := by first | exact Or.inl rfl | exact Or.inr rfl) (hff : X.fn n = true ∨ X.env.scope.names.lookup n = some .local := by first | exact .inr rfl | exact .inl rfl)
    (hp : PassesOwn (model X.prog X.w) X.A X.env X.xe := by exact PassesOwn.never) (hc : X.calm = true := by rfl) (hf : ∀ x, foldedSetIterable iter X.env x = pure x := by intro _; rfl) :
    Run X W Γ μ (.For (.Name n p) iter body [] pos :: rest) D :=
  run_for k hi (fun i Γ μ => wk Γ (Γ0 i) ∧ μ = μ0 i) ⟨w, hm⟩ (fun W1 l i x Γ' μ' h ⟨w', e⟩ => by
    subst e
    refine run_weak (hs W1 l i x h) ?_
    exact wk_set w' k) (fun Γ' μ' ⟨w', e⟩ => by
    subst e
    exact run_weak hd' w') hN hn hx hff hp hc hf
where
  wk_set : ∀ {Γ Γ' : List DV}, wk Γ Γ' → ∀ k {d : DV}, wk (Γ.set k d) (Γ'.set k d)
    | [], [], _, _, _ => trivial
    | a :: as, b :: bs, h, 0, d => ⟨.inr rfl, h.2⟩
    | a :: as, b :: bs, h, k + 1, d => ⟨h.1, wk_set h.2 k⟩
theorem run_for2S {xs : List α} {n1 n2 : Str} {p1 p2 tpos : Pos} {kk : Nat} {e1 e2 : α → PyData} (k1 k2 : Nat) (hi : IterD X W Γ μ (.Tuple [.Name n1 p1, .Name n2 p2] kk tpos) iter (fun x => pr2 (e1 x) (e2 x)) xs) (Γ0 : Nat → List DV) (μ0 : Nat → Mu)
    (hs : ∀ W1, Wle W W1 → ∀ i x, xs[i]? = some x → Run X W1 (((Γ0 i).set k1 (.d (e1 x))).set k2 (.d (e2 x))) (μ0 i) body { D with nx := Stt X.K W1 (Γ0 (i + 1)) (μ0 (i + 1)), ct := Stt X.K W1 (Γ0 (i + 1)) (μ0 (i + 1)), bk := wSs X rest D })
    (hd' : Run X W (Γ0 xs.length) (μ0 xs.length) rest D) (hN : X.N.Nodup) (hm : μ = μ0 0 := by first | rfl | (simp; done)) (w : wk Γ (Γ0 0) := by repeat (first | exact wk_n | refine wk_s ?_ | refine wk_0 ?_)) (hn1 : X.N[k1]? = some n1 := by rfl) (hn2 : X.N[k2]? = some n2 := by rfl) (hx1 : Loc X.env.scope n1 := by first | exact Or.inl rfl | exact Or.inr rfl) (hx2 : Loc X.env.scope n2 := by first | exact Or.inl rfl | exact Or.inr rfl)
    (hf1 : X.fn n1 = true ∨ X.env.scope.names.lookup n1 = some .local := by first | exact .inr rfl | exact .inl rfl) (hf2 : X.fn n2 = true ∨ X.env.scope.names.lookup n2 = some .local := by first | exact .inr rfl | exact .inl rfl)
    (hp : PassesOwn (model X.prog X.w) X.A X.env X.xe := by exact PassesOwn.never) (hc : X.calm = true := by rfl) (hf : ∀ x, foldedSetIterable iter X.env x = pure x := by intro _; rfl) :
    Run X W Γ μ (.For (.Tuple [.Name n1 p1, .Name n2 p2] kk tpos) iter body [] pos :: rest) D :=
  run_for2 k1 k2 hi (fun i Γ μ => wk Γ (Γ0 i) ∧ μ = μ0 i) ⟨w, hm⟩ (fun W1 l i x Γ' μ' h ⟨w', e⟩ => by
    subst e
    exact run_weak (hs W1 l i x h) (run_forS.wk_set (run_forS.wk_set w' k1) k2)) (fun Γ' μ' ⟨w', e⟩ => by
    subst e
    exact run_weak hd' w') hN hn1 hn2 hx1 hx2 hf1 hf2 hp hc hf
/-- if, both ways on to one state -/
theorem run_ifS {k : Bool} (Γ1 : List DV) (μ1 : Mu) (hc : EdT X W Γ μ c k) (h1 : k = true → Run X W Γ μ a { D with nx := Stt X.K W Γ1 μ1 }) (h2 : k = false → Run X W Γ μ b { D with nx := Stt X.K W Γ1 μ1 }) (hr : Run X W Γ1 μ1 rest D) : Run X W Γ μ (.If c a b pos :: rest) D :=
  run_ifJ (fun Γ μ => wk Γ Γ1 ∧ μ = μ1) hc h1 h2 fun Γ' μ' ⟨w, e⟩ => by
    subst e
    exact run_weak hr w
/-- while: the state Γ0 m, μ0 m with the measure m, from m to m - 1 -/
theorem run_whileS {c : Expr} (Γ0 : Nat → List DV) (μ0 : Nat → Mu) (B : Nat → Bool) (m0 : Nat) (hc : ∀ W1, Wle W W1 → ∀ m, m ≤ m0 → EdT X W1 (Γ0 m) (μ0 m) c (B m))
    (hs : ∀ W1, Wle W W1 → ∀ m, m + 1 ≤ m0 → B (m + 1) = true → Run X W1 (Γ0 (m + 1)) (μ0 (m + 1)) body { D with nx := Stt X.K W1 (Γ0 m) (μ0 m), ct := Stt X.K W1 (Γ0 m) (μ0 m), bk := wSs X rest D }) (h0 : B 0 = false)
    (hd' : ∀ m, m ≤ m0 → B m = false → Run X W (Γ0 m) (μ0 m) rest D) (hm : μ = μ0 m0 := by rfl) (w : wk Γ (Γ0 m0) := by repeat (first | exact wk_n | refine wk_s ?_ | refine wk_0 ?_)) (hp : PassesOwn (model X.prog X.w) X.A X.env X.xe := by exact PassesOwn.never) :
    Run X W Γ μ (.While c body [] pos :: rest) D :=
  run_while (fun m Γ μ => m ≤ m0 ∧ wk Γ (Γ0 m) ∧ μ = μ0 m) B m0 ⟨Nat.le_refl _, w, hm⟩ (fun W1 l m Γ' μ' ⟨hle, w', e⟩ => by
    subst e
    exact fun σ H R Q q => hc W1 l m hle σ H ⟨R.wd, R.fr, R.sl.weak w', R.mu, R.nd⟩ Q fun H2 R2 x2 => q H2 ⟨R2.wd, R2.fr, R.sl.up x2, R2.mu, R2.nd⟩ x2) (fun W1 l m Γ' μ' hb ⟨hle, w', e⟩ => by
    subst e
    cases m with
    | zero => rw [h0] at hb; cases hb
    | succ m =>
      refine run_weak ((hs W1 l m hle hb).mono ?_ (fun _ _ z => z) (fun _ _ z => z) ?_) w'
      · rintro σ H ⟨Γ2, μ2, ⟨h1, h2⟩, R⟩
        exact ⟨Γ2, μ2, ⟨m, Nat.lt_succ_self _, Nat.le_of_succ_le hle, h1, h2⟩, R⟩
      · rintro σ H ⟨Γ2, μ2, ⟨h1, h2⟩, R⟩
        exact ⟨Γ2, μ2, ⟨m, Nat.lt_succ_self _, Nat.le_of_succ_le hle, h1, h2⟩, R⟩) (fun m Γ' μ' hb ⟨hle, w', e⟩ => by
    subst e
    exact run_weak (hd' m hle hb) w') hp
end
/-! ### len and the like, short -/
section
variable {X : Cx} {W : Wd} {Γ : List DV} {μ : Mu} {a : Expr} {pos p : Pos} {l : List Nat} {ds : List PyData}
theorem lenS (G : Gs X.mg) (h : Ed X W Γ μ a (sD l)) (hl : l.length ≤ 16777216 := by omega) (hg : Gl X "len" := by rfl) (he : starEach [a] X.env = (false, eval a X.env) :: starEach [] X.env := by rfl) : Ed X W Γ μ (.Call (.Name "len" p) [a] [] pos) (nn l.length) := ed_callB G.len boot_len (ea_cons h ea_nil he) (c_lenS hl) hg (he := he)
theorem lenL (G : Gs X.mg) (h : Ed X W Γ μ a (.list ds)) (hg : Gl X "len" := by rfl) (he : starEach [a] X.env = (false, eval a X.env) :: starEach [] X.env := by rfl) : Ed X W Γ μ (.Call (.Name "len" p) [a] [] pos) (nn ds.length) := ed_callB G.len boot_len (ea_cons h ea_nil he) c_lenL hg (he := he)
theorem lenLw {ws : List (List Nat)} (G : Gs X.mg) (h : Ed X W Γ μ a (wD ws)) (hg : Gl X "len" := by rfl) (he : starEach [a] X.env = (false, eval a X.env) :: starEach [] X.env := by rfl) : Ed X W Γ μ (.Call (.Name "len" p) [a] [] pos) (nn ws.length) := (lenL G h hg he).to (by rw [List.length_map])
theorem lenT (G : Gs X.mg) (h : Ed X W Γ μ a (.tuple ds)) (hg : Gl X "len" := by rfl) (he : starEach [a] X.env = (false, eval a X.env) :: starEach [] X.env := by rfl) : Ed X W Γ μ (.Call (.Name "len" p) [a] [] pos) (nn ds.length) := ed_callB G.len boot_len (ea_cons h ea_nil he) c_lenT hg (he := he)
end
end HW
set_option maxHeartbeats 4000000
namespace HW
open PySem PySem.Spec PyProof.Rows L2
open SX (S)
/-! ### what it is to be told -/
theorem nodup_range {α : Type} (f : Nat → α) (n : Nat) : ((List.range n).map f).Nodup ↔ ∀ p q, p < q → q < n → f p ≠ f q := by
  induction n with
  | zero => simp
  | succ n ih =>
    rw [List.range_succ, List.map_append, List.nodup_append, ih]
    constructor
    · rintro ⟨h1, _, h3⟩ p q hpq hq
      by_cases e : q = n
      · subst e
        exact h3 _ (List.mem_map.mpr ⟨p, List.mem_range.mpr hpq, rfl⟩) _ (by simp)
      · exact h1 p q hpq (by omega)
    · intro h
      refine ⟨fun p q hpq hq => h p q hpq (by omega), by simp, fun x hx y hy e => ?_⟩
      obtain ⟨p, hp, rfl⟩ := List.mem_map.mp hx
      have hp' := List.mem_range.mp hp
      have ey : y = f n := by simpa using hy
      subst ey
      exact h p n hp' (Nat.lt_succ_self n) e
theorem seen_get {m : List Nat} {i : Nat} : i ∈ seenL m ↔ i < m.length ∧ m[i]? = some 120 := by rw [← open_seen]; exact open_get
theorem map_ne {α : Type} {f g : Nat → α} {l : List Nat} : l.map f ≠ l.map g ↔ ∃ a ∈ l, f a ≠ g a := by
  constructor
  · intro h
    apply Classical.byContradiction
    intro hn
    refine h (List.map_congr_left fun a ha => ?_)
    apply Classical.byContradiction
    intro h2
    exact hn ⟨a, ha, h2⟩
  · rintro ⟨a, ha, hne⟩ e
    exact hne (List.map_inj_left.mp e a ha)
theorem tells_iff {l m : List Nat} : tellsB l m = true ↔ ∀ p q, p < q → q + m.length ≤ l.length → ∃ a, a < m.length ∧ m[a]? = some 120 ∧ l.getD (p + a) 0 ≠ l.getD (q + a) 0 := by
  unfold tellsB viewsL
  rw [decide_eq_true_iff, nodup_range]
  constructor
  · intro h p q h1 h2
    obtain ⟨a, ha, hne⟩ := map_ne.mp (h p q h1 (by omega))
    obtain ⟨h3, h4⟩ := seen_get.mp ha
    exact ⟨a, h3, h4, hne⟩
  · intro h p q h1 h2
    obtain ⟨a, h3, h4, h5⟩ := h p q h1 (by omega)
    exact map_ne.mpr ⟨a, seen_get.mpr ⟨h3, h4⟩, h5⟩
theorem ring_iff {l m : List Nat} : (ringV l (seenL m)).Nodup ↔ ∀ p q, p < q → q < l.length → ∃ a, a < m.length ∧ m[a]? = some 120 ∧ l.getD ((p + a) % l.length) 0 ≠ l.getD ((q + a) % l.length) 0 := by
  unfold ringV
  rw [nodup_range]
  constructor
  · intro h p q h1 h2
    obtain ⟨a, ha, hne⟩ := map_ne.mp (h p q h1 h2)
    obtain ⟨h3, h4⟩ := seen_get.mp ha
    exact ⟨a, h3, h4, hne⟩
  · intro h p q h1 h2
    obtain ⟨a, h3, h4, h5⟩ := h p q h1 h2
    exact map_ne.mpr ⟨a, seen_get.mpr ⟨h3, h4⟩, h5⟩
theorem getD_rev {l : List Nat} {i : Nat} (h : i < l.length) : l.reverse.getD i 0 = l.getD (l.length - 1 - i) 0 := by
  rw [List.getD_eq_getElem?_getD, List.getD_eq_getElem?_getD, List.getElem?_reverse h]
theorem tells_rev1 {l m : List Nat} (h : tellsB l m = true) : tellsB l.reverse m.reverse = true := by
  rw [tells_iff] at h ⊢
  rw [List.length_reverse, List.length_reverse]
  intro p q h1 h2
  obtain ⟨a, h3, h4, h5⟩ := h (l.length - m.length - q) (l.length - m.length - p) (by omega) (by omega)
  refine ⟨m.length - 1 - a, by omega, ?_, ?_⟩
  · rw [List.getElem?_reverse (by omega)]
    have e : m.length - 1 - (m.length - 1 - a) = a := by omega
    rw [e]
    exact h4
  · rw [getD_rev (by omega), getD_rev (by omega)]
    have e1 : l.length - 1 - (p + (m.length - 1 - a)) = l.length - m.length - p + a := by omega
    have e2 : l.length - 1 - (q + (m.length - 1 - a)) = l.length - m.length - q + a := by omega
    rw [e1, e2]
    exact fun e => h5 e.symm
theorem tells_rev (l m : List Nat) : tellsB l.reverse m.reverse = tellsB l m := by
  rw [Bool.eq_iff_iff]
  refine ⟨fun h => ?_, tells_rev1⟩
  have := tells_rev1 h
  rwa [List.reverse_reverse, List.reverse_reverse] at this
theorem getD_mapL {l : List Nat} {g : Nat → Nat} {i : Nat} (h : i < l.length) : (l.map g).getD i 0 = g (l.getD i 0) := by
  rw [List.getD_eq_getElem?_getD, List.getD_eq_getElem?_getD, List.getElem?_map, List.getElem?_eq_getElem h]
  rfl
theorem getD_memL {l : List Nat} {i : Nat} (h : i < l.length) : l.getD i 0 ∈ l := by
  rw [List.getD_eq_getElem?_getD, List.getElem?_eq_getElem h]
  exact List.getElem_mem h
theorem tells_map {l m : List Nat} {g : Nat → Nat} (hg : ∀ x ∈ l, ∀ y ∈ l, g x = g y → x = y) : tellsB (l.map g) m = tellsB l m := by
  rw [Bool.eq_iff_iff, tells_iff, tells_iff, List.length_map]
  constructor
  · intro h p q h1 h2
    obtain ⟨a, h3, h4, h5⟩ := h p q h1 h2
    rw [getD_mapL (by omega), getD_mapL (by omega)] at h5
    exact ⟨a, h3, h4, fun e => h5 (by rw [e])⟩
  · intro h p q h1 h2
    obtain ⟨a, h3, h4, h5⟩ := h p q h1 h2
    refine ⟨a, h3, h4, ?_⟩
    rw [getD_mapL (by omega), getD_mapL (by omega)]
    exact fun e => h5 (hg _ (getD_memL (by omega)) _ (getD_memL (by omega)) e)
theorem getD_take {l : List Nat} {c i : Nat} (h : i < c) : (l.take c).getD i 0 = l.getD i 0 := by
  rw [List.getD_eq_getElem?_getD, List.getD_eq_getElem?_getD, List.getElem?_take_of_lt h]
theorem getD_drop {l : List Nat} {c i : Nat} : (l.drop c).getD i 0 = l.getD (c + i) 0 := by
  rw [List.getD_eq_getElem?_getD, List.getD_eq_getElem?_getD, List.getElem?_drop]
theorem tells_take {l m : List Nat} (c : Nat) (h : tellsB l m = true) : tellsB (l.take c) m = true := by
  rw [tells_iff] at h ⊢
  intro p q h1 h2
  rw [List.length_take] at h2
  obtain ⟨a, h3, h4, h5⟩ := h p q h1 (by omega)
  refine ⟨a, h3, h4, ?_⟩
  rw [getD_take (by omega), getD_take (by omega)]
  exact h5
theorem tells_drop {l m : List Nat} (c : Nat) (h : tellsB l m = true) : tellsB (l.drop c) m = true := by
  rw [tells_iff] at h ⊢
  intro p q h1 h2
  rw [List.length_drop] at h2
  by_cases hm : c ≤ l.length
  · obtain ⟨a, h3, h4, h5⟩ := h (c + p) (c + q) (by omega) (by omega)
    refine ⟨a, h3, h4, ?_⟩
    rw [getD_drop, getD_drop, ← Nat.add_assoc, ← Nat.add_assoc]
    exact h5
  · omega
theorem tells_more {l m m' : List Nat} (hl : m'.length = m.length) (ho : ∀ a : Nat, m[a]? = some 120 → m'[a]? = some 120) (h : tellsB l m = true) : tellsB l m' = true := by
  rw [tells_iff] at h ⊢
  intro p q h1 h2
  obtain ⟨a, h3, h4, h5⟩ := h p q h1 (by omega)
  exact ⟨a, by omega, ho a h4, h5⟩
theorem ring_tells {l m : List Nat} (hm : 1 ≤ m.length) (h : (ringV l (seenL m)).Nodup) : tellsB l m = true := by
  rw [ring_iff] at h
  rw [tells_iff]
  intro p q h1 h2
  obtain ⟨a, h3, h4, h5⟩ := h p q h1 (by omega)
  rw [Nat.mod_eq_of_lt (by omega), Nat.mod_eq_of_lt (by omega)] at h5
  exact ⟨a, h3, h4, h5⟩

/-! ### distances -/
abbrev gMOST_WRONG (mg : Str → Option Value) : Prop := ∃ t, mg "MOST_WRONG" = some (.int 12 t)
theorem views_small (l m : List Nat) : ∀ v ∈ viewsL l m, v.length ≤ m.length := fun v hv => by
  unfold viewsL at hv
  obtain ⟨p, _, rfl⟩ := List.mem_map.mp hv
  rw [viewL_len]
  exact seenL_len m
def distL (ws : List (List Nat)) : List Nat := (List.range ws.length).flatMap fun o => (List.range o).map fun i => unlikeN (ws.getD i []) (ws.getD o [])
def optN : Option Nat → PyData
  | none => .none
  | some n => nn n
theorem distL_len (ws : List (List Nat)) : (distL ws).length ≤ ws.length * ws.length := by
  have h := flat_len (fun o => (List.range o).map fun i => unlikeN (ws.getD i []) (ws.getD o [])) ws.length (List.range ws.length) (fun o ho => by
    have := List.mem_range.mp ho
    rw [List.length_map, List.length_range]
    omega)
  rw [List.length_range] at h
  exact h
def R_distance_of (ds : List PyData) (d : PyData) : Prop := ∃ ws : List (List Nat), ds = [wD ws] ∧ ws.length ≤ 4000 ∧ (∀ w ∈ ws, w.length ≤ 4000) ∧ d = optN (distL ws).min?
def R_distance (ds : List PyData) (d : PyData) : Prop := ∃ l m : List Nat, ds = [sD l, sD m] ∧ rowB l = true ∧ maskB m = true ∧ d = optN (distL (viewsL l m)).min?
def standsB (l m : List Nat) (a b : Nat) : Bool := match (distL (viewsL l m)).min? with
  | none => true
  | some k => decide (2 * a + b < k)
def R_stands (ds : List PyData) (d : PyData) : Prop := ∃ (l m : List Nat) (a b : Nat), ds = [sD l, sD m, nn a, nn b] ∧ rowB l = true ∧ maskB m = true ∧ a ≤ 12 ∧ b ≤ 12 ∧ d = .bool (standsB l m a b)
theorem stands_zero (l m : List Nat) : standsB l m 0 0 = tellsB l m := by
  have key : tellsB l m = true ↔ ∀ x ∈ distL (viewsL l m), 0 < x := by
    unfold tellsB
    rw [decide_eq_true_iff]
    have hlen : ∀ i, (viewsL l m).getD i [] = [] ∨ ((viewsL l m).getD i []).length = (seenL m).length := fun i => by
      rw [List.getD_eq_getElem?_getD]
      by_cases h : i < (viewsL l m).length
      · rw [List.getElem?_eq_getElem h]
        have hm := List.getElem_mem h
        generalize (viewsL l m)[i] = v at hm
        unfold viewsL at hm
        obtain ⟨p, _, rfl⟩ := List.mem_map.mp hm
        exact .inr (viewL_len _ _ _)
      · rw [List.getElem?_eq_none (by omega)]
        exact .inl rfl
    have e : viewsL l m = (List.range (viewsL l m).length).map fun i => (viewsL l m).getD i [] := by
      apply List.ext_getElem?
      intro i
      rw [List.getElem?_map]
      by_cases h : i < (viewsL l m).length
      · rw [List.getElem?_range h, List.getElem?_eq_getElem h]
        show some _ = some ((viewsL l m).getD i [])
        rw [List.getD_eq_getElem?_getD, List.getElem?_eq_getElem h]
        rfl
      · rw [List.getElem?_eq_none (by omega), List.getElem?_eq_none (by simp; omega)]
        rfl
    rw [e, nodup_range]
    have hl2 : ∀ i, i < (viewsL l m).length → ((viewsL l m).getD i []).length = (seenL m).length := fun i h => by
      have hm := List.getElem_mem h
      rw [List.getD_eq_getElem?_getD, List.getElem?_eq_getElem h]
      show (viewsL l m)[i].length = _
      generalize (viewsL l m)[i] = v at hm
      unfold viewsL at hm
      obtain ⟨p, _, rfl⟩ := List.mem_map.mp hm
      exact viewL_len _ _ _
    constructor
    · intro h x hx
      rw [← e] at hx
      obtain ⟨o, ho, hx⟩ := List.mem_flatMap.mp hx
      obtain ⟨i, hi, rfl⟩ := List.mem_map.mp hx
      have h1 := List.mem_range.mp ho
      have h2 := List.mem_range.mp hi
      have h3 := h i o h2 h1
      rcases Nat.eq_zero_or_pos (unlikeN ((viewsL l m).getD i []) ((viewsL l m).getD o [])) with z | z
      · exact absurd ((unlike_zero (by rw [hl2 i (by omega), hl2 o h1])).mp z) h3
      · exact z
    · intro h p q h1 h2 he
      rw [← e] at h
      have h3 := h (unlikeN ((viewsL l m).getD p []) ((viewsL l m).getD q [])) (List.mem_flatMap.mpr ⟨q, List.mem_range.mpr h2, List.mem_map.mpr ⟨p, List.mem_range.mpr h1, rfl⟩⟩)
      rw [(unlike_zero (by rw [hl2 p (by omega), hl2 q h2])).mpr he] at h3
      omega
  rw [Bool.eq_iff_iff, key]
  unfold standsB
  cases e : (distL (viewsL l m)).min? with
  | none =>
    have : distL (viewsL l m) = [] := List.min?_eq_none_iff.mp e
    rw [this]
    simp
  | some k =>
    obtain ⟨h1, h2⟩ := List.min?_eq_some_iff.mp e
    simp only [Nat.mul_zero, Nat.zero_add, decide_eq_true_eq]
    exact ⟨fun h x hx => Nat.lt_of_lt_of_le h (h2 x hx), fun h => h k h1⟩
end HW
set_option maxHeartbeats 4000000
namespace HW
open PySem PySem.Spec PyProof.Rows L2
open SX (S)
/-! ### methods of texts with one text: find, index, count -/
section
variable {X : Cx} {W : Wd} {Γ : List DV} {μ : Mu} {o e : Expr} {apos pos : Pos} {l : List Nat} {c : Nat}
/-- s.find(sign): -1, or a place of the sign -/
theorem ev_find1 (ho : Ed X W Γ μ o (sD l)) (he : Ed X W Γ μ e (sg c)) (hs : starEach [e] X.env = [(false, eval e X.env)] := by rfl) (hbase : attributeBase o "find" X.env (eval o X.env) = eval o X.env := by rfl) (hline : (apos.endLine == pos.line) = true := by rfl) :
    Ev X W Γ μ (.Call (.Attribute o "find" apos) [e] [] pos) (fun d => d = .int (-1) ∨ ∃ i : Nat, d = nn i ∧ l[i]? = some c) := fun σ H R Q q => by
  refine (pe_m1 PySem.F.slot_str_find PySem.F.type_str_find mt_find wE.pe wE.pe hs hbase hline).w (ho σ H R _ fun v H2 R2 e2 r2 => ?_)
  cases r2
  refine ⟨⟨_, rfl⟩, he σ H2 R2 _ fun v H3 R3 e3 r3 => ?_⟩
  cases r3
  refine ⟨_, _, rfl, rfl, ?_⟩
  unfold Txt.find
  cases h : Builtin.Str.occurrences (S l) (⟨#[c]⟩ : Str) 0 (S l).length 1 with
  | nil => exact q _ _ H3 R3 (e2.trans e3) (.int _) (.inl rfl)
  | cons i rest =>
    have h1 := StrLaws.occ_spec (S l) ⟨#[c]⟩ 0 (S l).length 1 i (by rw [h]; exact List.mem_cons_self)
    have h2 := (StrLaws.subAt_one (S l) c i).mp h1
    exact q _ _ H3 R3 (e2.trans e3) (.int _) (.inr ⟨i, rfl, by simpa [S] using h2⟩)
/-- s.index(sign), its place told -/
theorem ed_index1 {i : Nat} {rest : List Nat} (ho : Ed X W Γ μ o (sD l)) (he : Ed X W Γ μ e (sg c)) (hi : Builtin.Str.occurrences (S l) (⟨#[c]⟩ : Str) 0 (S l).length 1 = i :: rest) (hs : starEach [e] X.env = [(false, eval e X.env)] := by rfl) (hbase : attributeBase o "index" X.env (eval o X.env) = eval o X.env := by rfl) (hline : (apos.endLine == pos.line) = true := by rfl) :
    Ed X W Γ μ (.Call (.Attribute o "index" apos) [e] [] pos) (nn i) := fun σ H R Q q => by
  refine (pe_m1 PySem.F.slot_str_index PySem.F.type_str_index mt_sindex wE.pe wE.pe hs hbase hline).w (ho σ H R _ fun v H2 R2 e2 r2 => ?_)
  cases r2
  refine ⟨⟨_, rfl⟩, he σ H2 R2 _ fun v H3 R3 e3 r3 => ?_⟩
  cases r3
  exact ⟨_, _, i, rest, rfl, rfl, hi, q _ H3 R3 (e2.trans e3) (.int _)⟩
/-- "abcd".index(sign) -/
theorem ed_indexL (ho : Ed X W Γ μ o (sD [97, 98, 99, 100])) (he : Ed X W Γ μ e (sg c)) (h1 : 97 ≤ c) (h2 : c < 101) (hs : starEach [e] X.env = [(false, eval e X.env)] := by rfl) (hbase : attributeBase o "index" X.env (eval o X.env) = eval o X.env := by rfl) (hline : (apos.endLine == pos.line) = true := by rfl) :
    Ed X W Γ μ (.Call (.Attribute o "index" apos) [e] [] pos) (nn (c - 97)) := by
  have hc : c = 97 ∨ c = 98 ∨ c = 99 ∨ c = 100 := by omega
  rcases hc with e | e | e | e
  · subst e; exact ed_index1 (i := 0) (rest := []) ho he (by decide +kernel) hs hbase hline
  · subst e; exact ed_index1 (i := 1) (rest := []) ho he (by decide +kernel) hs hbase hline
  · subst e; exact ed_index1 (i := 2) (rest := []) ho he (by decide +kernel) hs hbase hline
  · subst e; exact ed_index1 (i := 3) (rest := []) ho he (by decide +kernel) hs hbase hline
end
/-! ### turned letters, masks with one place more open -/
def turnL (by_ c : Nat) : Nat := 97 + (c - 97 + by_) % 4
theorem turnL_low {b c : Nat} : 97 ≤ turnL b c ∧ turnL b c < 101 := by
  unfold turnL
  have := Nat.mod_lt (c - 97 + b) (show 4 > 0 by decide)
  omega
theorem turnL_inj {b x y : Nat} (hx : 97 ≤ x ∧ x < 101) (hy : 97 ≤ y ∧ y < 101) (h : turnL b x = turnL b y) : x = y := by
  unfold turnL at h
  omega
theorem rowB_all {l : List Nat} (h : rowB l = true) : ∀ c ∈ l, 97 ≤ c ∧ c < 101 := by
  unfold rowB at h
  simp only [Bool.and_eq_true, decide_eq_true_eq, List.all_eq_true] at h
  intro c hc
  have := h.2 c hc
  simp at this
  omega
theorem rowB_of {l : List Nat} (h1 : l.length ≤ 60) (h2 : ∀ c ∈ l, 97 ≤ c ∧ c < 101) : rowB l = true := low_row h1 h2
theorem rowB_rev {l : List Nat} (h : rowB l = true) : rowB l.reverse = true := rowB_of (by rw [List.length_reverse]; exact rowB_len h) fun c hc => rowB_all h c (List.mem_reverse.mp hc)
theorem rowB_take {l : List Nat} (n : Nat) (h : rowB l = true) : rowB (l.take n) = true := rowB_of (by rw [List.length_take]; have := rowB_len h; omega) fun c hc => rowB_all h c (List.mem_of_mem_take hc)
theorem rowB_drop {l : List Nat} (n : Nat) (h : rowB l = true) : rowB (l.drop n) = true := rowB_of (by rw [List.length_drop]; have := rowB_len h; omega) fun c hc => rowB_all h c (List.mem_of_mem_drop hc)
theorem maskB_iff {m : List Nat} : maskB m = true ↔ 1 ≤ m.length ∧ m.length ≤ 12 ∧ (∀ c ∈ m, c = 120 ∨ c = 46) ∧ m[0]? = some 120 ∧ m.getLast? = some 120 := by
  unfold maskB
  simp only [Bool.and_eq_true, decide_eq_true_eq, List.all_eq_true]
  constructor
  · rintro ⟨⟨⟨⟨h1, h2⟩, h3⟩, h4⟩, h5⟩
    exact ⟨h1, h2, fun c hc => by simpa using h3 c hc, h4, h5⟩
  · rintro ⟨h1, h2, h3, h4, h5⟩
    exact ⟨⟨⟨⟨h1, h2⟩, fun c hc => by simpa using h3 c hc⟩, h4⟩, h5⟩
theorem maskB_rev {m : List Nat} (h : maskB m = true) : maskB m.reverse = true := by
  obtain ⟨h1, h2, h3, h4, h5⟩ := maskB_iff.mp h
  refine maskB_iff.mpr ⟨by rw [List.length_reverse]; exact h1, by rw [List.length_reverse]; exact h2, fun c hc => h3 c (List.mem_reverse.mp hc), ?_, ?_⟩
  · rw [← List.head?_eq_getElem?, List.head?_reverse]; exact h5
  · rw [List.getLast?_reverse, List.head?_eq_getElem?]; exact h4
theorem chgL_get (l : List Nat) (i c a : Nat) (hi : i < l.length) : (chgL l i c)[a]? = if a = i then some c else l[a]? := by
  unfold chgL
  by_cases h : a = i
  · subst h
    rw [if_pos rfl, List.getElem?_append_left (by simp; omega), List.getElem?_append_right (by simp; omega)]
    have : a - (l.take a).length = 0 := by simp; omega
    rw [this]
    rfl
  · rw [if_neg h]
    rcases Nat.lt_or_ge a i with q | q
    · rw [List.getElem?_append_left (by simp; omega), List.getElem?_append_left (by simp; omega), List.getElem?_take_of_lt q]
    · rw [List.getElem?_append_right (by simp; omega)]
      rw [List.getElem?_drop]
      congr 1
      simp
      omega
theorem maskB_open {m : List Nat} {i : Nat} (h : maskB m = true) (hi : m[i]? = some 46) : maskB (chgL m i 120) = true := by
  obtain ⟨h1, h2, h3, h4, h5⟩ := maskB_iff.mp h
  have hlt := (List.getElem?_eq_some_iff.mp hi).1
  have hl := chgL_len m i 120 hlt
  refine maskB_iff.mpr ⟨by omega, by omega, fun c hc => ?_, ?_, ?_⟩
  · obtain ⟨a, ha⟩ := List.mem_iff_getElem?.mp hc
    rw [chgL_get m i 120 a hlt] at ha
    by_cases q : a = i
    · rw [if_pos q] at ha
      exact .inl (Option.some.inj ha).symm
    · rw [if_neg q] at ha
      exact h3 c (List.mem_of_getElem? ha)
  · rw [chgL_get m i 120 0 hlt]
    by_cases q : 0 = i
    · rw [if_pos q]
    · rw [if_neg q]; exact h4
  · rw [List.getLast?_eq_getElem?, hl, chgL_get m i 120 _ hlt]
    by_cases q : m.length - 1 = i
    · rw [if_pos q]
    · rw [if_neg q, ← List.getLast?_eq_getElem?]; exact h5
end HW
set_option maxHeartbeats 4000000
namespace HW
open PySem PySem.Spec PyProof.Rows L2
open SX (S)
open PySem.W (dataLt minD maxD AlikeAll AllAlike Sortable EachIs dataLe alike)
/-! ### the order of data: <, min, max, sorted -/
section
variable {X : Cx} {pins : List (Addr × Obj)} {σ : L2.St} {H : Hp} {s : Shared} {L : List Addr}
theorem va_reads (I : Inv X pins σ H s) {v : V} {u : Value} {d : PyData} (h : Va X.K (off L H) v d) (r : RelV v u) (n : nod d = true) : ∃ as, Reads s.heap u d as := Dp.reads I d v u ((h.up same_off).dp n) r
theorem vaAll_reads (I : Inv X pins σ H s) {vs : List V} {us : List Value} {ds : List PyData} (h : VaAll X.K (off L H) vs ds) (r : Vals vs us) (n : nodAll ds = true) : ∃ as, ReadsAll s.heap us ds as := Dp.readsAll I ds vs us ((h.up same_off).dp n) r
theorem c_ltD {x y : PyData} (hu : X.A.units + 64 < cLine) (ha : alike x y = true) (hn : x ≠ .none) (hd : x.depth ≤ 60) (nx : nod x = true := by rfl) (ny : nod y = true := by rfl) : OpD X (compareOp .Lt) x y (.bool (dataLt x y)) := by
  intro pins s σ H va vb ua ub Q I ra rb ⟨L, _, h1, h2, k⟩
  obtain ⟨as, r1⟩ := va_reads I h1 ra nx
  obtain ⟨bs, r2⟩ := va_reads I h2 rb ny
  refine PySem.W.lt_data r1 r2 ha hn ?_ ⟨.bl _, H, I, rfl, k _ _ (Same.refl _) (.bl _)⟩
  have := Nat.min_le_left x.depth y.depth
  omega
theorem min_mem (x : PyData) : ∀ xs : List PyData, minD x xs ∈ x :: xs := by
  intro xs
  unfold minD
  have key : ∀ (xs : List PyData) (a : PyData) (zs : List PyData), a ∈ zs → (∀ y ∈ xs, y ∈ zs) → xs.foldl (fun a y => if dataLt y a then y else a) a ∈ zs := by
    intro xs
    induction xs with
    | nil => intro a zs h _; exact h
    | cons y ys ih =>
      intro a zs h hs
      rw [List.foldl_cons]
      refine ih _ zs ?_ fun z hz => hs z (List.mem_cons_of_mem _ hz)
      split
      · exact hs y List.mem_cons_self
      · exact h
  exact key xs x _ List.mem_cons_self fun y hy => List.mem_cons_of_mem _ hy
/-- min of a list of alike data -/
theorem c_minD {x : PyData} {xs : List PyData} (hc : X.calm = true) (hu : X.A.units + 64 < cLine) (ha : AlikeAll (x :: xs)) (hd : PyData.depthAll (x :: xs) ≤ 60) (nx : nodAll (x :: xs) = true) : CallD X (.builtin "min") [.list (x :: xs)] (minD x xs) := by
  intro pins s σ H vs us Q I rv ⟨L, hL, hv, k⟩
  cases hv with
  | cons g1 g2 =>
    cases g2
    cases g1 with
    | lst ha' hs =>
      rename_i a ws
      cases rv with
      | cons r1 r2 =>
        cases r2
        cases r1
        obtain ⟨its, rr, pl, hz⟩ := I.list (SqL.of (off_some ha').2)
        obtain ⟨as, hr⟩ := vaAll_reads I hs rr nx
        refine PySem.W.min_list_data (I.ok.hd hc) pl.isList (show ReadsAll s.heap its.toArray.toList (x :: xs) as from hr) ha (by omega) fun i v h' tk bs hi r1 hk => ?_
        have hi' : its[i]? = some v := by simpa using hi
        have hlt : i < ws.length := by
          have := (List.getElem?_eq_some_iff.mp hi').1
          rw [rr.length]
          exact this
        have hwi : ws[i]? = some ws[i] := List.getElem?_eq_getElem hlt
        obtain ⟨u, hu', ru⟩ := rr.get hwi
        rw [hi'] at hu'
        cases hu'
        obtain ⟨d, hd', rd⟩ := hs.get hwi
        have hmem : d ∈ x :: xs := List.mem_of_getElem? hd'
        obtain ⟨cs, r2⟩ := va_reads I rd ru (nodAll_iff.mp nx d hmem)
        have e : d = minD x xs := PySem.W.alike_unique d _ v cs bs (ha.1 _ hmem _ (min_mem x xs)) (PyProof.Rows.Reads.keeps hk r2) r1
        subst e
        have I2 : Inv X pins σ H { s with heap := h', toks := tk } := I.kept hk
        exact ⟨ws[i], H, I2, ru, k _ _ (Same.refl _) rd⟩
end
/-! sorted -/
theorem each_zip {α β : Type} {R : α → β → Prop} : ∀ {as : List α} {bs : List β}, as.length = bs.length → (∀ (i : Nat) (a : α) (b : β), as[i]? = some a → bs[i]? = some b → R a b) → EachIs R as bs
  | [], [], _, _ => .nil
  | a :: as, b :: bs, h, f => .cons (f 0 a b rfl rfl) (each_zip (Nat.succ.inj h) fun i x y hx hy => f (i + 1) x y hx hy)
theorem each_mapV {K : PySem.W.Frag} {H : Hp} : ∀ {out : List Value} {bs : List (V × PyData)}, EachIs (fun u (b : V × PyData) => RelV b.1 u ∧ Va K H b.1 b.2) out bs → Vals (bs.map (·.1)) out ∧ VaAll K H (bs.map (·.1)) (bs.map (·.2))
  | _, _, .nil => ⟨.nil, .nil⟩
  | _, _, .cons h t => by
    obtain ⟨h1, h2⟩ := each_mapV t
    exact ⟨.cons h.1 h1, .cons h.2 h2⟩
section
variable {X : Cx}
/-- the sorted list -/
def sortD (ds : List PyData) : List PyData := ds.mergeSort (dataLe false id)
theorem sortD_len (ds : List PyData) : (sortD ds).length = ds.length := List.length_mergeSort _
/-- sorted(list) -/
theorem c_sortedD {ds : List PyData} (hu : X.A.units + 64 < cLine) (hal : AllAlike ds) (hk : Sortable ds) (hl : ds.length ≤ 16777216) (hd : ∀ d ∈ ds, d.depth ≤ 60) (nx : nodAll ds = true := by exact nodAll_map (fun _ => rfl) _) : CallD X (.builtin "sorted") [.list ds] (.list (sortD ds)) := by
  intro pins s σ H vs us Q I rv ⟨L, hL, hv, k⟩
  cases hv with
  | cons g1 g2 =>
    cases g2
    cases g1 with
    | lst ha' hs =>
      rename_i a ws
      cases rv with
      | cons r1 r2 =>
        cases r2
        cases r1
        obtain ⟨its, rr, pl, hz⟩ := I.list (SqL.of (off_some ha').2)
        have hlen : its.length = (ws.zip ds).length := by rw [List.length_zip, hs.length, ← rr.length, hs.length]; omega
        have e1 : EachIs (fun u (b : V × PyData) => RelV b.1 u ∧ Va X.K (off L H) b.1 b.2) its (ws.zip ds) := by
          refine each_zip hlen fun i u b hu hb => ?_
          obtain ⟨hb1, hb2⟩ := List.getElem?_zip_eq_some.mp hb
          obtain ⟨u', hu', ru⟩ := rr.get hb1
          rw [hu] at hu'
          cases hu'
          obtain ⟨d, hd', rd⟩ := hs.get hb1
          rw [hb2] at hd'
          cases hd'
          exact ⟨ru, rd⟩
        have e2 : EachIs (fun u (b : V × PyData) => ∃ as, Reads s.heap u b.2 as) its (ws.zip ds) := by
          refine each_zip hlen fun i u b hu hb => ?_
          obtain ⟨hb1, hb2⟩ := List.getElem?_zip_eq_some.mp hb
          obtain ⟨u', hu', ru⟩ := rr.get hb1
          rw [hu] at hu'
          cases hu'
          obtain ⟨d, hd', rd⟩ := hs.get hb1
          rw [hb2] at hd'
          cases hd'
          exact va_reads I rd ru (nodAll_iff.mp nx _ (List.mem_of_getElem? hb2))
        have hm : (ws.zip ds).map (·.2) = ds := List.map_snd_zip (by rw [hs.length]; exact Nat.le_refl _)
        refine PySem.W.sorted_data (bs := ws.zip ds) (enc := fun b => b.2) pl.isList e1 e2 (by rw [hm]; exact hal) (by rw [hm]; exact hk) (by rw [← hlen, ← rr.length, sizeLine_eq]; rw [hs.length]; exact hl) (fun b hb => by
          have := hd b.2 (by rw [← hm]; exact List.mem_map.mpr ⟨b, hb, rfl⟩)
          omega) fun out ho eo => ?_
        obtain ⟨v1, v2⟩ := each_mapV eo
        obtain ⟨c, hc⟩ := PyProof.Rows.sortedAll_at s.heap its out.toArray
        have hn : H (s.heap.objs.size + 1) = none := I.hok.fresh (Nat.le_succ _)
        have I2 : Inv X pins σ (upd H (s.heap.objs.size + 1) (.lst (((ws.zip ds).mergeSort (dataLe false fun b => b.2)).map (·.1)))) { s with heap := PyProof.Rows.sortedAll s.heap its out.toArray, toks := s.toks } := by
          refine I.laid (t' := s.toks) (fun _ _ q => PyProof.Rows.sortedAll_old q) (Nat.le_succ _) ⟨?_, out, c, v1, hc⟩
          rw [List.length_map, List.length_mergeSort, ← hlen, ← rr.length]
          exact hz
        refine ⟨.ref (s.heap.objs.size + 1), _, I2, rfl, k _ _ (same_new hn) (.lst (off_upd (new_out hL hn)) ?_)⟩
        have em : ((ws.zip ds).mergeSort (dataLe false fun b => b.2)).map (·.2) = sortD ds := by
          unfold sortD
          conv => rhs; rw [← hm]
          rw [List.map_mergeSort]
          intro a _ b _
          rfl
        rw [em] at v2
        exact v2.up (XT.same (same_new hn))
end
/-! texts: the order is that of their signs -/
def minW (a : List Nat) (l : List (List Nat)) : List Nat := l.foldl (fun a y => if y < a then y else a) a
theorem ltS (a b : List Nat) : dataLt (sD a) (sD b) = decide (a < b) := by
  rw [PySem.W.dataLt_str]
theorem minD_S (a : List Nat) (l : List (List Nat)) : minD (sD a) (l.map sD) = sD (minW a l) := by
  unfold minD minW
  induction l generalizing a with
  | nil => rfl
  | cons y l ih =>
    rw [List.map_cons, List.foldl_cons, List.foldl_cons, ltS]
    by_cases h : y < a
    · rw [if_pos (decide_eq_true h), if_pos h]
      exact ih y
    · rw [if_neg (by simpa using h), if_neg h]
      exact ih a
theorem alike_S {ws : List (List Nat)} : AlikeAll (ws.map sD) := ⟨fun x hx y hy => by
  obtain ⟨a, _, rfl⟩ := List.mem_map.mp hx
  obtain ⟨b, _, rfl⟩ := List.mem_map.mp hy
  simp only [alike], fun x hx => by
  obtain ⟨a, _, rfl⟩ := List.mem_map.mp hx
  intro e
  cases e⟩
theorem depth_S : ∀ ws : List (List Nat), PyData.depthAll (ws.map sD) = 0
  | [] => rfl
  | w :: ws => by
    rw [List.map_cons, PyData.depthAll, depth_S ws]
    rfl
theorem c_minS {X : Cx} {a : List Nat} {l : List (List Nat)} (hc : X.calm = true) (hu : X.A.units + 64 < cLine) : CallD X (.builtin "min") [wD (a :: l)] (sD (minW a l)) := by
  have h := c_minD (X := X) (x := sD a) (xs := l.map sD) hc hu (alike_S (ws := a :: l)) (by have := depth_S (a :: l); rw [List.map_cons] at this; omega) (nodAll_map (f := sD) (fun _ => rfl) (a :: l))
  rw [minD_S] at h
  exact h
end HW
set_option maxHeartbeats 4000000
namespace HW
open PySem PySem.Spec PyProof.Rows L2
open SX (S)
/-! ### turns that carry a fact -/
def SttP (K : PySem.W.Frag) (W : Wd) (Γ' : List DV) (μ' : Mu) (p : Prop) : L2.St → Hp → Prop := StP K W (fun Γ μ => wk Γ Γ' ∧ μ = μ' ∧ p)
section
variable {X : Cx} {W : Wd} {Γ Γ' : List DV} {μ μ' : Mu} {α : Type} {iter a b : Expr} {body rest : List Stmt} {pos p : Pos} {enc : α → PyData} {D : Ends} {n : Str} {c : Expr}
theorem run_eP {q : Prop} {rt : VK} {bk ct : L2.St → Hp → Prop} (hq : q) (hm : μ = μ' := by rfl) (w : wk Γ Γ' := by repeat (first | exact wk_n | refine wk_s ?_ | refine wk_0 ?_)) : Run X W Γ μ [] ⟨SttP X.K W Γ' μ' q, rt, bk, ct⟩ := run_turn rfl ⟨w, hm, hq⟩
theorem run_forP {xs : List α} (k : Nat) (hi : IterD X W Γ μ (.Name n p) iter enc xs) (Γ0 : Nat → List DV) (μ0 : Nat → Mu) (Pf : Nat → Prop) (h0 : Pf 0)
    (hs : ∀ W1, Wle W W1 → ∀ i x, xs[i]? = some x → Pf i → Run X W1 ((Γ0 i).set k (.d (enc x))) (μ0 i) body { D with nx := SttP X.K W1 (Γ0 (i + 1)) (μ0 (i + 1)) (Pf (i + 1)), ct := SttP X.K W1 (Γ0 (i + 1)) (μ0 (i + 1)) (Pf (i + 1)), bk := wSs X rest D })
    (hd' : Pf xs.length → Run X W (Γ0 xs.length) (μ0 xs.length) rest D) (hN : X.N.Nodup) (hm : μ = μ0 0 := by first | rfl | (simp; done)) (w : wk Γ (Γ0 0) := by repeat (first | exact wk_n | refine wk_s ?_ | refine wk_0 ?_)) (hn : X.N[k]? = some n := by rfl) (hx : Loc X.env.scope n := by first | exact Or.inl rfl | exact Or.inr rfl) (hff : X.fn n = true ∨ X.env.scope.names.lookup n = some .local := by first | exact .inr rfl | exact .inl rfl)
    (hp : PassesOwn (model X.prog X.w) X.A X.env X.xe := by exact PassesOwn.never) (hc : X.calm = true := by rfl) (hf : ∀ x, foldedSetIterable iter X.env x = pure x := by intro _; rfl) :
    Run X W Γ μ (.For (.Name n p) iter body [] pos :: rest) D :=
  run_for k hi (fun i Γ μ => wk Γ (Γ0 i) ∧ μ = μ0 i ∧ Pf i) ⟨w, hm, h0⟩ (fun W1 l i x Γ' μ' h ⟨w', e, q⟩ => by
    subst e
    exact run_weak (hs W1 l i x h q) (run_forS.wk_set w' k)) (fun Γ' μ' ⟨w', e, q⟩ => by
    subst e
    exact run_weak (hd' q) w') hN hn hx hff hp hc hf
/-- range(a, b, -1) -/
theorem it_rangeD {lo hi : Int} {m : Nat} {tg a b : Expr} {j1 : Nat} {p1 p2 : Pos} (h1 : Ed X W Γ μ a (.int hi)) (h2 : Ed X W Γ μ b (.int lo)) (hm : X.mg "range" = none) (em : (hi - lo).toNat = m := by omega) (hz : (-1000000000 ≤ lo ∧ lo ≤ 1000000000) ∧ -1000000000 ≤ hi ∧ hi ≤ 1000000000 := by omega) (hg : Gl X "range" := by rfl)
    (hs : starEach [a, b, .UnaryOp .USub (.Constant (.int 1) j1 p1) p2] X.env = (false, eval a X.env) :: starEach [b, .UnaryOp .USub (.Constant (.int 1) j1 p1) p2] X.env := by rfl) (hs2 : starEach [b, .UnaryOp .USub (.Constant (.int 1) j1 p1) p2] X.env = (false, eval b X.env) :: starEach [.UnaryOp .USub (.Constant (.int 1) j1 p1) p2] X.env := by rfl)
    (hs3 : starEach [.UnaryOp .USub (.Constant (.int 1) j1 p1) p2] X.env = (false, eval (.UnaryOp .USub (.Constant (.int 1) j1 p1) p2) X.env) :: starEach [] X.env := by rfl) (hpl : (backTo pos (starEach [b, .UnaryOp .USub (.Constant (.int 1) j1 p1) p2] X.env)).any (·.1) = false := by rfl) :
    IterD X W Γ μ tg (.Call (.Name "range" p) [a, b, .UnaryOp .USub (.Constant (.int 1) j1 p1) p2] [] pos) (fun i : Nat => PyData.int (hi - (i : Int))) (List.range m) := ⟨_, pi_range3 hg hm wA.pa hs hpl, fun σ H R R' k => (ea_cons h1 (ea_cons h2 (ea_cons (ed_neg ed_int) ea_nil hs3) hs2) hs) σ H R _ fun vs H1 R1 e1 r => by
  cases r with
  | cons r rr =>
    cases rr with
    | cons r2 rr =>
      cases rr with
      | cons r3 rr =>
        cases rr
        cases r
        cases r2
        cases r3
        refine ⟨hi, lo, -1, (hi - lo).toNat, rfl, RgC.neg (by omega) (by omega) (by omega) (by omega), ?_⟩
        rw [em]
        refine k _ _ H1 rfl R1 e1 ⟨fun i H hi' s => ?_, fun i d H v H' L hd _ s y => ?_, fun H s => ?_⟩
        · show i < m
          simpa using hi'
        · obtain ⟨rfl, rfl⟩ := y
          refine ⟨Same.refl _, ?_⟩
          rw [List.getElem?_map] at hd
          obtain ⟨j, hj, rfl⟩ := Option.map_eq_some_iff.mp hd
          have hl : i < m := by
            have := (List.getElem?_eq_some_iff.mp hj).1
            simpa using this
          rw [List.getElem?_range hl] at hj
          cases hj
          have e : hi + (i : Int) * (-1) = hi - (i : Int) := by omega
          rw [e]
          exact .int _
        · show m ≤ _
          simp⟩
end
/-! ### rings -/
def rots (r : List Nat) : List (List Nat) := (List.range r.length).map fun a => r.drop a ++ r.take a
def minR (r : List Nat) : List Nat := minW ((rots r).headD []) (rots r).tail
def ringOk (m r : List Nat) : Bool := decide (ringV r (seenL m)).Nodup && decide (r = minR r)
def ringsL (m : List Nat) (n L : Nat) : List (List Nat) := (lev m n L).filter (ringOk m)
theorem c_minSL {X : Cx} {ws : List (List Nat)} (hc : X.calm = true) (hu : X.A.units + 64 < cLine) (h : ws ≠ []) : CallD X (.builtin "min") [wD ws] (sD (minW (ws.headD []) ws.tail)) := by
  cases ws with
  | nil => exact absurd rfl h
  | cons a l => exact c_minS hc hu
theorem words_lev {m : List Nat} {n : Nat} (hm : 1 ≤ m.length) : ∀ k, (words n k).filter (fun r => tellsB r m) = lev m n k
  | 0 => by
    have : tellsB [] m = true := by
      unfold tellsB viewsL
      have : ([] : List Nat).length + 1 - m.length = 0 := by simp; omega
      rw [this]
      rfl
    simp [words, lev, this]
  | k + 1 => by
    show ((words n k).flatMap fun v => (letL n).map fun c => v ++ [c]).filter _ = (lev m n k).flatMap (stepR m n)
    rw [← words_lev hm k]
    generalize words n k = ws
    induction ws with
    | nil => rfl
    | cons v ws ih =>
      rw [List.flatMap_cons, List.filter_append, ih]
      by_cases ht : tellsB v m = true
      · rw [List.filter_cons_of_pos (p := fun r => tellsB r m) ht, List.flatMap_cons]
        congr 1
        unfold stepR
        rw [List.filter_map]
        congr 1
        refine List.filter_congr fun c _ => ?_
        show tellsB (v ++ [c]) m = okC m v c
        rw [tells_snoc v m c hm, ht, Bool.true_and]
      · rw [List.filter_cons_of_neg (p := fun r => tellsB r m) ht]
        have e : ((letL n).map fun c => v ++ [c]).filter (fun r => tellsB r m) = [] := by
          rw [List.filter_eq_nil_iff]
          intro r hr
          obtain ⟨c, _, rfl⟩ := List.mem_map.mp hr
          rw [tells_snoc v m c hm]
          simp [ht]
        rw [e, List.nil_append]
theorem ring_told {m r : List Nat} (hm : 1 ≤ m.length) (h : ringOk m r = true) : tellsB r m = true := by
  unfold ringOk at h
  rw [Bool.and_eq_true, decide_eq_true_iff] at h
  exact ring_tells hm h.1
theorem words_rings {m : List Nat} {n : Nat} (hm : 1 ≤ m.length) (k : Nat) : (words n k).filter (ringOk m) = ringsL m n k := by
  unfold ringsL
  rw [← words_lev hm k, List.filter_filter]
  refine List.filter_congr fun r _ => ?_
  cases h : ringOk m r with
  | false => rfl
  | true => rw [ring_told hm h]; rfl
theorem mem_words_iff {n : Nat} (hn : n ≤ 4) : ∀ {s : Nat} {v : List Nat}, v ∈ words n s → v.length = s ∧ lowL n v
  | 0, v, h => by
    have e : v = [] := by simpa [words] using h
    subst e
    exact ⟨rfl, fun c hc => nomatch hc⟩
  | s + 1, v, h => by
    obtain ⟨u, hu, hv⟩ := List.mem_flatMap.mp h
    obtain ⟨c, hc, rfl⟩ := List.mem_map.mp hv
    obtain ⟨h1, h2⟩ := mem_words_iff hn hu
    refine ⟨by simp [h1], fun x hx => ?_⟩
    rcases List.mem_append.mp hx with z | z
    · exact h2 x z
    · rw [List.mem_singleton.mp z]
      exact (mem_letL hn).mp hc
theorem mem_rings {m : List Nat} {n L : Nat} (hm : 1 ≤ m.length) (hn : n ≤ 4) {r : List Nat} (h : r ∈ ringsL m n L) : r.length = L ∧ lowL n r ∧ (ringV r (seenL m)).Nodup ∧ r = minR r := by
  obtain ⟨h1, h2⟩ := List.mem_filter.mp h
  obtain ⟨g1, g2, _⟩ := (mem_lev hm hn).mp h1
  unfold ringOk at h2
  rw [Bool.and_eq_true, decide_eq_true_iff, decide_eq_true_iff] at h2
  exact ⟨g1, g2, h2.1, h2.2⟩
theorem ring_one {m : List Nat} {n : Nat} (hs : Small m n) : ringsL m n 1 ≠ [] := by
  have h : [97] ∈ ringsL m n 1 := by
    rw [← words_rings hs.pos]
    refine List.mem_filter.mpr ⟨mem_words hs.hi rfl fun c hc => ?_, ?_⟩
    · rw [List.mem_singleton.mp hc]
      have := hs.lo
      omega
    · unfold ringOk
      rw [Bool.and_eq_true]
      constructor
      · refine decide_eq_true ?_
        rw [ring_iff]
        intro p q h1 h2
        simp at h2
        omega
      · decide
  intro e
  rw [e] at h
  cases h
theorem Small.power {m : List Nat} {n : Nat} (h : Small m n) : 1 ≤ n ^ (seenL m).length ∧ n ^ (seenL m).length ≤ 16 := ⟨Nat.one_le_pow _ _ h.lo, h.bound.2⟩
theorem Small.words {m : List Nat} {n k : Nat} (h : Small m n) (hk : k ≤ n ^ (seenL m).length) : (words n k).length ≤ 8388608 := by
  have h1 := h.pos
  exact Nat.le_trans (words_len h.hi k) (Nat.le_trans (Nat.pow_le_pow_right h.lo (by omega)) h.bound.1)
/-- the greatest length with a ring -/
theorem Small.ring {m : List Nat} {n : Nat} (h : Small m n) : ∃ T, 1 ≤ T ∧ T ≤ n ^ (seenL m).length ∧ ringsL m n T ≠ [] ∧ ∀ L, T < L → L ≤ n ^ (seenL m).length → ringsL m n L = [] := by
  have key : ∀ N, 1 ≤ N → ∃ T, 1 ≤ T ∧ T ≤ N ∧ ringsL m n T ≠ [] ∧ ∀ L, T < L → L ≤ N → ringsL m n L = [] := by
    intro N
    induction N with
    | zero => intro h; omega
    | succ N ih =>
      intro h1
      by_cases e : ringsL m n (N + 1) = []
      · rcases Nat.eq_zero_or_pos N with z | z
        · subst z
          exact absurd e (ring_one h)
        · obtain ⟨T, a1, a2, a3, a4⟩ := ih z
          refine ⟨T, a1, by omega, a3, fun L l1 l2 => ?_⟩
          by_cases q : L = N + 1
          · subst q; exact e
          · exact a4 L l1 (by omega)
      · exact ⟨N + 1, h1, Nat.le_refl _, e, fun L l1 l2 => by omega⟩
  exact key _ h.power.1
def R_power (ds : List PyData) (d : PyData) : Prop := ∃ b n : Nat, ds = [nn b, nn n] ∧ b ≤ 4 ∧ n ≤ 12 ∧ d = nn (b ^ n)
def R_all_rings (ds : List PyData) (d : PyData) : Prop := ∃ (m : List Nat) (n L : Nat), ds = [sD m, nn n, nn L] ∧ Small m n ∧ 1 ≤ L ∧ L ≤ 16 ∧ d = wD (ringsL m n L)
def R_full_rings (ds : List PyData) (d : PyData) : Prop := ∃ (m : List Nat) (n : Nat), ds = [sD m, nn n] ∧ Small m n ∧ d = wD (ringsL m n (n ^ (seenL m).length))
def R_longest_ring (ds : List PyData) (d : PyData) : Prop := ∃ (m : List Nat) (n T : Nat), ds = [sD m, nn n] ∧ Small m n ∧ 1 ≤ T ∧ T ≤ n ^ (seenL m).length ∧ ringsL m n T ≠ [] ∧ (∀ L, T < L → L ≤ n ^ (seenL m).length → ringsL m n L = []) ∧ d = sD ((ringsL m n T).headD [])
def R_lrings (ds : List PyData) (d : PyData) : Prop := ∃ (m : List Nat) (n L : Nat), ds = [sD m, sD (letL n), nn L] ∧ Small m n ∧ 1 ≤ L ∧ L ≤ n ^ (seenL m).length ∧ d = wD (ringsL m n L)
theorem rots_ne {r : List Nat} (h : 1 ≤ r.length) : rots r ≠ [] := by
  intro e
  have h2 : (rots r).length = r.length := by simp [rots]
  rw [e] at h2
  simp at h2
  omega
end HW
set_option maxHeartbeats 4000000
namespace HW
open PySem PySem.Spec PyProof.Rows L2
open SX (S)
open PySem.W (dataLt minD maxD AlikeAll AllAlike Sortable EachIs dataLe alike)
/-! ### pairs (number, text) in order -/
abbrev prD (q : Nat × List Nat) : PyData := pr2 (nn q.1) (sD q.2)
def pLt (a b : Nat × List Nat) : Bool := decide (a.1 < b.1) || (decide (a.1 = b.1) && decide (a.2 < b.2))
theorem alike_pr (a b : Nat × List Nat) : alike (prD a) (prD b) = true := by simp [alike, PySem.W.alikeAll]
theorem eqv_S (a b : List Nat) : PyData.eqv (sD a) (sD b) = decide (a = b) := by
  show (S a == S b) = _
  rw [SX.S_beq_eq]
theorem lt_pr (a b : Nat × List Nat) : dataLt (prD a) (prD b) = pLt a b := by
  rw [PySem.W.dataLt_pair (by simp [alike]) (by simp [alike]), PySem.W.dataLt_int, ltS, eqv_S]
  have e : PyData.eqv (nn a.1) (nn b.1) = decide (a.1 = b.1) := by
    show ((a.1 : Int) == (b.1 : Int)) = _
    rw [Bool.eq_iff_iff, beq_iff_eq, decide_eq_true_iff]
    omega
  rw [e]
  unfold pLt
  by_cases h : a.1 = b.1
  · rw [if_pos (decide_eq_true h), decide_eq_true h, decide_eq_false (by omega : ¬ a.1 < b.1)]
    by_cases h2 : a.2 = b.2
    · rw [if_pos (decide_eq_true h2), h2]
      have : ¬ b.2 < b.2 := List.lt_irrefl _
      simp [this]
    · rw [if_neg (by simpa using h2)]
      simp
  · rw [if_neg (by simpa using h), decide_eq_false h, Bool.false_and, Bool.or_false]
    exact decide_eq_decide.mpr (by omega)
def minP (a : Nat × List Nat) (l : List (Nat × List Nat)) : Nat × List Nat := l.foldl (fun a y => if pLt y a = true then y else a) a
theorem minD_P (a : Nat × List Nat) (l : List (Nat × List Nat)) : minD (prD a) (l.map prD) = prD (minP a l) := by
  unfold minD minP
  induction l generalizing a with
  | nil => rfl
  | cons y l ih =>
    rw [List.map_cons, List.foldl_cons, List.foldl_cons, lt_pr]
    cases h : pLt y a with
    | true => exact ih y
    | false => exact ih a
theorem pLt_irrefl (a : Nat × List Nat) : pLt a a = false := by
  unfold pLt
  have : ¬ a.2 < a.2 := List.lt_irrefl _
  simp [this]
theorem pLt_trans {a b c : Nat × List Nat} (h1 : pLt a b = true) (h2 : pLt b c = true) : pLt a c = true := by
  unfold pLt at h1 h2 ⊢
  simp only [Bool.or_eq_true, Bool.and_eq_true, decide_eq_true_eq] at h1 h2 ⊢
  rcases h1 with h1 | ⟨h1, h1'⟩ <;> rcases h2 with h2 | ⟨h2, h2'⟩
  · exact .inl (by omega)
  · exact .inl (by omega)
  · exact .inl (by omega)
  · exact .inr ⟨by omega, List.lt_trans h1' h2'⟩
theorem pLt_total {a b : Nat × List Nat} (h1 : pLt a b = false) (h2 : pLt b a = false) : a = b := by
  unfold pLt at h1 h2
  simp only [Bool.or_eq_false_iff, Bool.and_eq_false_iff, decide_eq_false_iff_not] at h1 h2
  have e : a.1 = b.1 := by omega
  have h3 : ¬ a.2 < b.2 := h1.2.elim (fun z => absurd e z) id
  have h4 : ¬ b.2 < a.2 := h2.2.elim (fun z => absurd e.symm z) id
  exact Prod.ext e (List.le_antisymm (List.not_lt.mp h4) (List.not_lt.mp h3))
/-- the least one: it is there, none is less -/
theorem minP_spec : ∀ (l : List (Nat × List Nat)) (a : Nat × List Nat), minP a l ∈ a :: l ∧ ∀ y ∈ a :: l, pLt y (minP a l) = false := by
  intro l
  induction l with
  | nil =>
    intro a
    refine ⟨List.mem_cons_self, fun y hy => ?_⟩
    have : y = a := by simpa using hy
    subst this
    exact pLt_irrefl y
  | cons z l ih =>
    intro a
    show minP (if pLt z a = true then z else a) l ∈ _ ∧ ∀ y ∈ _, pLt y (minP (if pLt z a = true then z else a) l) = false
    cases h : pLt z a with
    | true =>
      rw [if_pos rfl]
      obtain ⟨h1, h2⟩ := ih z
      refine ⟨List.mem_cons_of_mem _ h1, fun y hy => ?_⟩
      rcases List.mem_cons.mp hy with e | hy
      · subst e
        cases q : pLt y (minP z l) with
        | false => rfl
        | true =>
          have := pLt_trans h q
          rw [h2 z List.mem_cons_self] at this
          cases this
      · exact h2 y hy
    | false =>
      rw [if_neg Bool.false_ne_true]
      obtain ⟨h1, h2⟩ := ih a
      refine ⟨?_, fun y hy => ?_⟩
      · rcases List.mem_cons.mp h1 with e | e
        · rw [e]; exact List.mem_cons_self
        · exact List.mem_cons_of_mem _ (List.mem_cons_of_mem _ e)
      · rcases List.mem_cons.mp hy with e | hy
        · subst e; exact h2 _ List.mem_cons_self
        · rcases List.mem_cons.mp hy with e | hy
          · subst e
            cases q : pLt y (minP a l) with
            | false => rfl
            | true =>
              cases q2 : pLt a y with
              | true =>
                have := pLt_trans q2 q
                rw [h2 a List.mem_cons_self] at this
                cases this
              | false =>
                have e := pLt_total h q2
                rw [e, h2 a List.mem_cons_self] at q
                cases q
          · exact h2 y (List.mem_cons_of_mem _ hy)
section
variable {X : Cx}
theorem alikeP (ps : List (Nat × List Nat)) : AlikeAll (ps.map prD) := ⟨fun x hx y hy => by
  obtain ⟨a, _, rfl⟩ := List.mem_map.mp hx
  obtain ⟨b, _, rfl⟩ := List.mem_map.mp hy
  exact alike_pr a b, fun x hx => by
  obtain ⟨a, _, rfl⟩ := List.mem_map.mp hx
  intro e
  cases e⟩
theorem depthP : ∀ ps : List (Nat × List Nat), PyData.depthAll (ps.map prD) ≤ 1
  | [] => Nat.zero_le _
  | q :: ps => by
    rw [List.map_cons, PyData.depthAll]
    exact Nat.max_le.mpr ⟨by simp [PyData.depth, PyData.depthAll], depthP ps⟩
theorem c_minP {a : Nat × List Nat} {l : List (Nat × List Nat)} (hc : X.calm = true) (hu : X.A.units + 64 < cLine) : CallD X (.builtin "min") [.list (prD a :: l.map prD)] (prD (minP a l)) := by
  have h := c_minD (X := X) (x := prD a) (xs := l.map prD) hc hu (alikeP (a :: l)) (by have := depthP (a :: l); rw [List.map_cons] at this; omega) (nodAll_map (f := prD) (fun _ => rfl) (a :: l))
  rw [minD_P] at h
  exact h
theorem c_ltP {a b : Nat × List Nat} (hu : X.A.units + 64 < cLine) : OpD X (compareOp .Lt) (prD a) (prD b) (.bool (pLt a b)) := by
  have h := c_ltD (X := X) (x := prD a) (y := prD b) hu (alike_pr a b) (fun e => by cases e) (by simp [PyData.depth, PyData.depthAll])
  rw [lt_pr] at h
  exact h
end
/-! ### "".join of signs that are drawn -/
section
variable {X : Cx} {W : Wd} {Γ : List DV} {μ : Mu} {α : Type} {iter elt o : Expr} {scope : Scope} {pos pos2 apos p : Pos} {enc : α → PyData} {n : Str} {P : List α → Prop} {Q : Nat → Prop}
theorem ev_joinN (k : Nat) (ho : Ed X W Γ μ o (.str (S []))) (hi : IterV X W Γ μ (.Name n p) iter enc P) (hz : ∀ xs, P xs → xs.length ≤ 100000)
    (he : ∀ xs, P xs → ∀ x ∈ xs, ∀ W1, Wle W W1 → ∀ s H C cl fp, Ev (blkOf X scope s H C cl fp) W1 ((wipeD [k] Γ).set k (.d (enc x))) μ elt (fun z => ∃ c, z = sg c ∧ Q c)) (hN : X.N.Nodup) (hn : X.N[k]? = some n := by rfl)
    (hv : ∀ s H C cl fp, Loc (blkOf X scope s H C cl fp).env.scope n := by intro _ _ _ _ _; first | exact Or.inl rfl | exact Or.inr rfl) (hf : ∀ s H C cl fp, (blkOf X scope s H C cl fp).fn n = true ∨ (blkOf X scope s H C cl fp).env.scope.names.lookup n = some .local := by intro _ _ _ _ _; first | exact .inr rfl | exact .inl rfl) (hb : BlkOk X.N X.env.scope scope [(n, k)] := by exact blkOk_by (by kernel_rfl))
    (hc : X.calm = true := by rfl) (hfs : ∀ x, foldedSetIterable iter X.env x = pure x := by intro _; rfl)
    (hs : starEach [.ListComp elt [⟨.Name n p, iter, [], 0⟩] scope pos2] X.env = [(false, eval (.ListComp elt [⟨.Name n p, iter, [], 0⟩] scope pos2) X.env)] := by rfl) (hbase : attributeBase o "join" X.env (eval o X.env) = eval o X.env := by rfl) (hline : (apos.endLine == pos.line) = true := by rfl) :
    Ev X W Γ μ (.Call (.Attribute o "join" apos) [.ListComp elt [⟨.Name n p, iter, [], 0⟩] scope pos2] [] pos) (fun d => ∃ cs : List Nat, d = sD cs ∧ (∀ c ∈ cs, Q c) ∧ ∃ xs, P xs ∧ cs.length = xs.length) := by
  have h := (lcNV (E := fun _ z => ∃ c, z = sg c ∧ Q c) (elt := elt) (scope := scope) k hi (fun xs px => Nat.le_trans (hz xs px) (by decide)) he hN hn hv hf hb).ev (pos := pos2) hN hc hfs
  refine ev_joinC (Ws := fun cs => (∀ c ∈ cs, Q c) ∧ ∃ xs, P xs ∧ cs.length = xs.length) ho (h.imp fun d ⟨ys, e, xs, px, hp⟩ => ?_) (fun cs ⟨_, xs, px, e⟩ => by have := hz xs px; omega) hs hbase hline
  obtain ⟨cs, e2, h3⟩ := paired_sg hp
  refine ⟨cs, by rw [e, e2], h3, xs, px, ?_⟩
  have := plen hp
  rw [e2, List.length_map] at this
  exact this.symm
/-- "ab"[draw] and the like -/
theorem ev_sgn {e i : Expr} {pos : Pos} (l : List Nat) (hl : l.length ≤ 1000) (he : Ed X W Γ μ e (sD l)) (hi : Ev X W Γ μ i (fun d => ∃ q : Nat, d = nn q ∧ q < l.length)) (hs : PlainIx i := by exact fun _ _ => rfl) : Ev X W Γ μ (.Subscript e i pos) (fun z => ∃ c, z = sg c ∧ c ∈ l) := ev_sign l hl he hi hs
end
abbrev gMOST_MENDED (mg : Str → Option Value) : Prop := ∃ t, mg "MOST_MENDED" = some (.int 8 t)
/-! ### mending -/
def mendL (l m : List Nat) (n : Nat) : List (Nat × List Nat) := ((words n l.length).filter fun v => tellsB v m).map fun v => (unlikeN l v, v)
def mendO (ps : List (Nat × List Nat)) : PyData := match ps with
  | [] => .none
  | a :: l => prD (minP a l)
def R_mend (ds : List PyData) (d : PyData) : Prop := ∃ (l m : List Nat) (n : Nat), ds = [sD l, sD m, nn n] ∧ 1 ≤ n ∧ n ≤ 4 ∧ rowB l = true ∧ lowL n l ∧ maskB m = true ∧ l.length ≤ 8 ∧ d = mendO (mendL l m n)
theorem words_le8 {n k : Nat} (h1 : 1 ≤ n) (hn : n ≤ 4) (hk : k ≤ 8) : (words n k).length ≤ 65536 := Nat.le_trans (words_len hn k) (Nat.le_trans (Nat.pow_le_pow_left hn k) (Nat.le_trans (Nat.pow_le_pow_right (by decide) hk) (by decide)))
end HW
set_option maxHeartbeats 4000000
namespace HW
open PySem PySem.Spec PyProof.Rows L2
open SX (S)
open PySem.W (dataLt minD maxD AlikeAll AllAlike Sortable EachIs dataLe alike)
/-! ### a list in strict order is the sorted one -/
theorem perm_sorted {α : Type} {lt : α → α → Bool} (hirr : ∀ a, lt a a = false) : ∀ {zs s : List α}, s.Perm zs → s.Pairwise (fun a b => lt b a = false) → zs.Pairwise (fun a b => lt a b = true) → s = zs
  | [], s, hp, _, _ => List.Perm.eq_nil hp
  | z :: zs, [], hp, _, _ => by have := hp.length_eq; simp at this
  | z :: zs, x :: s, hp, h1, h2 => by
    have hx : x ∈ z :: zs := hp.mem_iff.mp List.mem_cons_self
    have hz : z ∈ x :: s := hp.mem_iff.mpr List.mem_cons_self
    have e : x = z := by
      rcases List.mem_cons.mp hx with e | hx
      · exact e
      · rcases List.mem_cons.mp hz with e | hz
        · exact e.symm
        · have a := (List.pairwise_cons.mp h2).1 x hx
          have b := (List.pairwise_cons.mp h1).1 z hz
          rw [a] at b
          cases b
    subst e
    rw [perm_sorted hirr (List.Perm.cons_inv hp) (List.pairwise_cons.mp h1).2 (List.pairwise_cons.mp h2).2]
theorem sortD_of {ds zs : List PyData} (hp : ds.Perm zs) (h : zs.Pairwise fun a b => dataLt a b = true) : sortD ds = zs := by
  refine perm_sorted (lt := dataLt) (fun d => PyProof.Rows.lex_irrefl (O := PyProof.Rows.itemOrd) _) ((List.mergeSort_perm ds _).trans hp) ?_ h
  have := PySem.W.sort_pairwise (PySem.W.sortLe_total (PyProof.Rows.listOrd PyProof.Rows.itemOrd) false fun b : PyData => PySem.W.keyToks (id b)) ds
  refine this.imp fun {a b} q => ?_
  have q' : (!dataLt b a) = true := q
  simpa using q'
/-! ### looks -/
def lookB (m t : List Nat) : Bool := decide (t.length = (seenL m).length) && t.all fun c => decide (c ∈ [97, 98, 99, 100, 63])
def missN (v t : List Nat) : Nat := ((v.zip t).filter fun q => decide (q.2 ≠ 63) && decide (q.1 ≠ q.2)).length
def R_is_view (ds : List PyData) (d : PyData) : Prop := ∃ m t : List Nat, ds = [sD m, sD t] ∧ m.length ≤ 4000 ∧ lookB m t = true ∧ d = .bool true
def R_misses (ds : List PyData) (d : PyData) : Prop := ∃ v t : List Nat, ds = [sD v, sD t] ∧ v.length ≤ 4000 ∧ t.length ≤ 4000 ∧ d = nn (missN v t)
def R_lmisses (ds : List PyData) (d : PyData) : Prop := ∃ v t : List Nat, ds = [sD v, sD t] ∧ v.length ≤ 4000 ∧ v.length = t.length ∧ d = nn (missN v t)
theorem miss_law (v t : List Nat) (h : v.length = t.length) : ((List.range v.length).filter fun i => decide (t.getD i 0 ≠ 63) && decide (t.getD i 0 ≠ v.getD i 0)).length = missN v t := by
  unfold missN
  have e : v.zip t = (List.range v.length).map fun i => (v.getD i 0, t.getD i 0) := by
    apply List.ext_getElem?
    intro i
    rw [List.getElem?_map]
    by_cases hi : i < v.length
    · have hb : i < t.length := by omega
      rw [List.getElem?_range hi, List.getElem?_eq_getElem (by simp; omega), List.getElem_zip]
      show some (v[i], t[i]) = some (v.getD i 0, t.getD i 0)
      rw [List.getD_eq_getElem?_getD, List.getD_eq_getElem?_getD, List.getElem?_eq_getElem hi, List.getElem?_eq_getElem hb]
      rfl
    · rw [List.getElem?_eq_none (by simp; omega), List.getElem?_eq_none (by simp; omega)]
      rfl
  rw [e, List.filter_map, List.length_map]
  congr 1
  refine List.filter_congr fun i _ => ?_
  show _ = (decide (t.getD i 0 ≠ 63) && decide (v.getD i 0 ≠ t.getD i 0))
  congr 1
  exact decide_eq_decide.mpr ⟨fun h e => h e.symm, fun h e => h e.symm⟩
theorem lookB_iff {m t : List Nat} : lookB m t = true ↔ t.length = (seenL m).length ∧ ∀ c ∈ t, c = 63 ∨ 97 ≤ c ∧ c < 101 := by
  unfold lookB
  rw [Bool.and_eq_true, decide_eq_true_iff, List.all_eq_true]
  constructor
  · rintro ⟨h1, h2⟩
    exact ⟨h1, fun c hc => by have := of_decide_eq_true (h2 c hc); simp at this; omega⟩
  · rintro ⟨h1, h2⟩
    exact ⟨h1, fun c hc => decide_eq_true (by have := h2 c hc; simp; omega)⟩
def pre_look (ds : List PyData) : Prop := ∃ l m : List Nat, ds = [sD l, sD m] ∧ l.length ≤ 4000 ∧ lowL 4 l ∧ maskB m = true
def post_look (ds : List PyData) (d : PyData) : Prop := ∃ l m t : List Nat, ds = [sD l, sD m] ∧ d = sD t ∧ lookB m t = true
theorem maskB_seen {m : List Nat} (h : maskB m = true) : 1 ≤ (seenL m).length := by
  have h0 := open_head h
  rw [open_seen] at h0
  cases e : seenL m with
  | nil => rw [e] at h0; cases h0
  | cons a l => simp
theorem lookB_chg {m t : List Nat} {i c : Nat} (h : lookB m t = true) (hi : i < t.length) (hc : c = 63 ∨ 97 ≤ c ∧ c < 101) : lookB m (chgL t i c) = true := by
  obtain ⟨h1, h2⟩ := lookB_iff.mp h
  refine lookB_iff.mpr ⟨by rw [chgL_len t i c hi]; exact h1, fun x hx => ?_⟩
  obtain ⟨a, ha⟩ := List.mem_iff_getElem?.mp hx
  rw [chgL_get t i c a hi] at ha
  by_cases q : a = i
  · rw [if_pos q] at ha
    rw [← Option.some.inj ha]
    exact hc
  · rw [if_neg q] at ha
    exact h2 x (List.mem_of_getElem? ha)
theorem lookB_view {l m : List Nat} {p : Nat} (hl : lowL 4 l) (h : p + m.length ≤ l.length) : lookB m (viewL l m p) = true := lookB_iff.mpr ⟨viewL_len l m p, fun c hc => .inr (by have := viewL_low hl h c hc; omega)⟩
/-! ### either way -/
abbrev Stand := Nat × Bool
def wayL (b : Bool) : List Nat := if b then [111, 110] else [98, 97, 99, 107]
abbrev stD (q : Stand) : PyData := pr2 (nn q.1) (sD (wayL q.2))
abbrev zD (z : Stand × List Nat) : PyData := pr2 (stD z.1) (sD z.2)
def backL (l m : List Nat) (p : Nat) : List Nat := (seenL m).map fun a => l.getD (p - a) 0
def standAt (l m : List Nat) (p : Nat) : List (Stand × List Nat) := (if m.length ≤ p + 1 then [((p, false), backL l m p)] else []) ++ (if p + m.length ≤ l.length then [((p, true), viewL l m p)] else [])
def standsL (l m : List Nat) : List (Stand × List Nat) := (List.range l.length).flatMap (standAt l m)
def lbothL (l m : List Nat) : List (Stand × List Nat) := ((List.range (l.length + 1 - m.length)).map fun a => ((l.length - 1 - a, false), viewL l.reverse m a)) ++ (List.range (l.length + 1 - m.length)).map fun a => ((a, true), viewL l m a)
theorem standAt_len (l m : List Nat) (p : Nat) : (standAt l m p).length ≤ 2 := by
  unfold standAt
  rw [List.length_append]
  split <;> split <;> simp
theorem mem_standAt {l m : List Nat} {p : Nat} {z : Stand × List Nat} : z ∈ standAt l m p ↔ (m.length ≤ p + 1 ∧ z = ((p, false), backL l m p)) ∨ (p + m.length ≤ l.length ∧ z = ((p, true), viewL l m p)) := by
  unfold standAt
  rw [List.mem_append]
  constructor
  · rintro (h | h)
    · split at h
      · exact .inl ⟨by assumption, List.mem_singleton.mp h⟩
      · cases h
    · split at h
      · exact .inr ⟨by assumption, List.mem_singleton.mp h⟩
      · cases h
  · rintro (⟨h1, h2⟩ | ⟨h1, h2⟩)
    · rw [if_pos h1]; exact .inl (List.mem_singleton.mpr h2)
    · rw [if_pos h1]; exact .inr (List.mem_singleton.mpr h2)
theorem back_view {l m : List Nat} {a : Nat} (h : a + m.length ≤ l.length) : viewL l.reverse m a = backL l m (l.length - 1 - a) := by
  unfold viewL backL
  refine List.map_congr_left fun x hx => ?_
  have := mem_seen hx
  rw [getD_rev (by omega)]
  congr 1
  omega
theorem mem_lboth {l m : List Nat} {z : Stand × List Nat} (hm : 1 ≤ m.length) : z ∈ lbothL l m ↔ z ∈ standsL l m := by
  unfold lbothL standsL
  rw [List.mem_append, List.mem_flatMap]
  constructor
  · rintro (h | h)
    · obtain ⟨a, ha, rfl⟩ := List.mem_map.mp h
      have := List.mem_range.mp ha
      refine ⟨l.length - 1 - a, List.mem_range.mpr (by omega), mem_standAt.mpr (.inl ⟨by omega, by rw [back_view (by omega)]⟩)⟩
    · obtain ⟨a, ha, rfl⟩ := List.mem_map.mp h
      have := List.mem_range.mp ha
      exact ⟨a, List.mem_range.mpr (by omega), mem_standAt.mpr (.inr ⟨by omega, rfl⟩)⟩
  · rintro ⟨p, hp, h⟩
    have hp' := List.mem_range.mp hp
    rcases mem_standAt.mp h with ⟨h1, rfl⟩ | ⟨h1, rfl⟩
    · refine .inl (List.mem_map.mpr ⟨l.length - 1 - p, List.mem_range.mpr (by omega), ?_⟩)
      have e : l.length - 1 - (l.length - 1 - p) = p := by omega
      rw [back_view (by omega), e]
    · exact .inr (List.mem_map.mpr ⟨p, List.mem_range.mpr (by omega), rfl⟩)
theorem lt_st {a b : Stand} {v u : List Nat} (h : a.1 < b.1 ∨ a.1 = b.1 ∧ a.2 = false ∧ b.2 = true) : dataLt (zD (a, v)) (zD (b, u)) = true := by
  have ha : alike (stD a) (stD b) = true := by simp [alike, PySem.W.alikeAll]
  have hne : PyData.eqv (stD a) (stD b) = decide (a = b) := by
    show (PyData.eqv (nn a.1) (nn b.1) && (PyData.eqv (sD (wayL a.2)) (sD (wayL b.2)) && true)) = _
    rw [eqv_S]
    have e1 : PyData.eqv (nn a.1) (nn b.1) = decide (a.1 = b.1) := by
      show ((a.1 : Int) == (b.1 : Int)) = _
      rw [Bool.eq_iff_iff, beq_iff_eq, decide_eq_true_iff]
      omega
    rw [e1]
    obtain ⟨p, x⟩ := a
    obtain ⟨q, y⟩ := b
    cases x <;> cases y <;> by_cases e : p = q <;> simp [wayL, e]
  have hab : a ≠ b := by
    rintro rfl
    rcases h with h | ⟨_, h1, h2⟩
    · omega
    · rw [h1] at h2; cases h2
  rw [PySem.W.dataLt_pair ha (by simp [alike]), hne, if_neg (by simpa using hab), PySem.W.dataLt_pair (by simp [alike]) (by simp [alike]), PySem.W.dataLt_int, ltS]
  have e1 : PyData.eqv (nn a.1) (nn b.1) = decide (a.1 = b.1) := by
    show ((a.1 : Int) == (b.1 : Int)) = _
    rw [Bool.eq_iff_iff, beq_iff_eq, decide_eq_true_iff]
    omega
  rw [e1, eqv_S]
  rcases h with h | ⟨h0, h1, h2⟩
  · rw [if_neg (by simp; omega)]
    exact decide_eq_true (by omega)
  · rw [if_pos (decide_eq_true h0), h1, h2]
    decide
theorem stands_strict (l m : List Nat) : (standsL l m).Pairwise fun a b => a.1.1 < b.1.1 ∨ a.1.1 = b.1.1 ∧ a.1.2 = false ∧ b.1.2 = true := by
  unfold standsL
  rw [List.pairwise_flatMap]
  refine ⟨fun p _ => ?_, ?_⟩
  · unfold standAt
    split <;> split <;> simp
  · refine List.pairwise_lt_range.imp fun {p q} h x hx y hy => ?_
    have e1 : x.1.1 = p := by rcases mem_standAt.mp hx with ⟨_, rfl⟩ | ⟨_, rfl⟩ <;> rfl
    have e2 : y.1.1 = q := by rcases mem_standAt.mp hy with ⟨_, rfl⟩ | ⟨_, rfl⟩ <;> rfl
    exact .inl (by omega)
theorem sort_both {l m : List Nat} (hm : 1 ≤ m.length) : sortD ((lbothL l m).map zD) = (standsL l m).map zD := by
  refine sortD_of (List.Perm.map _ ?_) ?_
  · refine (List.perm_ext_iff_of_nodup ?_ ?_).mpr fun z => mem_lboth hm
    · unfold lbothL
      rw [List.nodup_append]
      refine ⟨?_, ?_, ?_⟩
      · rw [nodup_range]
        intro p q h1 h2 e
        have := congrArg (fun z : Stand × List Nat => z.1.1) e
        simp at this
        omega
      · rw [nodup_range]
        intro p q h1 h2 e
        have := congrArg (fun z : Stand × List Nat => z.1.1) e
        simp at this
        omega
      · intro x hx y hy e
        obtain ⟨a, _, rfl⟩ := List.mem_map.mp hx
        obtain ⟨b, _, rfl⟩ := List.mem_map.mp hy
        have := congrArg (fun z : Stand × List Nat => z.1.2) e
        cases this
    · refine (stands_strict l m).imp fun {a b} h e => ?_
      subst e
      rcases h with h | ⟨_, h1, h2⟩
      · omega
      · rw [h1] at h2; cases h2
  · rw [List.pairwise_map]
    exact (stands_strict l m).imp fun {a b} h => lt_st h
/-- the first like ones -/
def alikeAt (zs : List (Stand × List Nat)) (i : Nat) : Option (Stand × Stand) := match zs[i]? with
  | none => none
  | some z => ((zs.drop (i + 1)).find? fun y => decide (z.2 = y.2)).map fun y => (z.1, y.1)
def alikeO (zs : List (Stand × List Nat)) : Option (Stand × Stand) := (List.range zs.length).findSome? (alikeAt zs)
def optS : Option (Stand × Stand) → PyData
  | none => .none
  | some q => pr2 (stD q.1) (stD q.2)
def R_stands_of (ds : List PyData) (d : PyData) : Prop := ∃ l m : List Nat, ds = [sD l, sD m] ∧ l.length ≤ 4000 ∧ 1 ≤ m.length ∧ m.length ≤ 4000 ∧ d = .list ((standsL l m).map zD)
def R_both_views (ds : List PyData) (d : PyData) : Prop := ∃ l m : List Nat, ds = [sD l, sD m] ∧ rowB l = true ∧ maskB m = true ∧ d = .list ((standsL l m).map zD)
def R_both_alike (ds : List PyData) (d : PyData) : Prop := ∃ l m : List Nat, ds = [sD l, sD m] ∧ rowB l = true ∧ maskB m = true ∧ d = optS (alikeO (standsL l m))
def R_both_find (ds : List PyData) (d : PyData) : Prop := ∃ l m t : List Nat, ds = [sD l, sD m, sD t] ∧ rowB l = true ∧ maskB m = true ∧ lookB m t = true ∧ d = .list (((standsL l m).filter fun z => decide (missN z.2 t = 0)).map fun z => stD z.1)
def R_lboth (ds : List PyData) (d : PyData) : Prop := ∃ l m : List Nat, ds = [sD l, sD m] ∧ rowB l = true ∧ maskB m = true ∧ d = .list ((standsL l m).map zD)
theorem standsL_len (l m : List Nat) : (standsL l m).length ≤ l.length * 2 := by
  have h := flat_len (standAt l m) 2 (List.range l.length) fun p _ => standAt_len l m p
  rw [List.length_range] at h
  exact h
theorem stands_view_len {l m : List Nat} {z : Stand × List Nat} (h : z ∈ standsL l m) : z.2.length = (seenL m).length := by
  obtain ⟨p, _, hp⟩ := List.mem_flatMap.mp h
  rcases mem_standAt.mp hp with ⟨_, rfl⟩ | ⟨_, rfl⟩
  · simp [backL]
  · exact viewL_len _ _ _
theorem stands_low {l m : List Nat} {z : Stand × List Nat} (hl : ∀ c ∈ l, c < 128) (h : z ∈ standsL l m) : ∀ c ∈ z.2, c < 128 := by
  obtain ⟨p, _, hp⟩ := List.mem_flatMap.mp h
  have hg : ∀ i, l.getD i 0 < 128 := fun i => by
    rw [List.getD_eq_getElem?_getD]
    cases e : l[i]? with
    | none => decide
    | some x => exact hl x (List.mem_of_getElem? e)
  intro c hc
  rcases mem_standAt.mp hp with ⟨_, rfl⟩ | ⟨_, rfl⟩
  · obtain ⟨a, _, rfl⟩ := List.mem_map.mp hc
    exact hg _
  · obtain ⟨a, _, rfl⟩ := List.mem_map.mp hc
    exact hg _
theorem shp_st (q : Stand) : Shp 1 (stD q) := Shp.tup fun x hx => by
  rcases List.mem_cons.mp hx with e | hx
  · rw [e]; exact Shp.int
  · rw [List.mem_singleton.mp hx]
    exact Shp.str fun c hc => by
      unfold wayL at hc
      split at hc <;> simp at hc <;> omega
theorem shp_z {z : Stand × List Nat} (h : ∀ c ∈ z.2, c < 128) : Shp 2 (zD z) := Shp.tup fun x hx => by
  rcases List.mem_cons.mp hx with e | hx
  · rw [e]; exact shp_st _
  · rw [List.mem_singleton.mp hx]
    exact (Shp.str h).up (by decide)
end HW
set_option maxHeartbeats 4000000
namespace HW
open PySem PySem.Spec PyProof.Rows L2
open SX (S)
section
variable {X : Cx} {W : Wd} {Γ Γ' : List DV} {μ μ' : Mu} {α : Type} {iter : Expr} {body rest : List Stmt} {pos : Pos} {D : Ends}
/-- for n1, n2 in iter, with a fact -/
theorem run_for2P {xs : List α} {n1 n2 : Str} {p1 p2 tpos : Pos} {kk : Nat} {e1 e2 : α → PyData} (k1 k2 : Nat) (hi : IterD X W Γ μ (.Tuple [.Name n1 p1, .Name n2 p2] kk tpos) iter (fun x => pr2 (e1 x) (e2 x)) xs) (Γ0 : Nat → List DV) (μ0 : Nat → Mu) (Pf : Nat → Prop) (h0 : Pf 0)
    (hs : ∀ W1, Wle W W1 → ∀ i x, xs[i]? = some x → Pf i → Run X W1 (((Γ0 i).set k1 (.d (e1 x))).set k2 (.d (e2 x))) (μ0 i) body { D with nx := SttP X.K W1 (Γ0 (i + 1)) (μ0 (i + 1)) (Pf (i + 1)), ct := SttP X.K W1 (Γ0 (i + 1)) (μ0 (i + 1)) (Pf (i + 1)), bk := wSs X rest D })
    (hd' : Pf xs.length → Run X W (Γ0 xs.length) (μ0 xs.length) rest D) (hN : X.N.Nodup) (hm : μ = μ0 0 := by first | rfl | (simp; done)) (w : wk Γ (Γ0 0) := by repeat (first | exact wk_n | refine wk_s ?_ | refine wk_0 ?_)) (hn1 : X.N[k1]? = some n1 := by rfl) (hn2 : X.N[k2]? = some n2 := by rfl) (hx1 : Loc X.env.scope n1 := by first | exact Or.inl rfl | exact Or.inr rfl) (hx2 : Loc X.env.scope n2 := by first | exact Or.inl rfl | exact Or.inr rfl)
    (hf1 : X.fn n1 = true ∨ X.env.scope.names.lookup n1 = some .local := by first | exact .inr rfl | exact .inl rfl) (hf2 : X.fn n2 = true ∨ X.env.scope.names.lookup n2 = some .local := by first | exact .inr rfl | exact .inl rfl)
    (hp : PassesOwn (model X.prog X.w) X.A X.env X.xe := by exact PassesOwn.never) (hc : X.calm = true := by rfl) (hf : ∀ x, foldedSetIterable iter X.env x = pure x := by intro _; rfl) :
    Run X W Γ μ (.For (.Tuple [.Name n1 p1, .Name n2 p2] kk tpos) iter body [] pos :: rest) D :=
  run_for2 k1 k2 hi (fun i Γ μ => wk Γ (Γ0 i) ∧ μ = μ0 i ∧ Pf i) ⟨w, hm, h0⟩ (fun W1 l i x Γ' μ' h ⟨w', e, q⟩ => by
    subst e
    exact run_weak (hs W1 l i x h q) (run_forS.wk_set (run_forS.wk_set w' k1) k2)) (fun Γ' μ' ⟨w', e, q⟩ => by
    subst e
    exact run_weak (hd' q) w') hN hn1 hn2 hx1 hx2 hf1 hf2 hp hc hf
/-- for n1, (n2, n3) in iter, with a fact -/
theorem run_for3P {xs : List α} {n1 n2 n3 : Str} {p1 p2 p3 tpos tpos2 : Pos} {kk kk2 : Nat} {e1 e2 e3 : α → PyData} (k1 k2 k3 : Nat) (hi : IterD X W Γ μ (.Tuple [.Name n1 p1, .Tuple [.Name n2 p2, .Name n3 p3] kk2 tpos2] kk tpos) iter (fun x => pr2 (e1 x) (pr2 (e2 x) (e3 x))) xs) (Γ0 : Nat → List DV) (μ0 : Nat → Mu) (Pf : Nat → Prop) (h0 : Pf 0)
    (hs : ∀ W1, Wle W W1 → ∀ i x, xs[i]? = some x → Pf i → Run X W1 ((((Γ0 i).set k1 (.d (e1 x))).set k2 (.d (e2 x))).set k3 (.d (e3 x))) (μ0 i) body { D with nx := SttP X.K W1 (Γ0 (i + 1)) (μ0 (i + 1)) (Pf (i + 1)), ct := SttP X.K W1 (Γ0 (i + 1)) (μ0 (i + 1)) (Pf (i + 1)), bk := wSs X rest D })
    (hd' : Pf xs.length → Run X W (Γ0 xs.length) (μ0 xs.length) rest D) (hN : X.N.Nodup) (hm : μ = μ0 0 := by first | rfl | (simp; done)) (w : wk Γ (Γ0 0) := by repeat (first | exact wk_n | refine wk_s ?_ | refine wk_0 ?_)) (hn1 : X.N[k1]? = some n1 := by rfl) (hn2 : X.N[k2]? = some n2 := by rfl) (hn3 : X.N[k3]? = some n3 := by rfl)
    (hx1 : Loc X.env.scope n1 := by first | exact Or.inl rfl | exact Or.inr rfl) (hx2 : Loc X.env.scope n2 := by first | exact Or.inl rfl | exact Or.inr rfl) (hx3 : Loc X.env.scope n3 := by first | exact Or.inl rfl | exact Or.inr rfl)
    (hf1 : X.fn n1 = true ∨ X.env.scope.names.lookup n1 = some .local := by first | exact .inr rfl | exact .inl rfl) (hf2 : X.fn n2 = true ∨ X.env.scope.names.lookup n2 = some .local := by first | exact .inr rfl | exact .inl rfl) (hf3 : X.fn n3 = true ∨ X.env.scope.names.lookup n3 = some .local := by first | exact .inr rfl | exact .inl rfl)
    (hp : PassesOwn (model X.prog X.w) X.A X.env X.xe := by exact PassesOwn.never) (hc : X.calm = true := by rfl) (hf : ∀ x, foldedSetIterable iter X.env x = pure x := by intro _; rfl) :
    Run X W Γ μ (.For (.Tuple [.Name n1 p1, .Tuple [.Name n2 p2, .Name n3 p3] kk2 tpos2] kk tpos) iter body [] pos :: rest) D :=
  run_forG hi (tg_pair (tg_name (K := X.K) k1) (tg_pair (tg_name k2) (tg_name k3))) (pg_tup hc (pgs_cons (pg_name hN hn1 hx1 hf1) (pgs_cons (pg_tup hc (pgs_cons (pg_name hN hn2 hx2 hf2) (pgs_cons (pg_name hN hn3 hx3 hf3) pgs_nil))) pgs_nil)))
    (fun _ _ x _ => ⟨e1 x, _, rfl, trivial, e2 x, e3 x, rfl, trivial, trivial⟩) (fun _ i Γ μ => wk Γ (Γ0 i) ∧ μ = μ0 i ∧ Pf i) (fun _ _ => ⟨w, hm, h0⟩) (fun _ e W1 l i x Γ' μ' h ⟨w', em, q⟩ => by
      subst em
      exact run_weak (hs W1 l i x (e ▸ h) q) (run_forS.wk_set (run_forS.wk_set (run_forS.wk_set w' k1) k2) k3)) (fun _ e Γ' μ' ⟨w', em, q⟩ => by
      subst em
      subst e
      exact run_weak (hd' q) w') hp hc hf
/-- for n in iter, over whatever comes: Φ stays -/
theorem run_forV {n : Str} {p : Pos} {enc : α → PyData} {P : List α → Prop} (k : Nat) (hi : IterV X W Γ μ (.Name n p) iter enc P) (Φ : List DV → Mu → Prop) (h0 : Φ Γ μ)
    (hs : ∀ xs, P xs → ∀ W1, Wle W W1 → ∀ x ∈ xs, ∀ Γ' μ', Φ Γ' μ' → Run X W1 (Γ'.set k (.d (enc x))) μ' body { D with nx := StP X.K W1 Φ, ct := StP X.K W1 Φ, bk := wSs X rest D })
    (hd' : ∀ Γ' μ', Φ Γ' μ' → Run X W Γ' μ' rest D) (hN : X.N.Nodup) (hn : X.N[k]? = some n := by rfl) (hx : Loc X.env.scope n := by first | exact Or.inl rfl | exact Or.inr rfl) (hff : X.fn n = true ∨ X.env.scope.names.lookup n = some .local := by first | exact .inr rfl | exact .inl rfl)
    (hp : PassesOwn (model X.prog X.w) X.A X.env X.xe := by exact PassesOwn.never) (hc : X.calm = true := by rfl) (hf : ∀ x, foldedSetIterable iter X.env x = pure x := by intro _; rfl) :
    Run X W Γ μ (.For (.Name n p) iter body [] pos :: rest) D :=
  run_forG hi (tg_name k) (pg_name hN hn hx hff) (fun _ _ _ _ => trivial) (fun _ _ => Φ) (fun _ _ => h0) (fun xs px W1 l i x Γ' μ' h j => hs xs px W1 l x (List.mem_of_getElem? h) Γ' μ' j) (fun _ _ Γ' μ' j => hd' Γ' μ' j) hp hc hf
end
section
variable {X : Cx} {W : Wd} {Γ : List DV} {μ : Mu} {a b : Expr} {pos p p2 : Pos} {n : Str} {r scr : Addr} {ns : List Int} {k : Nat} {l m : List Nat}
/-- _law_look(_law_row, a, b) -/
theorem ev_look (F : Fd X.prog X.w X.K X.mg X.base k "_law_look" ["_law_row", "_law_line_here", "_law_mask_here"] (spW X.K pre_look post_look)) (hr : Room k X.A) (hrow : W.row = some (r, scr, ns)) (j : Nat) (ha : Ed X W Γ μ a (sD l)) (hb : Ed X W Γ μ b (sD m)) (hl : l.length ≤ 4000) (hlow : lowL 4 l) (hm : maskB m = true)
    (hi : Γ[j]? = some (.r r) := by rfl) (hN : X.N[j]? = some n := by rfl) (hv : Vis X.env.scope n := by first | exact Or.inl rfl | exact Or.inr (Or.inl rfl) | exact Or.inr (Or.inr rfl))
    (h1 : (n == ("__debug__" : Str)) = false := by decide) (h2 : (n == ("__classdict__" : Str)) = false := by decide) (hg : Gl X "_law_look" := by rfl)
    (he : starEach (.Name n p2 :: [a, b]) X.env = (false, eval (.Name n p2) X.env) :: starEach [a, b] X.env := by rfl) (hpl : (backTo pos (starEach [a, b] X.env)).any (·.1) = false := by rfl) (he2 : starEach [a, b] X.env = (false, eval a X.env) :: starEach [b] X.env := by rfl) (he3 : starEach [b] X.env = (false, eval b X.env) :: starEach [] X.env := by rfl) :
    Ev X W Γ μ (.Call (.Name "_law_look" p) (.Name n p2 :: [a, b]) [] pos) (fun d => ∃ t : List Nat, d = sD t ∧ lookB m t = true) :=
  (ev_draw F hr hrow j (A := fun ds => ds = [sD l, sD m]) ((ea_cons ha (ea_cons hb ea_nil he3) he2).ev rfl) (fun ds e => ⟨l, m, e, hl, hlow, hm⟩) hi hN hv h1 h2 hg (by decide) he hpl).imp fun d ⟨ds, e, hp⟩ => by
    obtain ⟨l', m', t, e2, e3, ht⟩ := hp
    rw [e] at e2
    have := PyData.str.inj (List.cons.inj (List.cons.inj e2).2).1
    rw [← S_inj this] at ht
    exact ⟨t, e3, ht⟩
end
/-! ### the first like ones -/
theorem alikeO_some {zs : List (Stand × List Nat)} {i : Nat} {q : Stand × Stand} (hi : i < zs.length) (h0 : ∀ j, j < i → alikeAt zs j = none) (h : alikeAt zs i = some q) : alikeO zs = some q := by
  unfold alikeO
  have e : zs.length = i + (1 + (zs.length - i - 1)) := by omega
  rw [e, List.range_add, List.findSome?_append, List.findSome?_eq_none_iff.mpr (fun j hj => h0 j (List.mem_range.mp hj)), Nat.add_comm 1, List.range_succ_eq_map]
  simp [h]
theorem alikeO_none {zs : List (Stand × List Nat)} (h0 : ∀ j, j < zs.length → alikeAt zs j = none) : alikeO zs = none := by
  unfold alikeO
  exact List.findSome?_eq_none_iff.mpr fun j hj => h0 j (List.mem_range.mp hj)
theorem alikeAt_some {zs : List (Stand × List Nat)} {i j : Nat} {z y : Stand × List Nat} (hz : zs[i]? = some z) (h0 : ∀ y ∈ (zs.drop (i + 1)).take j, z.2 ≠ y.2) (hy : (zs.drop (i + 1))[j]? = some y) (h : z.2 = y.2) : alikeAt zs i = some (z.1, y.1) := by
  unfold alikeAt
  rw [hz]
  show Option.map _ (List.find? _ _) = _
  have e : zs.drop (i + 1) = (zs.drop (i + 1)).take j ++ (y :: (zs.drop (i + 1)).drop (j + 1)) := by
    have h2 := List.drop_eq_getElem_cons (List.getElem?_eq_some_iff.mp hy).1
    rw [(List.getElem?_eq_some_iff.mp hy).2] at h2
    rw [← h2, List.take_append_drop]
  rw [e, List.find?_append, List.find?_eq_none.mpr (fun x hx => by simpa using h0 x hx)]
  simp [h]
theorem alikeAt_none {zs : List (Stand × List Nat)} {i : Nat} {z : Stand × List Nat} (hz : zs[i]? = some z) (h0 : ∀ y ∈ zs.drop (i + 1), z.2 ≠ y.2) : alikeAt zs i = none := by
  unfold alikeAt
  rw [hz]
  show Option.map _ (List.find? _ _) = _
  rw [List.find?_eq_none.mpr (fun x hx => by simpa using h0 x hx)]
  rfl
/-- as far as two loops have come -/
def dueA (zs : List (Stand × List Nat)) (i : Nat) : Option (Stand × Stand) := (List.range i).findSome? (alikeAt zs)
def dueB (zs : List (Stand × List Nat)) (i : Nat) (z : Stand × List Nat) (j : Nat) : Option (Stand × Stand) := (dueA zs i).or ((((zs.drop (i + 1)).take j).find? fun y => decide (z.2 = y.2)).map fun y => (z.1, y.1))
theorem dueB_zero (zs : List (Stand × List Nat)) (i : Nat) (z : Stand × List Nat) : dueB zs i z 0 = dueA zs i := by
  unfold dueB
  simp
theorem dueB_last {zs : List (Stand × List Nat)} {i : Nat} {z : Stand × List Nat} (hz : zs[i]? = some z) {n : Nat} (hn : (zs.drop (i + 1)).length ≤ n) : dueB zs i z n = dueA zs (i + 1) := by
  unfold dueB dueA
  rw [List.take_of_length_le hn, List.range_succ, List.findSome?_append]
  congr 1
  show _ = List.findSome? (alikeAt zs) [i]
  unfold alikeAt
  simp [hz]
theorem dueB_succ {zs : List (Stand × List Nat)} {i : Nat} {z y : Stand × List Nat} {j : Nat} (hy : (zs.drop (i + 1))[j]? = some y) : dueB zs i z (j + 1) = if dueB zs i z j = none ∧ z.2 = y.2 then some (z.1, y.1) else dueB zs i z j := by
  unfold dueB
  rw [List.take_add_one, hy]
  show Option.or _ (Option.map _ (List.find? _ (_ ++ [y]))) = _
  rw [List.find?_append]
  cases dueA zs i with
  | some q => simp
  | none =>
    cases ((zs.drop (i + 1)).take j).find? (fun y => decide (z.2 = y.2)) with
    | some q => simp
    | none =>
      by_cases h : z.2 = y.2
      · simp [h]
      · simp [h]
abbrev gOPENm (mg : Str → Option Value) : Prop := ∃ t, mg "OPEN" = some (.str "?" t)
abbrev gBACK (mg : Str → Option Value) : Prop := ∃ t, mg "BACK" = some (.str "back" t)
abbrev gON (mg : Str → Option Value) : Prop := ∃ t, mg "ON" = some (.str "on" t)
end HW
set_option maxHeartbeats 4000000
namespace HW
open PySem PySem.Spec PyProof.Rows L2
open SX (S)
/-! ### local dicts whose keys are numbers or texts -/
section
variable {κ : Type} [DecidableEq κ]
def vK (kvs : List (κ × PyData)) (k : κ) : Option PyData := (kvs.find? fun kv => decide (kv.1 = k)).map (·.2)
def pK (kvs : List (κ × PyData)) (k : κ) (d : PyData) : List (κ × PyData) := if (kvs.any fun kv => decide (kv.1 = k)) = true then kvs.map fun kv => if kv.1 = k then (kv.1, d) else kv else kvs ++ [(k, d)]
end
abbrev kS (l : List Nat) : L2.Key := .inr (S l)
section
variable {κ : Type} [DecidableEq κ] {K : PySem.W.Frag} {H : Hp} {ks : List (κ × V)} {kvs : List (κ × PyData)} {k : κ} {v : V} {d : PyData}
abbrev KvR (K : PySem.W.Frag) (H : Hp) (ks : List (κ × V)) (kvs : List (κ × PyData)) : Prop := Paired (fun (p : κ × V) (q : κ × PyData) => p.1 = q.1 ∧ Va K H p.2 q.2) ks kvs
theorem kv_val (k : κ) : ∀ {ks : List (κ × V)} {kvs : List (κ × PyData)}, KvR K H ks kvs → (valV ks k = none ∧ vK kvs k = none) ∨ ∃ v d, valV ks k = some v ∧ vK kvs k = some d ∧ Va K H v d
  | _, _, .nil => .inl ⟨rfl, rfl⟩
  | p :: ks, q :: kvs, .cons h t => by
    by_cases e : q.1 = k
    · have e2 : p.1 = k := h.1.trans e
      exact .inr ⟨p.2, q.2, by simp [valV, e2], by simp [vK, e], h.2⟩
    · have e2 : ¬ p.1 = k := fun z => e (h.1.symm.trans z)
      rcases kv_val k t with ⟨h1, h2⟩ | ⟨v, d, h1, h2, h3⟩
      · exact .inl ⟨by rw [valV_neg e2, h1], by simpa [vK, e] using h2⟩
      · exact .inr ⟨v, d, by rw [valV_neg e2, h1], by simpa [vK, e] using h2, h3⟩
theorem kv_some {k : κ} (r : KvR K H ks kvs) (h : vK kvs k = some d) : ∃ v, valV ks k = some v ∧ Va K H v d := by
  rcases kv_val k r with ⟨_, h2⟩ | ⟨v, d', h1, h2, h3⟩
  · rw [h2] at h; cases h
  · rw [h2] at h
    cases h
    exact ⟨v, h1, h3⟩
theorem kv_isSome (k : κ) (r : KvR K H ks kvs) : (valV ks k).isSome = (vK kvs k).isSome := by
  rcases kv_val k r with ⟨h1, h2⟩ | ⟨v, d, h1, h2, _⟩
  · rw [h1, h2]; rfl
  · rw [h1, h2]; rfl
theorem kv_any (k : κ) : ∀ {ks : List (κ × V)} {kvs : List (κ × PyData)}, KvR K H ks kvs → (ks.any fun kv => decide (kv.1 = k)) = kvs.any fun kv => decide (kv.1 = k)
  | _, _, .nil => rfl
  | p :: ks, q :: kvs, .cons h t => by rw [List.any_cons, List.any_cons, kv_any k t, h.1]
theorem kv_map (k : κ) (r : Va K H v d) : ∀ {ks : List (κ × V)} {kvs : List (κ × PyData)}, KvR K H ks kvs → KvR K H (ks.map fun kv => if kv.1 = k then (kv.1, v) else kv) (kvs.map fun kv => if kv.1 = k then (kv.1, d) else kv)
  | _, _, .nil => .nil
  | p :: ks, q :: kvs, .cons h t => by
    refine .cons ?_ (kv_map k r t)
    show ((if p.1 = k then (p.1, v) else p) : κ × V).1 = ((if q.1 = k then (q.1, d) else q) : κ × PyData).1 ∧ Va K H ((if p.1 = k then (p.1, v) else p) : κ × V).2 ((if q.1 = k then (q.1, d) else q) : κ × PyData).2
    by_cases e : q.1 = k
    · have e2 : p.1 = k := h.1.trans e
      rw [if_pos e, if_pos e2]
      exact ⟨h.1, r⟩
    · have e2 : ¬ p.1 = k := fun z => e (h.1.symm.trans z)
      rw [if_neg e, if_neg e2]
      exact h
theorem kv_put (k : κ) (r : KvR K H ks kvs) (rv : Va K H v d) : KvR K H (putK ks k v) (pK kvs k d) := by
  unfold putK pK
  rw [kv_any k r]
  by_cases h : (kvs.any fun kv => decide (kv.1 = k)) = true
  · rw [if_pos h, if_pos h]
    exact kv_map k rv r
  · rw [if_neg h, if_neg h]
    exact psnoc r ⟨rfl, rv⟩
theorem pK_new {kvs : List (κ × PyData)} {k : κ} {d : PyData} (h : vK kvs k = none) : pK kvs k d = kvs ++ [(k, d)] := by
  unfold pK
  rw [if_neg]
  intro h2
  obtain ⟨q, hq, e⟩ := List.any_eq_true.mp h2
  unfold vK at h
  rw [Option.map_eq_none_iff] at h
  have := List.find?_eq_none.mp h q hq
  exact this e
theorem len_put (kvs : List (κ × PyData)) (k : κ) (d : PyData) : (pK kvs k d).length ≤ kvs.length + 1 := by
  unfold pK
  split
  · rw [List.length_map]; omega
  · simp
end
theorem va_key {K : PySem.W.Frag} {H : Hp} {v : V} {k : L2.Key} (h : Va K H v (kD k)) : v = kV k := by
  cases k <;> cases h <;> rfl
section
variable {X : Cx} {W W0 : Wd} {Γ : List DV} {μ : Mu} {e b value : Expr} {rest : List Stmt} {D : Ends} {pos p p1 p2 pd pos' : Pos} {n n1 n2 : Str} {k : L2.Key} {kvs : List (L2.Key × PyData)} {l : Addr} {d y : PyData}
/-- x = {} -/
theorem run_newD (i : Nat) {p2 : Pos} (h : ∀ l, Run X W (Γ.set i (.r l)) ((l, .dK []) :: μ) rest D) (nd : X.N.Nodup) (hN : X.N[i]? = some n := by rfl) (hx : Loc X.env.scope n := by first | exact Or.inl rfl | exact Or.inr rfl)
    (hs : swapsWith (.Dict [] [] p2) (some (.Name n p)) pos.line X.env = pure false := by rfl) (hf : X.fn n = true ∨ X.env.scope.names.lookup n = some .local := by first | exact .inr rfl | exact .inl rfl) : Run X W Γ μ (.Assign [.Name n p] (.Dict [] [] p2) pos :: rest) D := fun σ H R =>
  wSs_cons ((ps_set nd hN hx pe_dnewK hs hf).w fun l hl => h l _ _ (by
    have R1 := R.born (m := .dK []) (o := .dK []) hl ⟨[], upd_same, .nil⟩
    exact ⟨R1.wd, R1.fr, R1.sl.setr i, R1.mu, R1.nd⟩))
/-- n1, n2 = {}, b -/
theorem run_parD0 (i j : Nat) {kt k2 : Nat} {pt pt2 : Pos} (hb : ∀ l, Ed X W Γ ((l, .dK []) :: μ) b y) (h : ∀ l, Run X W ((Γ.set i (.r l)).set j (.d y)) ((l, .dK []) :: μ) rest D) (hN : X.N.Nodup) (hij : i ≠ j := by decide) (hi : X.N[i]? = some n1 := by rfl) (hj : X.N[j]? = some n2 := by rfl)
    (hx : X.env.scope.names.lookup n1 = some .local := by rfl) (hy : X.env.scope.names.lookup n2 = some .local := by rfl) (hc : X.calm = true := by rfl)
    (hw : swappedStores [.Tuple [.Name n1 p1, .Name n2 p2] kt pt] (.Tuple [.Dict [] [] pd, b] k2 pt2) X.env = pure (some [n1, n2]) := by rfl)
    (hs : swapsWithSole [.Tuple [.Name n1 p1, .Name n2 p2] kt pt] (.Tuple [.Dict [] [] pd, b] k2 pt2) pos.line X.env = pure false := by rfl)
    (hs1 : starEach [.Dict [] [] pd, b] X.env = (false, eval (.Dict [] [] pd) X.env) :: starEach [b] X.env := by rfl) (hs2 : starEach [b] X.env = (false, eval b X.env) :: starEach [] X.env := by rfl) :
    Run X W Γ μ (.Assign [.Tuple [.Name n1 p1, .Name n2 p2] kt pt] (.Tuple [.Dict [] [] pd, b] k2 pt2) pos :: rest) D := fun σ H R =>
  wSs_cons ((ps_par hc hN hi hj hij hx hy (pa_cons pe_dnewK (pa_cons wE.pe pa_nil hs2) hs1) hw hs).w fun l hl => by
    have R1 := R.born (m := .dK []) (o := .dK []) hl ⟨[], upd_same, .nil⟩
    exact hb l σ _ R1 _ fun v H2 R2 x2 r2 => ⟨_, _, rfl, h l _ _ ⟨R2.wd, R2.fr, (R2.sl.setr i).set j r2, R2.mu, R2.nd⟩⟩)
/-- e in d, e not in d -/
theorem tc_din (i j : Nat) (hu : X.A.units + 64 < cLine) (he : Ed X W Γ μ e (kD k)) (hi : Γ[i]? = some (.r l) := by rfl) (hj : μ[j]? = some (l, .dK kvs) := by rfl) (hN : X.N[i]? = some n := by rfl) (hv : Vis X.env.scope n := by first | exact Or.inl rfl | exact Or.inr (Or.inl rfl) | exact Or.inr (Or.inr rfl))
    (h1 : (n == ("__debug__" : Str)) = false := by decide) (h2 : (n == ("__classdict__" : Str)) = false := by decide) (hm : behindInMarks .In (.Name n p) = false := by first | exact nomark _ | rfl) :
    EdT X W Γ μ (.Compare e [.In] [.Name n p] pos) (vK kvs k).isSome := fun σ H R Q q => by
  refine (pt_cmp (pc_din (by omega) wE.pe (pe_var hN hv h1 h2)) hm).w (he σ H R _ fun v H2 R2 e2 r2 => ?_)
  obtain ⟨o, g1, g2⟩ := R2.sl.at_ i _ hi
  have g2' : o = some (.ref l) := g2
  subst g2'
  obtain ⟨ks, hk, hp⟩ := (R2.mu _ (List.mem_of_getElem? hj)).2
  have ev := va_key r2
  subst ev
  exact ⟨_, g1, l, _, rfl, DGet.k hk, _, rfl, by rw [kv_isSome k hp]; exact q H2 R2 e2⟩
theorem tc_dnin (i j : Nat) (hu : X.A.units + 64 < cLine) (he : Ed X W Γ μ e (kD k)) (hi : Γ[i]? = some (.r l) := by rfl) (hj : μ[j]? = some (l, .dK kvs) := by rfl) (hN : X.N[i]? = some n := by rfl) (hv : Vis X.env.scope n := by first | exact Or.inl rfl | exact Or.inr (Or.inl rfl) | exact Or.inr (Or.inr rfl))
    (h1 : (n == ("__debug__" : Str)) = false := by decide) (h2 : (n == ("__classdict__" : Str)) = false := by decide) (hm : behindInMarks .NotIn (.Name n p) = false := by first | exact nomark _ | rfl) :
    EdT X W Γ μ (.Compare e [.NotIn] [.Name n p] pos) (!(vK kvs k).isSome) := fun σ H R Q q => by
  refine (pt_cmp (pc_dnotin (by omega) wE.pe (pe_var hN hv h1 h2)) hm).w (he σ H R _ fun v H2 R2 e2 r2 => ?_)
  obtain ⟨o, g1, g2⟩ := R2.sl.at_ i _ hi
  have g2' : o = some (.ref l) := g2
  subst g2'
  obtain ⟨ks, hk, hp⟩ := (R2.mu _ (List.mem_of_getElem? hj)).2
  have ev := va_key r2
  subst ev
  exact ⟨_, g1, l, _, rfl, DGet.k hk, _, rfl, by rw [kv_isSome k hp]; exact q H2 R2 e2⟩
/-- d[e] -/
theorem ed_dget (i j : Nat) (hu : X.A.units + 64 < cLine) (he : Ed X W Γ μ e (kD k)) (hd' : vK kvs k = some d) (hi : Γ[i]? = some (.r l) := by rfl) (hj : μ[j]? = some (l, .dK kvs) := by rfl) (hN : X.N[i]? = some n := by rfl) (hv : Vis X.env.scope n := by first | exact Or.inl rfl | exact Or.inr (Or.inl rfl) | exact Or.inr (Or.inr rfl))
    (h1 : (n == ("__debug__" : Str)) = false := by decide) (h2 : (n == ("__classdict__" : Str)) = false := by decide) (hs : NoSl e := by exact fun _ _ => rfl) : Ed X W Γ μ (.Subscript (.Name n p) e pos) d := fun σ H R Q q => by
  refine (pe_dget (by omega) (pe_var hN hv h1 h2) wE.pe hs).w ?_
  obtain ⟨o, g1, g2⟩ := R.sl.at_ i _ hi
  have g2' : o = some (.ref l) := g2
  subst g2'
  refine ⟨_, g1, he σ H R _ fun v H2 R2 e2 r2 => ?_⟩
  obtain ⟨ks, hk, hp⟩ := (R2.mu _ (List.mem_of_getElem? hj)).2
  obtain ⟨u, h3, h4⟩ := kv_some hp hd'
  have ev := va_key r2
  subst ev
  refine ⟨l, u, rfl, ?_, q u H2 R2 e2 h4⟩
  rw [← h3]
  exact DGet.k hk
/-- d[e] = value -/
theorem run_dputP {P : PyData → Prop} (i j : Nat) (hu : X.A.units + 64 < cLine) (hv : Ev X W Γ μ value P) (he : Ed X W Γ μ e (kD k)) (hl : kvs.length < 16777216) (h : ∀ d, P d → Run X W Γ (μ.set j (l, .dK (pK kvs k d))) rest D) (hi : Γ[i]? = some (.r l) := by rfl) (hj : μ[j]? = some (l, .dK kvs) := by rfl) (hN : X.N[i]? = some n := by rfl) (hvs : Vis X.env.scope n := by first | exact Or.inl rfl | exact Or.inr (Or.inl rfl) | exact Or.inr (Or.inr rfl))
    (h1 : (n == ("__debug__" : Str)) = false := by decide) (h2 : (n == ("__classdict__" : Str)) = false := by decide) (hs : swapsWith value (some (.Subscript (.Name n p) e pos')) pos.line X.env = pure false := by rfl) :
    Run X W Γ μ (.Assign [.Subscript (.Name n p) e pos'] value pos :: rest) D := fun σ H R => by
  refine wSs_cons ((ps_dput (by omega) (pe_var hN hvs h1 h2) wE.pe wE.pe hs).w (hv σ H R _ fun v d H2 R2 e2 r2 pd => ?_))
  obtain ⟨o, g1, g2⟩ := R2.sl.at_ i _ hi
  have g2' : o = some (.ref l) := g2
  subst g2'
  refine ⟨_, g1, he σ H2 R2 _ fun u H3 R3 e3 r3 => ?_⟩
  obtain ⟨ks, hk, hp⟩ := (R3.mu _ (List.mem_of_getElem? hj)).2
  have ev := va_key r3
  subst ev
  have hlen : ks.length < sizeLine := by
    rw [plen hp, sizeLine_eq]
    exact hl
  exact ⟨l, _, rfl, DPut.k hk hlen, h d pd _ _ (R3.chg hj ⟨_, upd_same, kv_put k hp (r2.up e3)⟩)⟩
theorem run_dput (i j : Nat) (hu : X.A.units + 64 < cLine) (hv : Ed X W Γ μ value d) (he : Ed X W Γ μ e (kD k)) (hl : kvs.length < 16777216) (h : Run X W Γ (μ.set j (l, .dK (pK kvs k d))) rest D) (hi : Γ[i]? = some (.r l) := by rfl) (hj : μ[j]? = some (l, .dK kvs) := by rfl) (hN : X.N[i]? = some n := by rfl) (hvs : Vis X.env.scope n := by first | exact Or.inl rfl | exact Or.inr (Or.inl rfl) | exact Or.inr (Or.inr rfl))
    (h1 : (n == ("__debug__" : Str)) = false := by decide) (h2 : (n == ("__classdict__" : Str)) = false := by decide) (hs : swapsWith value (some (.Subscript (.Name n p) e pos')) pos.line X.env = pure false := by rfl) :
    Run X W Γ μ (.Assign [.Subscript (.Name n p) e pos'] value pos :: rest) D := run_dputP i j hu hv.ev he hl (fun _ q => q ▸ h) hi hj hN hvs h1 h2 hs
end
/-! ### xs.index(text); x or "a" -/
section
variable {X : Cx} {W : Wd} {Γ : List DV} {μ : Mu} {o e a b : Expr} {apos pos : Pos} {ws : List (List Nat)} {w : List Nat} {j : Nat}
theorem eqV_S (a b : List Nat) : eqV (V.str (S a)) (V.str (S b)) = decide (a = b) := by
  show (S a == S b) = _
  rw [SX.S_beq_eq]
theorem ed_indexW (ho : Ed X W Γ μ o (wD ws)) (he : Ed X W Γ μ e (sD w)) (hj : ws[j]? = some w) (hno : ∀ m, m < j → ws[m]? ≠ some w)
    (hbase : attributeBase o "index" X.env (eval o X.env) = eval o X.env := by rfl)
    (hfew : ((backTo pos (starEach [e] X.env)).all (fun x => !x.1) && (backToKw pos (keywordEach [] X.env)).all (fun x => x.1.isSome)
      && decide ([e].length + ([] : List Keyword).length + (if ([] : List Keyword).isEmpty then 0 else 1) < 30)) = true := by rfl)
    (hline : (apos.endLine == pos.line) = true := by rfl) (hs : starEach [e] X.env = (false, eval e X.env) :: starEach [] X.env := by rfl) (hplain : (backTo pos (starEach [] X.env)).any (·.1) = false := by rfl) :
    Ed X W Γ μ (.Call (.Attribute o "index" apos) [e] [] pos) (nn j) := fun σ H R Q q => by
  refine (pe_bm PySem.F.plainAttrs_list PySem.F.slot_list_index PySem.F.type_list_index mt_index wE.pe (pa_cons wE.pe pa_nil hs) hbase hfew hline hs hplain).w (ho σ H R _ fun v H2 R2 e2 r2 => ?_)
  cases r2 with
  | lst ha hv =>
    refine ⟨.inl ⟨rfl, _, SqL.of (off_some ha).2⟩, he σ H2 R2 _ fun u H3 R3 e3 r3 => ?_⟩
    cases r3
    have ev := vaAll_S hv
    subst ev
    have ha3 := e3 _ _ ha
    refine ⟨_, _, _, j, V.str (S w), rfl, rfl, SqL.of (off_some ha3).2, rfl, flat_S ws, ?_, ?_, ?_, q _ H3 R3 (e2.trans e3) (.int _)⟩
    · rw [List.getElem?_map, List.getElem?_map, hj]
      rfl
    · rw [eqV_S]
      exact decide_eq_true rfl
    · intro m z hm hz
      rw [List.getElem?_map, List.getElem?_map] at hz
      cases em : ws[m]? with
      | none => rw [em] at hz; cases hz
      | some u =>
        rw [em] at hz
        cases hz
        rw [eqV_S]
        refine decide_eq_false fun eu => hno m hm ?_
        rw [em, eu]
/-- a or b, of texts -/
theorem ev_orS {P : List Nat → Prop} {B : PyData → Prop} (ha : Ev X W Γ μ a (fun d => ∃ l : List Nat, d = sD l ∧ l.length ≤ 16777216 ∧ P l)) (hb : Ev X W Γ μ b B) : Ev X W Γ μ (.BoolOp .Or [a, b] pos) (fun d => (∃ l : List Nat, d = sD l ∧ l ≠ [] ∧ P l) ∨ B d) := fun σ H R Q q => by
  refine (pe_orT wE.pe (pe_one wE.pe)).w (ha σ H R _ fun v d H2 R2 e2 r2 ⟨l, ed, hl, pl⟩ => ?_)
  subst ed
  cases r2
  refine ⟨!l.isEmpty, ⟨by rw [SX.S_len, sizeLine_eq]; exact hl, ?_⟩, ?_⟩
  · rw [SX.S_len]
    cases l with
    | nil => rfl
    | cons x l =>
      have h0 : ((l.length + 1 : Nat) : Int) ≠ 0 := by omega
      exact (bne_iff_ne.mpr h0).symm
  · cases l with
    | nil => exact iteF (hb σ H2 R2 _ fun v d H3 R3 e3 r3 pd => q v d H3 R3 (e2.trans e3) r3 (.inr pd))
    | cons x l => exact iteT (q _ _ H2 R2 e2 (.str _) (.inl ⟨x :: l, rfl, by simp, pl⟩))
end
/-! ### draws of great numbers -/
def R_takenW_pre (ds : List PyData) : Prop := ∃ m : Int, ds = [.int m] ∧ 0 < m ∧ m.natAbs < 2 ^ 200
abbrev DRAWW (P : Program) (w : World) (K : PySem.W.Frag) (mg : Str → Option Value) (base : Heap) (k : Nat) : Prop := Fd P w K mg base k "_law_taken" ["_law_row", "_law_many"] (spW K R_takenW_pre R_taken_post)
section
variable {X : Cx} {W : Wd} {Γ : List DV} {μ : Mu} {a : Expr} {pos p p2 : Pos} {n : Str} {r scr : Addr} {ns : List Int} {k : Nat}
theorem ev_takenW {z : Int} (F : DRAWW X.prog X.w X.K X.mg X.base k) (hr : Room k X.A) (hrow : W.row = some (r, scr, ns)) (i : Nat) (ha : Ed X W Γ μ a (.int z)) (h0 : 0 < z) (hz : z.natAbs < 2 ^ 200)
    (hi : Γ[i]? = some (.r r) := by rfl) (hN : X.N[i]? = some n := by rfl) (hv : Vis X.env.scope n := by first | exact Or.inl rfl | exact Or.inr (Or.inl rfl) | exact Or.inr (Or.inr rfl))
    (h1 : (n == ("__debug__" : Str)) = false := by decide) (h2 : (n == ("__classdict__" : Str)) = false := by decide) (hg : Gl X "_law_taken" := by rfl)
    (he : starEach (.Name n p2 :: [a]) X.env = (false, eval (.Name n p2) X.env) :: starEach [a] X.env := by rfl) (hpl : (backTo pos (starEach [a] X.env)).any (·.1) = false := by rfl) (he2 : starEach [a] X.env = (false, eval a X.env) :: starEach [] X.env := by rfl) :
    Ev X W Γ μ (.Call (.Name "_law_taken" p) (.Name n p2 :: [a]) [] pos) (fun d => ∃ k : Nat, d = nn k ∧ (k : Int) < z) :=
  (ev_draw F hr hrow i (A := fun ds => ds = [.int z]) ((ea_cons ha ea_nil he2).ev rfl) (fun ds e => ⟨z, e, h0, hz⟩) hi hN hv h1 h2 hg (by decide) he hpl).imp fun d ⟨ds, e, m', k', e3, e4, h5⟩ => by
    rw [e] at e3
    have := PyData.int.inj (List.cons.inj e3).1
    exact ⟨k', e4, by omega⟩
end
end HW
set_option maxHeartbeats 4000000
namespace HW
open PySem PySem.Spec PyProof.Rows L2
open SX (S)
/-! ### rows without end -/
def rview (l m : List Nat) (p : Nat) : List Nat := (seenL m).map fun a => l.getD ((p + a) % l.length) 0
def Again (l m : List Nat) (o T : Nat) : Prop := o < T ∧ T ≤ l.length ∧ rview l m o = rview l m T ∧ ((List.range T).map (rview l m)).Nodup
theorem rview_mod (l m : List Nat) (p : Nat) : rview l m (p % l.length) = rview l m p := by
  unfold rview
  refine List.map_congr_left fun a _ => ?_
  rw [Nat.mod_add_mod]
theorem again_ex {l m : List Nat} (hl : 1 ≤ l.length) : ∃ o T, Again l m o T := by
  have key : ∀ N, (¬ ((List.range N).map (rview l m)).Nodup) → ∃ o T, o < T ∧ T < N ∧ rview l m o = rview l m T ∧ ((List.range T).map (rview l m)).Nodup := by
    intro N
    induction N with
    | zero => intro h; exact absurd (by simp) h
    | succ N ih =>
      intro h
      by_cases hn : ((List.range N).map (rview l m)).Nodup
      · rw [nodup_range] at h hn
        have : ∃ p q, p < q ∧ q < N + 1 ∧ rview l m p = rview l m q := by
          apply Classical.byContradiction
          intro hc
          exact h fun p q h1 h2 e => hc ⟨p, q, h1, h2, e⟩
        obtain ⟨p, q, h1, h2, e⟩ := this
        have hq : q = N := by
          rcases Nat.lt_or_ge q N with z | z
          · exact absurd e (hn p q h1 z)
          · omega
        subst hq
        exact ⟨p, q, h1, by omega, e, (nodup_range _ _).mpr hn⟩
      · obtain ⟨o, T, a1, a2, a3, a4⟩ := ih hn
        exact ⟨o, T, a1, by omega, a3, a4⟩
  obtain ⟨o, T, a1, a2, a3, a4⟩ := key (l.length + 1) (by
    rw [nodup_range]
    intro h
    refine h 0 l.length (by omega) (by omega) ?_
    have := rview_mod l m l.length
    rw [Nat.mod_self] at this
    exact this)
  exact ⟨o, T, a1, by omega, a3, a4⟩
theorem Again.unique {l m : List Nat} {o T o' T' : Nat} (h : Again l m o T) (h' : Again l m o' T') : o = o' ∧ T = T' := by
  obtain ⟨a1, a2, a3, a4⟩ := h
  obtain ⟨b1, b2, b3, b4⟩ := h'
  rw [nodup_range] at a4 b4
  have hT : T = T' := by
    rcases Nat.lt_trichotomy T T' with z | z | z
    · exact absurd a3 (b4 o T a1 z)
    · exact z
    · exact absurd b3 (a4 o' T' b1 z)
  subst hT
  refine ⟨?_, rfl⟩
  rcases Nat.lt_trichotomy o o' with z | z | z
  · exact absurd (a3.trans b3.symm) (a4 o o' z b1)
  · exact z
  · exact absurd (b3.trans a3.symm) (a4 o' o z a1)
theorem ring_rview (l m : List Nat) : ringV l (seenL m) = (List.range l.length).map (rview l m) := rfl
theorem again_ring {l m : List Nat} {o T : Nat} (hl : 1 ≤ l.length) (h : Again l m o T) : (ringV l (seenL m)).Nodup ↔ o = 0 ∧ T = l.length := by
  have e0 : rview l m 0 = rview l m l.length := by
    have := rview_mod l m l.length
    rw [Nat.mod_self] at this
    exact this
  rw [ring_rview]
  constructor
  · intro hn
    exact h.unique ⟨by omega, Nat.le_refl _, e0, hn⟩
  · rintro ⟨rfl, rfl⟩
    exact h.2.2.2
/-- the beginning of the repeated row that is told -/
theorem again_told {l m : List Nat} {o T n : Nat} (hm : 1 ≤ m.length) (h : Again l m o T) (hn : T + m.length - 1 ≤ n * l.length) : tellsB ((List.replicate n l).flatten.take (T + m.length - 1)) m = true := by
  obtain ⟨a1, a2, a3, a4⟩ := h
  have hlen : ((List.replicate n l).flatten.take (T + m.length - 1)).length = T + m.length - 1 := by
    rw [List.length_take]
    simp
    omega
  unfold tellsB viewsL
  rw [decide_eq_true_iff, hlen, nodup_range]
  rw [nodup_range] at a4
  intro p q h1 h2 e
  refine a4 p q h1 (by omega) ?_
  have hv : ∀ p, p < T → viewL ((List.replicate n l).flatten.take (T + m.length - 1)) m p = rview l m p := fun p hp => by
    unfold viewL rview
    refine List.map_congr_left fun a ha => ?_
    have := mem_seen ha
    rw [getD_take (by omega)]
    exact rep_get l n (p + a) (by omega)
  rw [← hv p (by omega), ← hv q (by omega), e]
theorem long_views {l m : List Nat} {n : Nat} (hl : 1 ≤ l.length) (hn : l.length + m.length ≤ n * l.length) : (viewsL (List.replicate n l).flatten m).take (l.length + 1) = (List.range (l.length + 1)).map (rview l m) := by
  unfold viewsL
  have hlen : (List.replicate n l).flatten.length = n * l.length := by simp
  rw [hlen, ← List.map_take, List.take_range, Nat.min_eq_left (by omega)]
  refine List.map_congr_left fun p hp => ?_
  have hp' := List.mem_range.mp hp
  unfold viewL rview
  refine List.map_congr_left fun a ha => ?_
  have := mem_seen ha
  exact rep_get l n (p + a) (by omega)
theorem rep_len (l : List Nat) (n : Nat) : (List.replicate n l).flatten.length = n * l.length := by simp
def R_view_in (ds : List PyData) (d : PyData) : Prop := ∃ (l m : List Nat) (p : Nat), ds = [sD l, sD m, nn p] ∧ 1 ≤ l.length ∧ l.length ≤ 4000 ∧ m.length ≤ 4000 ∧ d = sD (rview l m p)
def R_need_word (ds : List PyData) (d : PyData) : Prop := ∃ l : List Nat, ds = [sD l] ∧ rowB l = true ∧ l ≠ [] ∧ d = .none
def R_first_again (ds : List PyData) (d : PyData) : Prop := ∃ (l m : List Nat) (o T : Nat), ds = [sD l, sD m] ∧ rowB l = true ∧ l ≠ [] ∧ maskB m = true ∧ Again l m o T ∧ d = pr2 (nn o) (nn T)
def R_told_to (ds : List PyData) (d : PyData) : Prop := ∃ (l m : List Nat) (o T : Nat), ds = [sD l, sD m] ∧ rowB l = true ∧ l ≠ [] ∧ maskB m = true ∧ Again l m o T ∧ d = nn (T + m.length - 1)
def R_view_far (ds : List PyData) (d : PyData) : Prop := ∃ (l m : List Nat) (p : Nat), ds = [sD l, sD m, nn p] ∧ rowB l = true ∧ l ≠ [] ∧ maskB m = true ∧ p ≤ 10 ^ 30 ∧ d = sD (rview l m p)
abbrev gMOST_PLACE (mg : Str → Option Value) : Prop := ∃ t, mg "MOST_PLACE" = some (.int 1000000000000000000000000000000 t)
/-- the dict of the places -/
def placesK (l m : List Nat) (p : Nat) : List (L2.Key × PyData) := (List.range p).map fun i => (kS (rview l m i), nn i)
theorem kS_inj {a b : List Nat} (h : kS a = kS b) : a = b := S_inj (Sum.inr.inj h)
theorem places_none {l m : List Nat} {p : Nat} {w : List Nat} (h : ∀ i, i < p → rview l m i ≠ w) : vK (placesK l m p) (kS w) = none := by
  unfold vK placesK
  rw [Option.map_eq_none_iff, List.find?_eq_none]
  intro q hq
  obtain ⟨i, hi, rfl⟩ := List.mem_map.mp hq
  have := h i (List.mem_range.mp hi)
  simp only [decide_eq_true_eq]
  exact fun e => this (kS_inj e)
theorem places_some {l m : List Nat} {p o : Nat} {w : List Nat} (ho : o < p) (h : ((List.range p).map (rview l m)).Nodup) (e : rview l m o = w) : vK (placesK l m p) (kS w) = some (nn o) := by
  rw [nodup_range] at h
  unfold vK placesK
  have e1 : p = o + (1 + (p - o - 1)) := by omega
  rw [e1, List.range_add, List.map_append, List.find?_append]
  have e2 : ((List.range o).map fun i => (kS (rview l m i), nn i)).find? (fun kv => decide (kv.1 = kS w)) = none := by
    rw [List.find?_eq_none]
    intro q hq
    obtain ⟨i, hi, rfl⟩ := List.mem_map.mp hq
    have hi' := List.mem_range.mp hi
    simp only [decide_eq_true_eq]
    intro z
    exact h i o hi' ho ((kS_inj z).trans e.symm)
  rw [e2, Nat.add_comm 1, List.range_succ_eq_map]
  simp [e]
end HW
set_option maxHeartbeats 4000000
namespace HW
open PySem PySem.Spec PyProof.Rows L2
open SX (S)
/-! ### local lists: copied, read, written at a place -/
section
variable {X : Cx} {W W0 : Wd} {Γ : List DV} {μ : Mu} {e value i' : Expr} {rest : List Stmt} {D : Ends} {pos p p1 p2 pos' : Pos} {n : Str} {l : Addr} {d y : PyData} {ds ys : List PyData} {z : Int}
/-- x = list(e), a new local list -/
theorem run_copyL (i : Nat) (he : Ed X W Γ μ e (.list ds)) (h : ∀ l, Run X W (Γ.set i (.r l)) ((l, .lst ds) :: μ) rest D) (hm : X.mg "list" = none) (nd : X.N.Nodup) (hN : X.N[i]? = some n := by rfl) (hg : Gl X "list" := by rfl) (hx : Loc X.env.scope n := by first | exact Or.inl rfl | exact Or.inr rfl)
    (hs1 : starEach [e] X.env = (false, eval e X.env) :: starEach [] X.env := by rfl) (hpl : (backTo pos' (starEach [] X.env)).any (·.1) = false := by rfl)
    (hs : swapsWith (.Call (.Name "list" p2) [e] [] pos') (some (.Name n p)) pos.line X.env = pure false := by rfl) (hf : X.fn n = true ∨ X.env.scope.names.lookup n = some .local := by first | exact .inr rfl | exact .inl rfl) : Run X W Γ μ (.Assign [.Name n p] (.Call (.Name "list" p2) [e] [] pos') pos :: rest) D := fun σ H R => by
  refine wSs_cons ((ps_set nd hN hx (pe_callTy call_list_of hg hm boot_list (pa_cons wE.pe pa_nil hs1) (by decide) (by decide) hs1 hpl) hs hf).w ?_)
  refine he σ H R _ fun v H2 R2 e2 r2 => ?_
  cases r2 with
  | lst ha hv =>
    refine ⟨_, _, rfl, .inl (SqL.of (off_some ha).2), fun a hna => h a _ _ ?_⟩
    have R3 := R2.born (m := .lst ds) (o := .lst _) hna ⟨_, upd_same, hv⟩
    exact ⟨R3.wd, R3.fr, R3.sl.setr i, R3.mu, R3.nd⟩
/-- x[e] of a local list -/
theorem ed_lix (i j k : Nat) (he : Ed X W Γ μ e (.int z)) (hk : ys[k]? = some d) (ez : z = (k : Int) := by rfl) (hi : Γ[i]? = some (.r l) := by rfl) (hj : μ[j]? = some (l, .lst ys) := by rfl) (hN : X.N[i]? = some n := by rfl) (hv : Vis X.env.scope n := by first | exact Or.inl rfl | exact Or.inr (Or.inl rfl) | exact Or.inr (Or.inr rfl))
    (h1 : (n == ("__debug__" : Str)) = false := by decide) (h2 : (n == ("__classdict__" : Str)) = false := by decide) (hs : PlainIx e := by exact fun _ _ => rfl) : Ed X W Γ μ (.Subscript (.Name n p) e pos) d := fun σ H R Q q => by
  refine (pe_ix ix_list (pe_var hN hv h1 h2) wE.pe hs).w ?_
  obtain ⟨o, g1, g2⟩ := R.sl.at_ i _ hi
  have g2' : o = some (.ref l) := g2
  subst g2'
  refine ⟨_, g1, he σ H R _ fun v H2 R2 e2 r2 => ?_⟩
  cases r2
  obtain ⟨xs, hx, hxv⟩ := (R2.mu _ (List.mem_of_getElem? hj)).2
  obtain ⟨u, hu, ru⟩ := hxv.at hk
  exact ⟨l, xs, z, u, rfl, rfl, SqL.of hx, at_nat ez hu, q u H2 R2 e2 ru⟩
theorem vaAll_set {K : PySem.W.Frag} {H : Hp} {v : V} {d : PyData} (r : Va K H v d) : ∀ {vs : List V} {ds : List PyData} (k : Nat), VaAll K H vs ds → VaAll K H (vs.set k v) (ds.set k d)
  | _, _, _, .nil => .nil
  | _, _, 0, .cons _ t => .cons r t
  | _, _, k + 1, .cons h t => .cons h (vaAll_set r k t)
/-- x[e] = value, x a local list -/
theorem run_lset (i j k : Nat) (hv : Ed X W Γ μ value d) (he : Ed X W Γ μ e (.int z)) (hk : k < ys.length) (h : Run X W Γ (μ.set j (l, .lst (ys.set k d))) rest D) (ez : z = (k : Int) := by rfl) (hi : Γ[i]? = some (.r l) := by rfl) (hj : μ[j]? = some (l, .lst ys) := by rfl) (hN : X.N[i]? = some n := by rfl) (hvs : Vis X.env.scope n := by first | exact Or.inl rfl | exact Or.inr (Or.inl rfl) | exact Or.inr (Or.inr rfl))
    (h1 : (n == ("__debug__" : Str)) = false := by decide) (h2 : (n == ("__classdict__" : Str)) = false := by decide)
    (hsw : swapsWithSole [.Subscript (.Name n p) e pos'] value pos.line X.env = pure false := by rfl) (hw : swappedStores [.Subscript (.Name n p) e pos'] value X.env = pure none := by rfl)
    (ha : (assignEach [.Subscript (.Name n p) e pos'] X.env).map (·.2) = [assign (.Subscript (.Name n p) e pos') X.env] := by rfl)
    (hasg : ∀ v, assign (.Subscript (.Name n p) e pos') X.env v = (do let ov ← holding [v] (eval (.Name n p) X.env); let iv ← holding [v, ov] (eval e X.env); PySem.standAt pos'; holding [v, ov, iv] (setItem ov iv v); release [v, ov, iv] []) := by intro _; rfl) :
    Run X W Γ μ (.Assign [.Subscript (.Name n p) e pos'] value pos :: rest) D := fun σ H R => by
  refine wSs_cons ((ps_asg wE.pe (pg_sub (pe_var hN hvs h1 h2) wE.pe set_list hasg) hsw hw ha).w (hv σ H R _ fun v H2 R2 e2 r2 => ?_))
  obtain ⟨o, g1, g2⟩ := R2.sl.at_ i _ hi
  have g2' : o = some (.ref l) := g2
  subst g2'
  refine ⟨_, g1, he σ H2 R2 _ fun u H3 R3 e3 r3 => ?_⟩
  cases r3
  obtain ⟨xs, hx, hxv⟩ := (R3.mu _ (List.mem_of_getElem? hj)).2
  refine ⟨l, xs, z, k, rfl, rfl, hx, ?_, h _ _ (R3.chg hj ⟨_, upd_same, vaAll_set (r2.up e3) k hxv⟩)⟩
  subst ez
  unfold ixN
  rw [if_pos (Int.natCast_nonneg k), if_pos (by rw [hxv.length]; omega)]
  rfl
/-- isinstance(e, (A, B)) -/
theorem ed_isi2 {T1 T2 : String} {n1 n2 : Str} {b : Bool} {kt : Nat} {pt q1 q2 : Pos} (he : Ed X W Γ μ e d) (hm : X.mg "isinstance" = none) (hm1 : X.mg n1 = none) (hv1 : bootBuiltins n1 = some (.type T1)) (hm2 : X.mg n2 = none) (hv2 : bootBuiltins n2 = some (.type T2)) (hk : ∀ K, PySem.W.kitAny K (.type (tyD d)) [.type T1, .type T2] = some b := by intro K; rfl) (hp : isPtr d = false := by first | rfl | assumption) (hg : Gl X "isinstance" := by rfl) (hg1 : Gl X n1 := by rfl) (hg2 : Gl X n2 := by rfl)
    (hn1 : n1 ≠ "__name__" := by decide) (hd1 : (n1 == ("__debug__" : Str)) = false := by decide) (hn2 : n2 ≠ "__name__" := by decide) (hd2 : (n2 == ("__debug__" : Str)) = false := by decide)
    (hs : starEach [e, .Tuple [.Name n1 q1, .Name n2 q2] kt pt] X.env = (false, eval e X.env) :: starEach [.Tuple [.Name n1 q1, .Name n2 q2] kt pt] X.env := by rfl) (hs2 : starEach [.Tuple [.Name n1 q1, .Name n2 q2] kt pt] X.env = (false, eval (.Tuple [.Name n1 q1, .Name n2 q2] kt pt) X.env) :: starEach [] X.env := by rfl) (hpl : (backTo pos (starEach [.Tuple [.Name n1 q1, .Name n2 q2] kt pt] X.env)).any (·.1) = false := by rfl)
    (hs3 : starEach [.Name n1 q1, .Name n2 q2] X.env = (false, eval (.Name n1 q1) X.env) :: starEach [.Name n2 q2] X.env := by rfl) (hs4 : starEach [.Name n2 q2] X.env = (false, eval (.Name n2 q2) X.env) :: starEach [] X.env := by rfl) :
    Ed X W Γ μ (.Call (.Name "isinstance" p) [e, .Tuple [.Name n1 q1, .Name n2 q2] kt pt] [] pos) (.bool b) := fun σ H R Q q => by
  refine (pe_callB call_isiT hg hm boot_isinstance (pa_cons wE.pe (pa_cons (pe_tup (pa_cons (pe_bltn (v := .ty T1) hg1 hm1 hv1 rfl hn1 hd1) (pa_cons (pe_bltn (v := .ty T2) hg2 hm2 hv2 rfl hn2 hd2) pa_nil hs4) hs3)) pa_nil hs2) hs) (by decide) (by decide) hs hpl).w (he σ H R _ fun v H2 R2 e2 r2 => ?_)
  refine ⟨by show 2 ≤ sizeLine; decide, fun t ht => ?_⟩
  have sm := same_new (o := HO.tup [.ty T1, .ty T2]) ht
  have r3 := r2.up (XT.same (L := hd W μ) sm)
  exact ⟨_, t, _, _, _, b, rfl, upd_same, .cons (.ty T1) (.cons (.ty T2) .nil), va_ty r3 hp, hk _, q _ _ (R2.same sm) (e2.trans (XT.same sm)) (.bl b)⟩
end
/-! ### rows put together -/
def layS (p : Nat) (acc : Option (List Nat)) (q : Nat × Nat) : Option (List Nat) := match acc with
  | none => none
  | some f => if q.1 = 63 then some f else if f.getD (p + q.2) 0 ∈ [63, q.1] then some (f.set (p + q.2) q.1) else none
def laidL (m f : List Nat) (p : Nat) (v : List Nat) : Option (List Nat) := (v.zip (seenL m)).foldl (layS p) (some f)
def clashGo (m : List Nat) : Nat → List Nat → List (List Nat) → List Nat × Option Nat
  | _, f, [] => (f, none)
  | p, f, v :: vs => match laidL m f p v with
    | none => (f, some p)
    | some g => clashGo m (p + 1) g vs
abbrev gL (f : List Nat) : PyData := .list (f.map sg)
def optL : Option (List Nat) → PyData
  | none => .none
  | some f => gL f
theorem lay_none (p : Nat) : ∀ qs : List (Nat × Nat), qs.foldl (layS p) none = none
  | [] => rfl
  | q :: qs => lay_none p qs
theorem layS_len {p : Nat} {f g : List Nat} {q : Nat × Nat} (h : layS p (some f) q = some g) : g.length = f.length := by
  simp only [layS] at h
  split at h
  · cases h; rfl
  · split at h
    · cases h
      exact List.length_set
    · cases h
theorem lay_len {p : Nat} : ∀ {qs : List (Nat × Nat)} {f g : List Nat}, qs.foldl (layS p) (some f) = some g → g.length = f.length
  | [], f, g, h => by cases h; rfl
  | q :: qs, f, g, h => by
    rw [List.foldl_cons] at h
    cases e : layS p (some f) q with
    | none => rw [e, lay_none] at h; cases h
    | some f2 =>
      rw [e] at h
      rw [lay_len h, layS_len e]
theorem laid_len {m f v g : List Nat} {p : Nat} (h : laidL m f p v = some g) : g.length = f.length := lay_len h
/-- up to the i-th sign -/
def layI (m f : List Nat) (p : Nat) (v : List Nat) (i : Nat) : Option (List Nat) := ((v.zip (seenL m)).take i).foldl (layS p) (some f)
theorem layI_succ {m f v : List Nat} {p i : Nat} {q : Nat × Nat} (h : (v.zip (seenL m))[i]? = some q) : layI m f p v (i + 1) = layS p (layI m f p v i) q := by
  unfold layI
  rw [List.take_add_one, h, List.foldl_append]
  rfl
theorem layI_stop {m f v : List Nat} {p i : Nat} (h : layI m f p v i = none) : laidL m f p v = none := by
  unfold laidL
  unfold layI at h
  rw [← List.take_append_drop i (v.zip (seenL m)), List.foldl_append, h, lay_none]
def clashL (m : List Nat) (vs : List (List Nat)) : List Nat × Option Nat := clashGo m 0 (List.replicate (m.length + vs.length - 1) 63) vs
theorem clashGo_some {m : List Nat} : ∀ (vs : List (List Nat)) (p : Nat) (f : List Nat) (i : Nat) (g v : List Nat), clashGo m p f (vs.take i) = (g, none) → vs[i]? = some v → laidL m g (p + i) v = none → clashGo m p f vs = (g, some (p + i))
  | [], p, f, i, g, v, h1, h2, h3 => by simp at h2
  | u :: vs, p, f, 0, g, v, h1, h2, h3 => by
    cases h1
    cases h2
    unfold clashGo
    have h3' : laidL m f p u = none := h3
    rw [h3']
    rfl
  | u :: vs, p, f, i + 1, g, v, h1, h2, h3 => by
    rw [List.take_succ_cons] at h1
    unfold clashGo at h1 ⊢
    cases e : laidL m f p u with
    | none =>
      rw [e] at h1
      exact absurd (congrArg Prod.snd h1) (by simp)
    | some f' =>
      rw [e] at h1
      have ep : p + 1 + i = p + (i + 1) := by omega
      have z := clashGo_some vs (p + 1) f' i g v h1 (by simpa using h2) (by rw [ep]; exact h3)
      show clashGo m (p + 1) f' vs = _
      rw [z, ep]
theorem clashGo_step {m : List Nat} : ∀ (vs : List (List Nat)) (p : Nat) (f : List Nat) (i : Nat) (g v g' : List Nat), clashGo m p f (vs.take i) = (g, none) → vs[i]? = some v → laidL m g (p + i) v = some g' → clashGo m p f (vs.take (i + 1)) = (g', none)
  | [], p, f, i, g, v, g', h1, h2, h3 => by simp at h2
  | u :: vs, p, f, 0, g, v, g', h1, h2, h3 => by
    cases h1
    cases h2
    rw [List.take_succ_cons]
    unfold clashGo
    have h3' : laidL m f p u = some g' := h3
    rw [h3']
    rfl
  | u :: vs, p, f, i + 1, g, v, g', h1, h2, h3 => by
    rw [List.take_succ_cons] at h1 ⊢
    unfold clashGo at h1 ⊢
    cases e : laidL m f p u with
    | none =>
      rw [e] at h1
      exact absurd (congrArg Prod.snd h1) (by simp)
    | some f' =>
      rw [e] at h1
      exact clashGo_step vs (p + 1) f' i g v g' h1 (by simpa using h2) (by
        have ep : p + 1 + i = p + (i + 1) := by omega
        rw [ep]
        exact h3)
theorem clash_len {m : List Nat} : ∀ (vs : List (List Nat)) (p : Nat) (f : List Nat), (clashGo m p f vs).1.length = f.length
  | [], p, f => rfl
  | v :: vs, p, f => by
    unfold clashGo
    cases e : laidL m f p v with
    | none => rfl
    | some g =>
      show (clashGo m (p + 1) g vs).1.length = _
      rw [clash_len vs (p + 1) g, laid_len e]
/-- signs of looks -/
def lkS (f : List Nat) : Prop := ∀ c ∈ f, c = 63 ∨ 97 ≤ c ∧ c < 101
theorem layS_signs {p : Nat} {f g : List Nat} {q : Nat × Nat} (hq : q.1 = 63 ∨ 97 ≤ q.1 ∧ q.1 < 101) (hf : lkS f) (h : layS p (some f) q = some g) : lkS g := by
  simp only [layS] at h
  split at h
  · cases h; exact hf
  · split at h
    · cases h
      intro c hc
      rcases List.mem_or_eq_of_mem_set hc with z | z
      · exact hf c z
      · rw [z]; exact hq
    · cases h
theorem lay_signs {p : Nat} : ∀ {qs : List (Nat × Nat)} {f g : List Nat}, (∀ q ∈ qs, q.1 = 63 ∨ 97 ≤ q.1 ∧ q.1 < 101) → lkS f → qs.foldl (layS p) (some f) = some g → lkS g
  | [], f, g, _, hf, h => by cases h; exact hf
  | q :: qs, f, g, hq, hf, h => by
    rw [List.foldl_cons] at h
    cases e : layS p (some f) q with
    | none => rw [e, lay_none] at h; cases h
    | some f2 =>
      rw [e] at h
      exact lay_signs (fun x hx => hq x (List.mem_cons_of_mem _ hx)) (layS_signs (hq q List.mem_cons_self) hf e) h
theorem clash_signs {m : List Nat} : ∀ (vs : List (List Nat)) (p : Nat) (f : List Nat), (∀ v ∈ vs, lkS v) → lkS f → lkS (clashGo m p f vs).1
  | [], p, f, _, hf => hf
  | v :: vs, p, f, hv, hf => by
    unfold clashGo
    cases e : laidL m f p v with
    | none => exact hf
    | some g =>
      refine clash_signs vs (p + 1) g (fun u hu => hv u (List.mem_cons_of_mem _ hu)) (lay_signs (p := p) (fun q hq => ?_) hf e)
      exact hv v List.mem_cons_self q.1 (List.of_mem_zip hq).1
def R_laid (ds : List PyData) (d : PyData) : Prop := ∃ (m f v : List Nat) (p : Nat), ds = [sD m, gL f, nn p, sD v] ∧ m.length ≤ 4000 ∧ p + m.length ≤ f.length ∧ f.length ≤ 100000 ∧ v.length ≤ 4000 ∧ d = optL (laidL m f p v)
/-- a list or a tuple of looks -/
def seqD (t : Bool) (ds : List PyData) : PyData := if t then .tuple ds else .list ds
def R_need_views (ds : List PyData) (d : PyData) : Prop := ∃ (m : List Nat) (t : Bool) (vs : List (List Nat)) (most : Nat), ds = [sD m, seqD t (vs.map sD), nn most] ∧ m.length ≤ 4000 ∧ 1 ≤ vs.length ∧ vs.length ≤ most ∧ most ≤ 4000 ∧ (∀ v ∈ vs, lookB m v = true) ∧ d = .none
def R_clash_of (ds : List PyData) (d : PyData) : Prop := ∃ (m : List Nat) (t : Bool) (vs : List (List Nat)), ds = [sD m, seqD t (vs.map sD)] ∧ 1 ≤ m.length ∧ m.length ≤ 4000 ∧ 1 ≤ vs.length ∧ vs.length ≤ 4000 ∧ (∀ v ∈ vs, v.length ≤ 4000) ∧ d = pr2 (gL (clashL m vs).1) (optN (clashL m vs).2)
def joinO (m : List Nat) (vs : List (List Nat)) : PyData := match (clashL m vs).2 with
  | none => sD (clashL m vs).1
  | some _ => .none
def R_joined (ds : List PyData) (d : PyData) : Prop := ∃ (m : List Nat) (t : Bool) (vs : List (List Nat)), ds = [sD m, seqD t (vs.map sD)] ∧ maskB m = true ∧ 1 ≤ vs.length ∧ vs.length ≤ 60 ∧ (∀ v ∈ vs, lookB m v = true) ∧ d = joinO m vs
def R_first_clash (ds : List PyData) (d : PyData) : Prop := ∃ (m : List Nat) (t : Bool) (vs : List (List Nat)), ds = [sD m, seqD t (vs.map sD)] ∧ maskB m = true ∧ 1 ≤ vs.length ∧ vs.length ≤ 60 ∧ (∀ v ∈ vs, lookB m v = true) ∧ d = optN (clashL m vs).2
def R_law_laid (ds : List PyData) (d : PyData) : Prop := ∃ (m : List Nat) (vs : List (List Nat)), ds = [sD m, wD vs] ∧ 1 ≤ m.length ∧ m.length ≤ 4000 ∧ 1 ≤ vs.length ∧ vs.length ≤ 4000 ∧ (∀ v ∈ vs, v.length = (seenL m).length) ∧ d = .list [sD (clashL m vs).1, optN (clashL m vs).2]
def pre_looks (ds : List PyData) : Prop := ∃ (m : List Nat) (q : Nat), ds = [sD m, nn q] ∧ maskB m = true ∧ 1 ≤ q ∧ q ≤ 3900
def post_looks (ds : List PyData) (d : PyData) : Prop := ∃ (m : List Nat) (q : Nat) (vs : List (List Nat)), ds = [sD m, nn q] ∧ d = wD vs ∧ vs.length = q ∧ ∀ v ∈ vs, lookB m v = true
end HW
set_option maxHeartbeats 4000000
namespace HW
open PySem PySem.Spec PyProof.Rows L2
open SX (S)
/-! ### enumerate over text, list or tuple -/
open Sem (wp) in
open AutoSeq1 (wpAny_loadPart') in
theorem meets_enumN {v : Value} {o : Obj} {H : Heap → Prop} (B : Begins v o H) :
    Meets (Builtin.«enumerate.__new__» ⟨[.type "enumerate", v], []⟩) (fun _ R s => H s.heap ∧
      R (.ok (.ret (.ref (s.heap.push o).objs.size))) { s with heap := (s.heap.push o).push { cls := .type "enumerate", data := .fields #[.none, .bool false, .ref s.heap.objs.size, rawInt 0, .none, .none] } }) :=
  .of_wp fun prog w A R s h => by
    obtain ⟨hp, g, d, tk, os⟩ := s; obtain ⟨h1, h⟩ := h
    have hsub := sub_enumerate
    have q1 : ∀ {A' : Around} {E : Value → Shared → Prop} {Q : Value → Shared → Prop}, Q (.ref hp.objs.size) ⟨hp.push o, g, d, tk, os⟩ → wpAny (model prog w) A' (pyIter v) Q E ⟨hp, g, d, tk, os⟩ :=
      fun q => B.iter prog w _ _ ⟨hp, g, d, tk, os⟩ _ h1 q
    wp_walk using q1
    refine wpAny_stack_any fun st => wpAny_pure ?_
    split
    · rename_i c _ _ _ _ _
      cases (c == Value.type "enumerate")
      · wp_walk using q1
        exact ⟨_, rfl, h⟩
      · wp_walk using q1
        exact ⟨_, rfl, h⟩
    · wp_walk using q1
      exact ⟨_, rfl, h⟩
theorem enum_begins1 {prog : Program} {w : World} {A : Around} {E : Value → Shared → Prop} {s : Shared} {v : Value} {o : Obj} {H : Heap → Prop} {Q : Value → Shared → Prop} (B : Begins v o H) (h1 : H s.heap)
    (h : ∀ h', IsEnum h' (s.heap.objs.size + 1) s.heap.objs.size 0 .none → h'.get? s.heap.objs.size = some o → h'.objs.size = s.heap.objs.size + 2 →
      (∀ b o, s.heap.get? b = some o → h'.get? b = some o) → Q (.ref (s.heap.objs.size + 1)) { s with heap := h' }) :
    wpAny (model prog w) A (call (.type "enumerate") [v]) Q E s := by
  refine callType_new F.called_enumerate (by decide) (F.typeCall_enumerate_1 _) (F.newCall_enumerate_1 _) (fun obj => F.args_object_init_2 obj _) F.entry_enumerate_new
    (meets_enumN B) ⟨h1, ?_⟩
  have hz : (s.heap.push o).objs.size = s.heap.objs.size + 1 := Heap.size_push ..
  show _ ∧ _
  rw [hz]
  have he : IsEnum ((s.heap.push o).push { cls := .type "enumerate", data := .fields #[.none, .bool false, .ref s.heap.objs.size, rawInt 0, .none, .none] }) (s.heap.objs.size + 1) s.heap.objs.size 0 .none := by
    have := Heap.get?_push_size (s.heap.push o) (o := { cls := .type "enumerate", data := .fields #[.none, .bool false, .ref s.heap.objs.size, rawInt 0, .none, .none] }) rfl
    rw [hz] at this; exact this
  refine ⟨⟨_, he, rfl⟩, h _ he (Heap.get?_push_of_some _ (Heap.get?_push_size _ B.free)) (by rw [Heap.size_push, hz]) fun b o x => Heap.get?_push_of_some _ (Heap.get?_push_of_some _ x)⟩
def iEnumN (K : PySem.W.Frag) (ta : TA) : TI := fun σ H R => ta σ H fun vs H1 => ∃ a xs, vs = [Sc.v a] ∧ a.xs K H1 xs ∧ R (IteS K a) H1
theorem pi_enumN {X : Cx} {e : Expr} {ta : TA} {p pos tpos : Pos} {elts : List Expr} {kk : Nat} (hg : Gl X "enumerate") (hm : X.mg "enumerate" = none) (ha : PA X [e] ta) (hs : starEach [e] X.env = [(false, eval e X.env)] := by rfl) :
    PI X (.Tuple elts kk tpos) (.Call (.Name "enumerate" p) [e] [] pos) (iEnumN X.K ta) := by
  refine ⟨fun pins s σ H R I h => ?_⟩
  refine Call_ (ld_blt I hg hm boot_enumerate (PyProof.Rows.callWith_type1 (thn (ha.run pos pins s σ H _ I h) fun us s1 ⟨vs, H1, I1, r1, q1⟩ => ?_) hs rfl))
  obtain ⟨a, xs, ex, hq, q⟩ := q1
  subst ex
  cases r1 with
  | cons r rr =>
    cases rr
    obtain ⟨t, o, G1, B1, g1, hfp, i1⟩ := sc_begins I1 hq r
    refine enum_begins1 B1 g1 fun h' he hit hsz hk => wpAny_pyIter_enum he ?_
    have I2 : Inv X pins σ H1 { s1 with heap := h' } := I1.kept (t' := s1.toks) hk
    refine ⟨s1.heap.objs.size + 1, [s1.heap.objs.size + 1, s1.heap.objs.size], _, _, H1, rfl, I2, turn_enumS t hfp, ⟨⟨.none, he⟩, i1 _ _ hit⟩, fun b hb => ?_, q⟩
    have e' : b = s1.heap.objs.size + 1 ∨ b = s1.heap.objs.size := by simpa using hb
    have hle : s1.heap.objs.size ≤ b := by
      rcases e' with z | z
      · rw [z]; exact Nat.le_add_right _ _
      · rw [z]; exact Nat.le_refl _
    exact I1.fpOk hle (I1.hok.fresh hle)
section
variable {X : Cx} {W : Wd} {Γ : List DV} {μ : Mu} {α : Type} {a : Expr} {pos p tpos : Pos} {elts : List Expr} {kk : Nat} {d : PyData} {enc : α → PyData} {xs : List α}
theorem it_enumN (h : Ed X W Γ μ a d) (hm : X.mg "enumerate" = none) (e : itemsD d = some (xs.map enc)) (hg : Gl X "enumerate" := by rfl) (hs : starEach [a] X.env = [(false, eval a X.env)] := by rfl) :
    IterD X W Γ μ (.Tuple elts kk tpos) (.Call (.Name "enumerate" p) [a] [] pos) (fun q : Nat × α => pr2 (nn q.1) (enc q.2)) (xs.mapIdx Prod.mk) := ⟨_, pi_enumN hg hm wA.pa hs, fun σ H R R' k => (ea_cons h ea_nil (by rw [hs]; rfl)) σ H R _ fun vs H1 R1 e1 r => by
  cases r with
  | cons r rr =>
    cases rr
    obtain ⟨sc, vs, rfl, h1, h2, h3⟩ := va_sc r e
    refine ⟨sc, vs, rfl, h1 H1 same_off, k _ _ H1 rfl R1 e1 ?_⟩
    have z := walk_enumS h1 h2
    have e : ((xs.map enc).mapIdx fun i d => pr2 (nn i) d) = (xs.mapIdx Prod.mk).map fun q : Nat × α => pr2 (nn q.1) (enc q.2) := by
      apply List.ext_getElem?
      intro i
      simp only [List.getElem?_mapIdx, List.getElem?_map, Option.map_map]
      rfl
    rw [e] at z
    exact z⟩
theorem seqD_items {t : Bool} {ds : List PyData} : itemsD (seqD t ds) = some ds := by cases t <;> rfl
theorem lenSq {t : Bool} {ds : List PyData} {p2 : Pos} (G : Gs X.mg) (h : Ed X W Γ μ a (seqD t ds)) (hg : Gl X "len" := by rfl) (he : starEach [a] X.env = (false, eval a X.env) :: starEach [] X.env := by rfl) : Ed X W Γ μ (.Call (.Name "len" p2) [a] [] pos) (nn ds.length) := by
  cases t
  · exact lenL G h hg he
  · exact lenT G h hg he
/-- isinstance(e, (list, tuple)) of a list or a tuple -/
theorem ed_isLT {t : Bool} {ds : List PyData} {kt : Nat} {pt q1 q2 : Pos} (he : Ed X W Γ μ a (seqD t ds)) (hm : X.mg "isinstance" = none) (hm1 : X.mg "list" = none) (hm2 : X.mg "tuple" = none) (hg : Gl X "isinstance" := by rfl) (hg1 : Gl X "list" := by rfl) (hg2 : Gl X "tuple" := by rfl)
    (hs : starEach [a, .Tuple [.Name "list" q1, .Name "tuple" q2] kt pt] X.env = (false, eval a X.env) :: starEach [.Tuple [.Name "list" q1, .Name "tuple" q2] kt pt] X.env := by rfl) (hs2 : starEach [.Tuple [.Name "list" q1, .Name "tuple" q2] kt pt] X.env = (false, eval (.Tuple [.Name "list" q1, .Name "tuple" q2] kt pt) X.env) :: starEach [] X.env := by rfl) (hpl : (backTo pos (starEach [.Tuple [.Name "list" q1, .Name "tuple" q2] kt pt] X.env)).any (·.1) = false := by rfl)
    (hs3 : starEach [.Name "list" q1, .Name "tuple" q2] X.env = (false, eval (.Name "list" q1) X.env) :: starEach [.Name "tuple" q2] X.env := by rfl) (hs4 : starEach [.Name "tuple" q2] X.env = (false, eval (.Name "tuple" q2) X.env) :: starEach [] X.env := by rfl) :
    Ed X W Γ μ (.Call (.Name "isinstance" p) [a, .Tuple [.Name "list" q1, .Name "tuple" q2] kt pt] [] pos) (.bool true) := by
  cases t
  · exact ed_isi2 he hm hm1 boot_list hm2 boot_tuple (by intro K; rfl) rfl hg hg1 hg2 (by decide) (by decide) (by decide) (by decide) hs hs2 hpl hs3 hs4
  · exact ed_isi2 he hm hm1 boot_list hm2 boot_tuple (by intro K; rfl) rfl hg hg1 hg2 (by decide) (by decide) (by decide) (by decide) hs hs2 hpl hs3 hs4
end
/-! ### looks laid -/
theorem rep_sg {f0 : List Nat} {a b : Nat} (h : f0 = List.replicate (a + b - 1) 63) (h1 : 1 ≤ a) : PyData.list (List.replicate ((a : Int) + (b : Int) - 1).toNat [sD [63]]).flatten = gL f0 := by
  have e : ((a : Int) + (b : Int) - 1).toNat = a + b - 1 := by omega
  rw [e, h]
  show PyData.list _ = PyData.list _
  rw [List.map_replicate]
  congr 1
  generalize a + b - 1 = n
  induction n with
  | zero => rfl
  | succ n ih => rw [List.replicate_succ, List.replicate_succ, List.flatten_cons, ih]; rfl
theorem lkS_low {l : List Nat} (h : lkS l) : ∀ c ∈ l, c < 128 := fun c hc => by
  have := h c hc
  omega
theorem shp_join {m : List Nat} {vs : List (List Nat)} (h : ∀ v ∈ vs, lookB m v = true) : Shp 0 (joinO m vs) := by
  unfold joinO
  split
  · exact Shp.str (lkS_low (clash_signs vs 0 _ (fun v hv => (lookB_iff.mp (h v hv)).2) fun c hc => .inl (List.eq_of_mem_replicate hc)))
  · exact Shp.non
theorem joinO_if (m : List Nat) (vs : List (List Nat)) : (if decide ((clashL m vs).2 = none) = true then sD (clashL m vs).1 else PyData.none) = joinO m vs := by
  unfold joinO
  cases (clashL m vs).2 <;> rfl
theorem shp_optN (q : Option Nat) : Shp 0 (optN q) := by
  cases q
  · exact Shp.non
  · exact Shp.int
section
variable {X : Cx} {W : Wd} {Γ : List DV} {μ : Mu} {a b : Expr} {pos p p2 : Pos} {n : Str} {r scr : Addr} {ns : List Int} {k : Nat} {l m : List Nat}
/-- _law_looks(_law_row, a, b) -/
theorem ev_looks (A : Nat) (F : Fd X.prog X.w X.K X.mg X.base k "_law_looks" ["_law_row", "_law_mask_here", "_law_many"] (spW X.K pre_looks post_looks)) (hr : Room k X.A) (hrow : W.row = some (r, scr, ns)) (j : Nat) (ha : Ed X W Γ μ a (sD m)) (hb : Ev X W Γ μ b (fun z => ∃ q : Nat, z = nn q ∧ 1 ≤ q ∧ q ≤ A)) (hm : maskB m = true) (hA : A ≤ 3900 := by decide)
    (hi : Γ[j]? = some (.r r) := by rfl) (hN : X.N[j]? = some n := by rfl) (hv : Vis X.env.scope n := by first | exact Or.inl rfl | exact Or.inr (Or.inl rfl) | exact Or.inr (Or.inr rfl))
    (h1 : (n == ("__debug__" : Str)) = false := by decide) (h2 : (n == ("__classdict__" : Str)) = false := by decide) (hg : Gl X "_law_looks" := by rfl)
    (he : starEach (.Name n p2 :: [a, b]) X.env = (false, eval (.Name n p2) X.env) :: starEach [a, b] X.env := by rfl) (hpl : (backTo pos (starEach [a, b] X.env)).any (·.1) = false := by rfl) (he2 : starEach [a, b] X.env = (false, eval a X.env) :: starEach [b] X.env := by rfl) (he3 : starEach [b] X.env = (false, eval b X.env) :: starEach [] X.env := by rfl) :
    Ev X W Γ μ (.Call (.Name "_law_looks" p) (.Name n p2 :: [a, b]) [] pos) (fun d => ∃ vs : List (List Nat), d = wD vs ∧ 1 ≤ vs.length ∧ vs.length ≤ A ∧ ∀ v ∈ vs, lookB m v = true) :=
  (ev_draw F hr hrow j (A := fun ds => ∃ q : Nat, ds = [sD m, nn q] ∧ 1 ≤ q ∧ q ≤ A) (eva_cons (ha.evP (P := fun z => z = sD m) rfl) (eva_cons hb eva_nil he3) he2 |>.imp fun ds ⟨x, r, e, e2, y, r2, e3, ⟨q2, e4, h4⟩, e5⟩ => ⟨q2, by rw [e, e2, e3, e4, e5], h4⟩) (fun ds ⟨q, e, h3, h4⟩ => ⟨m, q, e, hm, h3, by omega⟩) hi hN hv h1 h2 hg (by decide) he hpl).imp fun d ⟨ds, ⟨q, e, h3, h4⟩, hp⟩ => by
    obtain ⟨m', q', vs, e2, e3, hl, hall⟩ := hp
    rw [e] at e2
    have e4 := PyData.str.inj (List.cons.inj e2).1
    have e5 := PyData.int.inj (List.cons.inj (List.cons.inj e2).2).1
    rw [← S_inj e4] at hall
    exact ⟨vs, e3, by omega, by omega, hall⟩
end
end HW
set_option maxHeartbeats 4000000
namespace HW
open PySem PySem.Spec PyProof.Rows L2
open SX (S)
/-! ### sets whose table can be walked -/
/-- the table's places rise, and their order is the table's own -/
def WalkT (w : World) (t : SetTable) : Prop := Ris t.place.toList ∧ (w.params.followText "set-order" = true ∨ t.led = true)
theorem WalkT.off {w : World} {t : SetTable} (h : WalkT w t) : WalkT w { t with plain := false } := h
theorem WalkT.lay {w : World} {t : SetTable} (g : WalkT w t) (es : Array (Int × Value)) (h : Int) (x : Value) : WalkT w (layNew t es h x).2.1 := ⟨layNew_ris t es h x g.1, g.2.imp id fun e => (layNew_led t es h x).trans e⟩
theorem WalkT.relay {w : World} {t : SetTable} (g : WalkT w t) (es : Array (Int × Value)) (n : Nat) : WalkT w (relayAll t es n).2.1 := ⟨relayAll_ris t es n, g.2.imp id fun e => (relayAll_led t es n).trans e⟩
section
variable {prog : Program} {w : World} {K : Type} [DecidableEq K] (knd : KeyKind prog w K)
/-- the elements es are the n keys of S -/
structure HasK (S : K → Bool) (n : Nat) (es : Array (Int × Value)) (t : SetTable) : Prop where
  els : ElemsOf knd es.toList
  mem : ∀ k, S k = true ↔ ∃ e ∈ es.toList, knd.is k e.2 = true
  few : es.size < scanBound
  fits : t.fits es.size = true
  num : es.size = n
  walk : WalkT w t
def SetG (h : Heap) (a : Addr) (S : K → Bool) (n : Nat) : Prop := ∃ o es ep t, h.get? a = some o ∧ o.ExactSet ∧ o.data = .set es ep t ∧ HasK knd S n es t
variable {knd}
theorem SetG.keep {h h' : Heap} {a : Addr} {S : K → Bool} {n : Nat} (g : SetG knd h a S n) (k : ∀ o, h.get? a = some o → h'.get? a = some o) : SetG knd h' a S n :=
  let ⟨o, es, ep, t, ho, r⟩ := g; ⟨o, es, ep, t, k o ho, r⟩
theorem SetG.eq {h : Heap} {a : Addr} {S S' : K → Bool} {n n' : Nat} (g : SetG knd h a S n) (e : ∀ k, S k = S' k) (en : n = n') : SetG knd h a S' n' := by
  have : S = S' := funext e
  subst this
  subst en
  exact g
theorem SetG.setOf {h : Heap} {a : Addr} {S : K → Bool} {n : Nat} (g : SetG knd h a S n) : h.SetOf knd a S n :=
  let ⟨o, es, ep, t, ho, hx, hd, r⟩ := g; ⟨o, es, ep, t, ho, hx, hd, r.els, r.mem, r.few, r.fits, r.num⟩
theorem SetG.fresh {h : Heap} : SetG knd (h.push { cls := .type "set", dict := none, data := .set #[] 0 (.fresh 0 0 (!w.params.followText "set-order")) }) h.objs.size (fun _ => false) 0 :=
  ⟨_, #[], 0, _, Heap.get?_push_size _ rfl, ⟨rfl, rfl, rfl⟩, rfl, { els := fun e he => by simp at he, mem := fun k => by simp, few := by decide, fits := by rfl, num := rfl, walk := ⟨List.Pairwise.nil, by
    show _ ∨ (!w.params.followText "set-order") = true
    cases w.params.followText "set-order"
    · exact .inr rfl
    · exact .inl rfl⟩ }⟩
/-- the elements in another order, under another table -/
theorem HasK.perm {S : K → Bool} {n : Nat} {es es' : Array (Int × Value)} {t t' : SetTable} (g : HasK knd S n es t) (p : es'.toList.Perm es.toList) (hf : t'.fits es'.size = true) (hw : WalkT w t') : HasK knd S n es' t' := by
  have hz : es'.size = es.size := by rw [← Array.length_toList, p.length_eq, Array.length_toList]
  exact { els := g.els.perm p, mem := fun k => (g.mem k).trans ⟨fun ⟨e, he, q⟩ => ⟨e, p.mem_iff.mpr he, q⟩, fun ⟨e, he, q⟩ => ⟨e, p.mem_iff.mp he, q⟩⟩, few := by rw [hz]; exact g.few, fits := hf, num := hz.trans g.num, walk := hw }
/-- one more -/
theorem HasK.push {S : K → Bool} {n : Nat} {es es' : Array (Int × Value)} {t t' : SetTable} {k : K} {x : Value} (g : HasK knd S n es t) (hk : knd.is k x = true) (hx : x.scannable = true) (p : es'.toList.Perm (es.toList ++ [(knd.hash k, x)])) (hf : t'.fits es'.size = true) (hw : WalkT w t') (hn : n + 1 < scanBound) :
    HasK knd (fun j => S j || decide (j = k)) (n + 1) es' t' := by
  have hz : es'.size = n + 1 := by rw [← Array.length_toList, p.length_eq, List.length_append, Array.length_toList, g.num]; rfl
  exact { els := (g.els.push hk hx).perm p, mem := mem_push_iff hk g.mem p, few := by rw [hz]; exact hn, fits := hf, num := hz, walk := hw }
section
variable {A : Around} {E : Value → Shared → Prop} {s : Shared} {a : Addr} {S : K → Bool} {n : Nat}
theorem SetG.stored {h : Heap} {o : Obj} {es es' : Array (Int × Value)} {ep : Nat} {t t' : SetTable} (ho : h.get? a = some o) (hx : o.ExactSet) (hd : o.data = .set es ep t) (g : HasK knd S n es' t') : SetG knd (h.update a (Obj.putSet es' t')) a S n :=
  ⟨_, es', _, t', store_at ho hd, hx, rfl, g⟩
theorem setG_tail {g : Bool → Sem Unit} (hg : ∀ (b : Bool) (s₁ : Shared) (Q' : Unit → Shared → Prop), Q' () s₁ → wpAny (model prog w) A (g b) Q' E s₁)
    {o : Obj} {es es1 : Array (Int × Value)} {ep : Nat} {t t2 : SetTable} (ho : s.heap.get? a = some o) (hx : o.ExactSet) (hd : o.data = .set es ep t) (H : HasK knd S n es1 t2) {wasDummy : Bool} {R : Option Bool → Shared → Prop}
    (hR : ∀ h', Heap.SameBut a s.heap h' → SetG knd h' a S n → R (some true) { s with heap := h' }) :
    wpAny (model prog w) A (do
        storeSet a es1 t2
        if (!wasDummy && t2.tooFull) = true then do
            g (relayAll t2 es1 (SetTable.grown es1.size)).2.2
            storeSet a (relayAll t2 es1 (SetTable.grown es1.size)).1 (relayAll t2 es1 (SetTable.grown es1.size)).2.1
            pure (some true)
          else pure (some true)) R E s := by
  refine wpAny_bind (wpAny_storeSet_of ho hd ?_ (fits_of_scanBound H.few))
  have sb := Heap.SameBut.update s.heap a (Obj.putSet es1 t2)
  split
  · have H2 := H.perm (relayAll_perm t2 es1 (SetTable.grown es1.size)) (relayAll_fits t2 es1 (SetTable.grown es1.size)) (H.walk.relay es1 (SetTable.grown es1.size))
    have ho1 := store_at (es' := es1) (t' := t2) ho hd
    exact wpAny_bind (hg _ _ _ (wpAny_bind (wpAny_storeSet_of ho1 rfl (wpAny_pure (hR _ (sb.trans (Heap.SameBut.update _ a _)) (SetG.stored ho1 hx rfl H2))) (fits_of_scanBound H2.few))))
  · exact wpAny_pure (hR _ sb (SetG.stored ho hx hd H))
/-- a key is put in -/
theorem setG_add {k : K} {x : Value} {Q : Bool → Shared → Prop} (hk : knd.is k x = true) (hx : x.scannable = true) (G : SetG knd s.heap a S n) (hn : n + 1 < scanBound)
    (hQ : ∀ h', Heap.SameBut a s.heap h' → SetG knd h' a (fun j => S j || decide (j = k)) (if S k then n else n + 1) → Q (!S k) { s with heap := h' }) :
    wpAny (model prog w) A (setAddHashed a x (knd.hash k)) Q E s := by
  obtain ⟨o, es, ep, t, ho, hex, hd, H⟩ := G
  unfold setAddHashed setAddHashedIn
  refine wpAny_holding (wpAny_bind (wpAny_setState_of ho hd H.fits ?_))
  dsimp only
  rw [byScan_of hx H.few H.els]
  simp only [↓reduceIte]
  unfold setAddByScan
  refine wpAny_bind (wpAny_bind (wpAny_rule (wpAny_bind (wpAny_setScan_of hk ho hd H.fits H.els ?_))))
  cases hr : List.findIdx? (fun e => knd.is k e.2) es.toList with
  | some j =>
    dsimp only
    obtain ⟨hj, hpj, _⟩ := List.findIdx?_eq_some_iff_getElem.mp hr
    have hS : S k = true := (H.mem k).mpr ⟨es.toList[j], List.getElem_mem hj, hpj⟩
    have z := hQ s.heap (Heap.SameBut.refl a s.heap) (SetG.eq ⟨o, es, ep, t, ho, hex, hd, H⟩ (fun j => by
      by_cases e : j = k
      · rw [e, hS]; rfl
      · rw [decide_eq_false e, Bool.or_false]) (by rw [hS]; rfl))
    rw [hS] at z
    exact wpAny_pure (wpAny_pure z)
  | none =>
    dsimp only
    have hS : S k = false := by
      rw [← Bool.not_eq_true, H.mem k]
      rintro ⟨e, he, q⟩
      have := List.findIdx?_eq_none_iff.mp hr e he
      rw [q] at this
      cases this
    have hgw : ∀ (b : Bool) (s₁ : Shared) (Q' : Unit → Shared → Prop), Q' () s₁ → wpAny (model prog w) A (match b with | true => rule "set.scan.the-table-gave-way" | false => pure ()) Q' E s₁ := fun b s₁ Q' q => by
      cases b
      · exact wpAny_pure q
      · exact wpAny_rule q
    have hp := layNew_perm t es (knd.hash k) x
    rw [Array.toList_push] at hp
    have H1 := H.push hk hx hp (layNew_fits t es (knd.hash k) x) (H.walk.lay es (knd.hash k) x) hn
    generalize layNew t es (knd.hash k) x = Z at H1 ⊢
    obtain ⟨es1, t1, wasDummy, gave⟩ := Z
    have fin : ∀ h', Heap.SameBut a s.heap h' → SetG knd h' a (fun j => S j || decide (j = k)) (n + 1) → Q true { s with heap := h' } := fun h' sb r => by
      have z := hQ h' sb
      rw [hS] at z
      exact z r
    dsimp only at H1 ⊢
    refine wpAny_bind (hgw _ _ _ ?_)
    split
    · refine wpAny_bind ?_
      rw [hashByValue_scannable 8 hx]
      refine wpAny_pure (setG_tail (knd := knd) (fun b s₁ Q' q => hgw b s₁ Q' q) ho hex hd (S := fun j => S j || decide (j = k)) (n := n + 1) ?_ fun h' sb r => ?_)
      · split
        · exact H1
        · exact { H1 with fits := SetTable.fits_plain_off H1.fits, walk := H1.walk.off }
      · exact wpAny_pure (fin h' sb r)
    · refine wpAny_bind (wpAny_pure ?_)
      simp only [↓reduceIte]
      exact setG_tail (knd := knd) (fun b s₁ Q' q => hgw b s₁ Q' q) ho hex hd H1 fun h' sb r => wpAny_pure (fin h' sb r)
end
end
section
variable {prog : Program} {w : World} {K : Type} [DecidableEq K] {knd : KeyKind prog w K} {A : Around} {R : Result → Shared → Prop} {I : Addr} {fp wr : List Addr} {G : Array GenState → Array GenState → Prop} {n : Nat} {P : Nat → Value → Prop} {St : Nat → Shared → Prop}
theorem uq_grow {α : Type} [DecidableEq α] : ∀ (ks acc : List α), acc.length ≤ (ks.foldl uqS acc).length
  | [], acc => Nat.le_refl _
  | k :: ks, acc => by
    rw [List.foldl_cons]
    refine Nat.le_trans ?_ (uq_grow ks (uqS acc k))
    unfold uqS
    split
    · exact Nat.le_refl _
    · rw [List.length_append]; exact Nat.le_add_right _ _
theorem uq_take {α : Type} [DecidableEq α] (ks : List α) (i : Nat) : (uq (ks.take i)).length ≤ (uq ks).length := by
  have h := uq_grow (ks.drop i) (uq (ks.take i))
  unfold uq at h ⊢
  rw [← List.foldl_append, List.take_append_drop] at h
  exact h
/-- the keys of an iterator put in, one after the other -/
theorem setG_loop (W : WalksS prog w A.in1 I fp wr G n P St) (S : Addr) (hSf : S ∉ fp) (ks : List K) (hn : ks.length = n) (hb : (uq ks).length + 1 < scanBound) (hval : ∀ i v, P i v → ∃ k, ks[i]? = some k ∧ knd.is k v = true ∧ v.scannable = true) :
    ∀ (k i : Nat) (s : Shared), n - i = k → i ≤ n → St i s → SetG knd s.heap S (fun k' => decide (k' ∈ ks.take i)) (uq (ks.take i)).length →
      (∀ s', Moved (S :: wr) G s s' → SetG knd s'.heap S (fun k' => decide (k' ∈ ks)) (uq ks).length → R (.ok (.ret .none)) s') →
      codeAny (model prog w) A (.builtin "set.update.loop" ⟨[.ref S, .ref I], []⟩) R s := by
  have hSw : S ∉ wr := fun h => hSf (W.sub _ h)
  have hsub : ∀ b ∈ wr, b ∈ S :: wr := fun b hb => List.mem_cons_of_mem _ hb
  intro k
  induction k with
  | zero =>
    intro i s hk hi hst hS hR
    have hin : i = n := by omega
    subst hin
    refine codeAny_builtin PyProof.Rows.F.entry_set_update_loop ?_
    rw [Around.under_plainId PyProof.Rows.F.plain_set_update_loop _]
    show wpAny _ A.in1 (pyNext (.ref I) >>= _) _ _ s
    refine wpAny_bind (W.done s _ _ hst fun s' hm => wpAny_pure (hR s' (hm.mono hsub) ?_))
    rw [← hn, List.take_length] at hS
    exact hS.keep fun o ho => hm.heap S o hSw ho
  | succ k ih =>
    intro i s hk hi hst hS hR
    have hlt : i < n := by omega
    refine codeAny_builtin PyProof.Rows.F.entry_set_update_loop ?_
    rw [Around.under_plainId PyProof.Rows.F.plain_set_update_loop _]
    show wpAny _ A.in1 (pyNext (.ref I) >>= _) _ _ s
    refine wpAny_bind (W.item i s _ _ hlt hst fun v s' hP hst' hm => ?_)
    obtain ⟨q, hq, his, hsc⟩ := hval i v hP
    have hS' : SetG knd s'.heap S (fun k' => decide (k' ∈ ks.take i)) (uq (ks.take i)).length := hS.keep fun o ho => hm.heap S o hSw ho
    show wpAny _ A.in1 (holding [v] (setAdd S v) >>= _) _ _ s'
    refine wpAny_bind (wpAny_holding ?_)
    unfold setAdd
    refine wpAny_holding (wpAny_bind (knd.pyHash (k := q) his ?_))
    have h1 := uq_take ks i
    refine setG_add (knd := knd) (s := { s' with toks := s'.toks + 1 }) his hsc hS' (by omega) fun h' hsb hS2 => ?_
    have et : ks.take (i + 1) = ks.take i ++ [q] := by rw [List.take_add_one, hq]; rfl
    have hSi : SetG knd h' S (fun k' => decide (k' ∈ ks.take (i + 1))) (uq (ks.take (i + 1))).length := by
      refine hS2.eq (fun k' => ?_) ?_
      · rw [et]
        by_cases h1 : k' ∈ ks.take i <;> by_cases h2 : k' = q <;> simp [h1, h2]
      · rw [et, uq_snoc]
        unfold uqS
        by_cases h1 : q ∈ ks.take i
        · rw [if_pos (decide_eq_true h1), if_pos (mem_uq.mpr h1)]
        · rw [if_neg (by simpa using h1), if_neg (fun z => h1 (mem_uq.mp z)), List.length_append]
          rfl
    refine wpAny_pure ⟨plainId_quiet PyProof.Rows.F.plain_set_update_loop _, ih (i + 1) _ (by omega) hlt (W.frame _ s' _ _ hst' (Nat.le_succ _) fun b hb o e => ?_) hSi fun s'' hm'' hS'' => ?_⟩
    · rw [hsb.2 b (fun h : b = S => hSf (by rw [← h]; exact hb))]; exact e
    · refine hR s'' (Moved.trans W.gtrans ((hm.mono hsub).then_heap (Nat.le_succ _) fun b o hb e => ?_) hm'') hS''
      rw [hsb.2 b (fun h : b = S => hb (by rw [h]; exact List.mem_cons_self))]; exact e
end
section
variable {prog : Program} {w : World} {K : Type} [DecidableEq K] {knd : KeyKind prog w K} {A : Around} {E : Value → Shared → Prop} {s : Shared}
abbrev led0 (w : World) : Bool := !w.params.followText "set-order"
set_option maxHeartbeats 3200000 in
theorem call_setG {l : Addr} {items : Array Value} {ks : List K} {Q : Value → Shared → Prop}
    (hh : A.handled = none) (hl : s.heap.IsList l items) (hsz : ks.length = items.size) (hval : ∀ (i : Nat) (v : Value), items[i]? = some v → ∃ k, ks[i]? = some k ∧ knd.is k v = true ∧ v.scannable = true) (hb : (uq ks).length + 1 < scanBound)
    (h : ∀ (h' : Heap) (tk : Nat), SetG knd h' s.heap.objs.size (fun k' => decide (k' ∈ ks)) (uq ks).length →
      (∀ b o, b < s.heap.objs.size → s.heap.get? b = some o → h'.get? b = some o) → Q (.ref s.heap.objs.size) { s with heap := h', toks := tk }) :
    wpAny (model prog w) A (call (.type "set") [.ref l]) Q E s := by
  obtain ⟨c, tl, hmro⟩ := PySem.F.called_set.mro
  have hmade := PySem.F.called_set.made
  have hsub := PySem.F.called_set.sub
  refine wpAny_call (codeAny_of_tree ?_)
  show wpAny _ _ (callAny (.type "set") _) _ _ _
  refine wpAny_pure ⟨Code.quiet_builtin _ (by decide +kernel), codeAny_builtin PySem.F.entry_type_call ?_⟩
  rw [Around.under_plain (weight_type_call_type "set" [.ref l] []) rfl]
  have h1 := PySem.F.called_set.notType
  have h2 := PySem.F.called_set.canCreate
  have hct := PySem.F.typeCall_set_1 (.ref l)
  repeat (any_goals (first | assumption | wp_step))
  refine codeAny_mono (code_set_led1 (w := w) (.ref l) (E := E) (Q₁ := fun obj s₁ => obj = .ref s.heap.objs.size ∧ s₁ = { s with heap := s.heap.push { cls := .type "set", dict := none, data := .set #[] 0 (.fresh 0 0 (led0 w)) } }) ⟨rfl, rfl⟩) fun r s₁ hr => ?_
  cases r with
  | error e => exact hr
  | ok fl =>
    cases fl with
    | ret obj =>
      obtain ⟨rfl, rfl⟩ := hr
      have hS : (s.heap.push { cls := .type "set", dict := none, data := .set #[] 0 (.fresh 0 0 (led0 w)) }).get? s.heap.objs.size = some { cls := .type "set", dict := none, data := .set #[] 0 (.fresh 0 0 (led0 w)) } := Heap.get?_push_size _ rfl
      have hT : Shared.TypeIs { s with heap := s.heap.push { cls := .type "set", dict := none, data := .set #[] 0 (.fresh 0 0 (led0 w)) } } (.ref s.heap.objs.size) "set" := ⟨_, hS, rfl⟩
      have hli := PySem.F.called_set.init.lookup
      have hbi := PySem.F.called_set.init.bind (.ref s.heap.objs.size)
      repeat (any_goals (first | assumption | wp_step))
      refine codeAny_mono (codeAny_call_builtin (R := wants (fun r s₂ => r = .none ∧ ∃ h' tk, s₂ = { s with heap := h', toks := tk } ∧
          SetG knd h' s.heap.objs.size (fun k' => decide (k' ∈ ks)) (uq ks).length ∧
          (∀ b o, b < s.heap.objs.size → s.heap.get? b = some o → h'.get? b = some o)) E) PySem.F.called_set.init.plain PySem.F.entry_set_init (check_set_init_1 hT ?_)) fun r₂ s₂ hr₂ => ?_
      · obtain ⟨ol, hol, hcl, nl, hdl⟩ := hl
        obtain ⟨ocls, odict, odata, oslots⟩ := ol
        simp only at hcl hdl
        subst hcl; subst hdl
        have hol' : (s.heap.push { cls := .type "set", dict := none, data := .set #[] 0 (.fresh 0 0 (led0 w)) }).get? l = some { cls := .type "list", dict := odict, data := .seq items nl, slots := oslots } := Heap.get?_push_of_some _ hol
        have hsls := PySem.F.sub_list_set
        have hslf := PySem.F.sub_list_frozenset
        have hne : (Value.type "list" == Value.type "dict") = false := by decide
        have hl1 : (s.heap.push { cls := .type "set", dict := none, data := .set #[] 0 (.fresh 0 0 (led0 w)) }).IsList l items := ⟨_, hol', rfl, nl, rfl⟩
        unfold Builtin.«set.__init__» noKeywords Builtin.Frozenset.updateFrom
        generalize hPI : pyIter = PI
        wp_walk
        subst hPI
        refine wpAny_pyIter_list hl1 ?_
        refine wpAny_bind (wpAny_runValue ?_)
        have hlS : l < s.heap.objs.size := Heap.lt_size hol
        have hh3 : A.in1.in1.in1.handled = none := by simp [hh]
        have hneI : l ≠ (s.heap.push { cls := .type "set", dict := none, data := .set #[] 0 (.fresh 0 0 (led0 w)) }).objs.size := by
          rw [Heap.size_push]; exact Nat.ne_of_lt (Nat.lt_succ_of_lt hlS)
        have hSf : s.heap.objs.size ∉ [(s.heap.push { cls := .type "set", dict := none, data := .set #[] 0 (.fresh 0 0 (led0 w)) }).objs.size, l] := by
          rw [Heap.size_push]; simp only [List.mem_cons, List.mem_singleton, List.not_mem_nil, or_false, not_or]
          exact ⟨Nat.ne_of_lt (Nat.lt_succ_self _), Nat.ne_of_gt hlS⟩
        refine setG_loop (knd := knd) ((Walks.list hh3 _ l hneI items).toS) s.heap.objs.size
          hSf ks hsz hb hval (items.size - 0) 0 _ (by omega) (Nat.zero_le _)
          ⟨⟨_, Heap.get?_push_size _ rfl, rfl, rfl⟩, (hl1.push _)⟩ ?hS0 ?hR
        case hS0 =>
          exact (SetG.fresh (knd := knd) (h := s.heap)).keep (fun o ho => Heap.get?_push_of_some _ ho) |>.eq (fun k => by simp) rfl
        case hR =>
          intro s' hm hS'
          obtain ⟨h', g', d', tk', os'⟩ := s'
          have eg : g' = s.gens := hm.gens
          have ed : d' = s.drawn := hm.drawn
          have eo : os' = s.os := hm.os
          subst eg; subst ed; subst eo
          show wpAny _ _ _ _ _ _
          refine wpAny_pure ?_
          show wpAny _ _ (ret Value.none) _ _ _
          refine wpAny_pure ⟨rfl, h', tk', rfl, hS', fun b o hb e => ?_⟩
          have hb1 : b ≠ s.heap.objs.size := Nat.ne_of_lt hb
          have hb2 : b ≠ (s.heap.push { cls := .type "set", dict := none, data := .set #[] 0 (.fresh 0 0 (led0 w)) }).objs.size := by
            rw [Heap.size_push]; exact Nat.ne_of_lt (Nat.lt_succ_of_lt hb)
          exact hm.heap b o (by simp only [List.mem_cons, List.mem_singleton, List.not_mem_nil, or_false, not_or]; exact ⟨hb1, hb2⟩) (Heap.get?_push_of_some _ (Heap.get?_push_of_some _ e))
      · cases r₂ with
        | error e => exact hr₂
        | ok fl₂ =>
          cases fl₂ with
          | ret r =>
            obtain ⟨rfl, h', tk, rfl, hS', hk'⟩ := hr₂
            repeat (any_goals (first | assumption | wp_step))
            exact h _ _ hS' hk'
          | _ => exact hr₂.elim
    | _ => exact hr.elim
end
end HW
set_option maxHeartbeats 4000000
namespace HW
open PySem PySem.Spec PyProof.Rows L2
open SX (S)
open PySem.W (dataLt AlikeAll AllAlike Sortable EachIs dataLe alike)
/-! ### sorted(set(texts)) -/
theorem perm_of_len {α : Type} [DecidableEq α] : ∀ {u l : List α}, u.Nodup → (∀ x ∈ u, x ∈ l) → l.length = u.length → l.Perm u
  | [], l, _, _, h => by rw [List.length_eq_zero_iff.mp h]
  | x :: u, l, hn, hm, h => by
    have hx := hm x List.mem_cons_self
    have p := List.perm_cons_erase hx
    have h2 : (l.erase x).length = u.length := by
      have := p.length_eq
      rw [List.length_cons] at this h
      omega
    obtain ⟨n1, n2⟩ := List.nodup_cons.mp hn
    refine p.trans ((perm_of_len n2 (fun y hy => ?_) h2).cons x)
    exact (List.mem_erase_of_ne (fun e : y = x => n1 (by rw [← e]; exact hy))).mpr (hm y (List.mem_cons_of_mem _ hy))
/-- the distinct ones in order -/
def sU (ws : List (List Nat)) : List (List Nat) := (uq ws).mergeSort fun a b => decide (a ≤ b)
theorem sU_perm (ws : List (List Nat)) : (sU ws).Perm (uq ws) := List.mergeSort_perm _ _
theorem mem_sU {ws : List (List Nat)} {x : List Nat} : x ∈ sU ws ↔ x ∈ ws := (sU_perm ws).mem_iff.trans mem_uq
theorem sU_len (ws : List (List Nat)) : (sU ws).length = (uq ws).length := (sU_perm ws).length_eq
theorem sU_lt (ws : List (List Nat)) : (sU ws).Pairwise (· < ·) := by
  have h : (sU ws).Pairwise (fun a b => decide (a ≤ b) = true) := List.pairwise_mergeSort (le := fun a b : List Nat => decide (a ≤ b)) (fun a b c (h1 : decide (a ≤ b) = true) (h2 : decide (b ≤ c) = true) => decide_eq_true (List.le_trans (of_decide_eq_true h1) (of_decide_eq_true h2))) (fun a b => by
    show (decide (a ≤ b) || decide (b ≤ a)) = true
    rw [Bool.or_eq_true, decide_eq_true_iff, decide_eq_true_iff]
    exact List.le_total a b) _
  have hn : (sU ws).Nodup := (sU_perm ws).nodup_iff.mpr (nodup_uq ws)
  refine (List.Pairwise.and h hn).imp fun {a b} ⟨h1, h2⟩ => ?_
  have h1 := of_decide_eq_true h1
  exact Classical.byContradiction fun h3 => h2 (List.le_antisymm h1 (show b ≤ a from h3))
theorem sorted_lt {ws : List (List Nat)} (h : ws.Pairwise (· < ·)) {ds : List PyData} (hp : ds.Perm (ws.map sD)) : sortD ds = ws.map sD := sortD_of hp (List.pairwise_map.mpr (h.imp fun {a b} q => by rw [ltS]; exact decide_eq_true q))
theorem sU_sortD (ws : List (List Nat)) {ds : List PyData} (hp : ds.Perm ((uq ws).map sD)) : sortD ds = (sU ws).map sD := sorted_lt (sU_lt ws) (hp.trans ((sU_perm ws).symm.map sD))
theorem map_sD_inj : ∀ {a b : List (List Nat)}, a.map sD = b.map sD → a = b
  | [], [], _ => rfl
  | [], _ :: _, e => nomatch e
  | _ :: _, [], e => nomatch e
  | x :: a, y :: b, e => by
    rw [List.map_cons, List.map_cons] at e
    rw [S_inj (PyData.str.inj (List.cons.inj e).1), map_sD_inj (List.cons.inj e).2]
theorem sU_id {ws : List (List Nat)} (h : ws.Pairwise (· < ·)) : sU ws = ws := by
  have hn : ws.Nodup := h.imp (S := fun a b => a ≠ b) fun {a b} (q : a < b) (e : a = b) => List.lt_irrefl b (by rw [e] at q; exact q)
  have e1 := sU_sortD ws (ds := ws.map sD) (by rw [uq_nodup hn])
  rw [sorted_lt h (List.Perm.refl _)] at e1
  exact (map_sD_inj e1).symm
theorem allS {ws : List (List Nat)} : AllAlike (ws.map sD) := fun x hx y hy => alike_S.1 x hx y hy
theorem sortS {ws : List (List Nat)} : Sortable (ws.map sD) := .inr fun d hd => by
  obtain ⟨w, _, rfl⟩ := List.mem_map.mp hd
  exact ⟨by nofun, fun xs => by nofun⟩
section
variable {prog : Program} {w : World} {A : Around} {E : Value → Shared → Prop} {s : Shared}
/-- a value is the text of b -/
def IsTx (v : Value) (b : List Nat) : Prop := ∃ t, v = .str (S b) t
theorem each_tx {ks : List (List Nat)} : ∀ {vs : List Value}, (∀ v ∈ vs, ∃ b ∈ ks, IsTx v b) → ∃ bs, EachIs IsTx vs bs ∧ ∀ b ∈ bs, b ∈ ks
  | [], _ => ⟨[], .nil, fun b h => nomatch h⟩
  | v :: vs, h => by
    obtain ⟨b, hb, e⟩ := h v List.mem_cons_self
    obtain ⟨bs, h1, h2⟩ := each_tx (vs := vs) fun u hu => h u (List.mem_cons_of_mem _ hu)
    exact ⟨b :: bs, .cons e h1, fun x hx => by
      rcases List.mem_cons.mp hx with z | z
      · rw [z]; exact hb
      · exact h2 x z⟩
theorem EachIs.find {R : Value → List Nat → Prop} : ∀ {vs : List Value} {bs : List (List Nat)}, EachIs R vs bs → ∀ v ∈ vs, ∃ b ∈ bs, R v b
  | _, _, .nil, v, h => nomatch h
  | _, _, .cons h t, v, hv => by
    rcases List.mem_cons.mp hv with e | hv
    · exact ⟨_, List.mem_cons_self, e ▸ h⟩
    · obtain ⟨b, hb, q⟩ := EachIs.find t v hv
      exact ⟨b, List.mem_cons_of_mem _ hb, q⟩
theorem EachIs.len {R : Value → List Nat → Prop} : ∀ {vs : List Value} {bs : List (List Nat)}, EachIs R vs bs → vs.length = bs.length
  | _, _, .nil => rfl
  | _, _, .cons _ t => congrArg (· + 1) (EachIs.len t)
theorem sorted_setS {a : Addr} {ws : List (List Nat)} {Q : Value → Shared → Prop} (G : SetG (PySem.strKind prog w) s.heap a (fun k => decide (k ∈ ws.map S)) (uq (ws.map S)).length) (hh : A.handled = none) (hu : A.units + 64 < cLine)
    (hQ : ∀ s' p (out : List Value) (c : Nat), (∀ b o, s.heap.get? b = some o → s'.heap.get? b = some o) → s'.gens = s.gens → s'.os = s.os → s.heap.objs.size ≤ p →
      s'.heap.get? p = some (seqObj "list" out.toArray c) → EachIs IsTx out (sU ws) → Q (.ref p) s') :
    wpAny (model prog w) A (call (.builtin "sorted") [.ref a]) Q E s := by
  obtain ⟨o, es, ep, t, ho, hex, hd, H⟩ := G
  refine Calls.call_function_entry kind_sorted plain_sorted entry_sorted (args_sorted1 _) ?_
  unfold Builtin.«sorted»
  refine wpAny_bind (m := checkCount "sorted" 1 1 _) (wpAny_pure ?_)
  refine wpAny_bind (collect_set (A := A.in1) hh ⟨o, ho, hex.1, hd⟩ H.fits H.few H.walk.1 H.walk.2 fun s1 vs k1 hz g1 o1 pm => ?_)
  have hvl : vs.length = (uq ws).length := by rw [pm.length_eq, List.length_map, Array.length_toList, H.num, uq_S]
  obtain ⟨bs, h1, h2⟩ := each_tx (ks := ws) (vs := vs) fun v hv => by
    obtain ⟨e, he, q⟩ := List.mem_map.mp (pm.mem_iff.mp hv)
    obtain ⟨⟨k, hk, _⟩, _⟩ := H.els e he
    have hm := (H.mem k).mpr ⟨e, he, hk⟩
    obtain ⟨b, hb, eb⟩ := List.mem_map.mp (of_decide_eq_true hm)
    obtain ⟨tk, e1⟩ := Value.isStrOf_shape (x := k) (v := e.2) hk
    exact ⟨b, hb, tk, by rw [← q, e1, eb]⟩
  have hbl : bs.length = (uq ws).length := by rw [← EachIs.len h1, hvl]
  have hp : bs.Perm (uq ws) := perm_of_len (nodup_uq ws) (fun b hb => by
    have hS : decide (S b ∈ ws.map S) = true := decide_eq_true (List.mem_map.mpr ⟨b, mem_uq.mp hb, rfl⟩)
    obtain ⟨e, he, hk⟩ := (H.mem (S b)).mp hS
    obtain ⟨tk, e1⟩ := Value.isStrOf_shape (x := S b) (v := e.2) hk
    obtain ⟨b', hb', tk', e2⟩ := EachIs.find h1 e.2 (pm.mem_iff.mpr (List.mem_map.mpr ⟨e, he, rfl⟩))
    rw [e1] at e2
    injection e2 with e3 _
    rw [S_inj e3]
    exact hb') hbl
  have hfew : vs.length < scanBound := by rw [pm.length_eq, List.length_map, Array.length_toList]; exact H.few
  have hfz := fits_of_scanBound hfew
  refine wpAny_bind (wpAny_newList ?_ hfz)
  have hoL : (s1.heap.push (seqObj "list" vs.toArray 0)).get? s1.heap.objs.size = some (seqObj "list" vs.toArray 0) := Heap.get?_push_size _ rfl
  refine wpAny_bind (wpAny_holding (PySem.W.list_sort_data (s := { s1 with heap := s1.heap.push (seqObj "list" vs.toArray 0) }) (R := IsTx) (bs := bs) (enc := sD) hoL h1 (h1.mono fun v b ⟨t, e⟩ => ⟨[], by rw [e]; exact .str _ _, by simp⟩) allS sortS (by rw [← EachIs.len h1]; exact hfz) (fun b hb => ?_) fun out hl eo => ?_))
  · show _ + 1 + 0 < cLine
    show A.in1.units + 1 + 0 < cLine
    have : A.in1.units = A.units + 1 := rfl
    omega
  obtain ⟨c, hc⟩ := sortedHeap_at (vs := vs) (out := out.toArray) hoL
  have eb : bs.mergeSort (dataLe false sD) = sU ws := by
    have e1 : (bs.mergeSort (dataLe false sD)).map sD = sortD (bs.map sD) := by
      unfold sortD
      rw [List.map_mergeSort]
      intro a _ b _
      rfl
    rw [sU_sortD ws (hp.map sD)] at e1
    exact map_sD_inj e1
  rw [eb] at eo
  refine wpAny_pure ⟨_, rfl, hQ _ s1.heap.objs.size out c (fun b u e => ?_) g1 o1 hz hc eo⟩
  have q := k1 b u e
  have hlt := Heap.lt_size q
  show (sortedHeap (s1.heap.push (seqObj "list" vs.toArray 0)) s1.heap.objs.size vs out.toArray).get? b = some u
  rw [sortedHeap_old (Nat.ne_of_lt hlt) (by rw [size_push']; exact Nat.lt_succ_of_lt hlt)]
  exact Heap.get?_push_of_some _ q
end
abbrev vS (ws : List (List Nat)) : List V := ws.map fun w => V.str (S w)
theorem vals_tx : ∀ {out : List Value} {bs : List (List Nat)}, EachIs IsTx out bs → Vals (vS bs) out
  | _, _, .nil => .nil
  | _, _, .cons h t => .cons h (vals_tx t)
theorem vaAll_vS {K : PySem.W.Frag} {H : Hp} : ∀ ws : List (List Nat), VaAll K H (vS ws) (ws.map sD)
  | [] => .nil
  | w :: ws => .cons (.str _) (vaAll_vS ws)
def tSortSetS (K : PySem.W.Frag) (ta : TE) : TE := fun σ H Q => ta σ H fun x H1 => ∃ (l : Addr) (ws : List (List Nat)), x = .ref l ∧ SqL K H1 l (vS ws) ∧ (uq ws).length ≤ 4000 ∧ ∀ p, H1 p = none → Q (.ref p) (upd H1 p (.lst (vS (sU ws))))
theorem pe_sortSetS {X : Cx} {a : Expr} {ta : TE} {p p2 q pos : Pos} (hg : Gl X "sorted") (hm : X.mg "sorted" = none) (hg2 : Gl X "set") (hm2 : X.mg "set" = none) (ha : PE X a ta) (hc : X.calm = true) (hu : X.A.units + 64 < cLine)
    (na : starEach [a] X.env = (false, eval a X.env) :: starEach [] X.env := by rfl) : PE X (.Call (.Name "sorted" p) [.Call (.Name "set" p2) [a] [] q] [] pos) (tSortSetS X.K ta) := by
  refine ⟨fun pins s σ H Q I h => ?_⟩
  refine Call_ (ld_blt I hg hm boot_sorted ?_)
  refine PyProof.Rows.callWith_builtin1 (PyProof.Rows.args_cons ?_ rfl) rfl rfl
  refine Call_ (ld_blt I hg2 hm2 boot_set ?_)
  refine PyProof.Rows.callWith_type1 (PyProof.Rows.args_cons (thn (ha.run pins s σ H _ I h) fun v s1 ⟨x, H1, I1, r1, q1⟩ => PyProof.Rows.args_nil ?_) na) na rfl
  obtain ⟨l, ws, rfl, hq, hl, q1⟩ := q1
  cases r1
  obtain ⟨its, r, pl, hz⟩ := I1.list hq
  have hlen : (ws.map S).length = its.toArray.size := by rw [List.size_toArray, ← r.length, List.length_map, List.length_map]
  refine call_setG (knd := PySem.strKind X.prog X.w) (ks := ws.map S) (I1.ok.hd hc) pl.isList hlen (fun i v hv => ?_) (by rw [uq_S]; unfold scanBound; omega) fun h' tk hS hk => ?_
  · have hv' : its[i]? = some v := by simpa using hv
    have hli : i < ws.length := by
      have := (List.getElem?_eq_some_iff.mp hv').1
      rw [List.length_map, List.size_toArray] at hlen
      omega
    have hw : ws[i]? = some ws[i] := List.getElem?_eq_getElem hli
    have hx : (vS ws)[i]? = some (.str (S ws[i])) := by rw [List.getElem?_map, hw]; rfl
    obtain ⟨u, hu, ru⟩ := r.get hx
    rw [hv'] at hu
    cases hu
    obtain ⟨t, rfl⟩ := ru
    exact ⟨S ws[i], by rw [List.getElem?_map, hw]; rfl, strKind_is _ _ _ _, rfl⟩
  refine PyProof.Rows.args_nil ?_
  have I2 : Inv X pins σ H1 { s1 with heap := h', toks := tk } := I1.kept fun b o e => hk b o (Heap.lt_size e) e
  refine sorted_setS (ws := ws) hS (I1.ok.hd hc) hu fun s' pp out c k g o hp hg he => ?_
  have hn : H1 pp = none := I2.hok.fresh hp
  have hz : (vS (sU ws)).length ≤ sizeLine := by
    rw [List.length_map, sU_len, sizeLine_eq]
    omega
  have J : Inv X pins σ (upd H1 pp (.lst (vS (sU ws)))) { { s1 with heap := h', toks := tk } with heap := s'.heap, gens := s'.gens, drawn := s'.drawn, toks := s'.toks } :=
    I2.call (ch := []) (Un.laid k hp hn) (I2.hok.laid k hp ⟨hz, out, c, vals_tx he, hg⟩) (by rw [g]; exact I2.bare) (fun _ z => nomatch z)
  have e : s' = { { s1 with heap := h', toks := tk } with heap := s'.heap, gens := s'.gens, drawn := s'.drawn, toks := s'.toks } := by
    cases s'
    cases s1
    cases o
    rfl
  rw [e]
  exact ⟨.ref pp, _, J, rfl, q1 pp hn⟩
section
variable {X : Cx} {W : Wd} {Γ : List DV} {μ : Mu} {a : Expr} {p p2 q pos : Pos} {ws : List (List Nat)}
/-- sorted(set(texts)) -/
theorem ed_sortSet (ha : Ed X W Γ μ a (wD ws)) (hm : X.mg "sorted" = none) (hm2 : X.mg "set" = none) (hu : X.A.units + 64 < cLine) (hl : (uq ws).length ≤ 4000) (hc : X.calm = true := by rfl) (hg : Gl X "sorted" := by rfl) (hg2 : Gl X "set" := by rfl)
    (na : starEach [a] X.env = (false, eval a X.env) :: starEach [] X.env := by rfl) : Ed X W Γ μ (.Call (.Name "sorted" p) [.Call (.Name "set" p2) [a] [] q] [] pos) (wD (sU ws)) := fun σ H R Q k => by
  refine (pe_sortSetS hg hm hg2 hm2 wE.pe hc hu na).w (ha σ H R _ fun v H2 R2 e2 r2 => ?_)
  cases r2 with
  | lst hl' hv =>
    rename_i aa xx
    have ev : xx = vS ws := by
      have := vaAll_S (ws := ws) hv
      rw [this, List.map_map]
      rfl
    refine ⟨_, ws, rfl, by rw [← ev]; exact SqL.of (off_some hl').2, hl, fun pp hp => ?_⟩
    have sm := same_new (o := .lst (vS (sU ws))) hp
    exact k _ _ (R2.same sm) (e2.trans (XT.same sm)) (.lst (off_upd (new_out R2.ne hp)) (vaAll_vS (sU ws)))
end
end HW
set_option maxHeartbeats 4000000
namespace HW
open PySem PySem.Spec PyProof.Rows L2
open SX (S)
/-! ### s.count(sign) -/
theorem cnt_nat (c : Nat) : ∀ l : List Nat, PyProof.Rows.cnt c l = ((l.count c : Nat) : Int)
  | [] => rfl
  | n :: l => by
    rw [PyProof.Rows.cnt_cons, cnt_nat c l, List.count_cons]
    by_cases h : n = c
    · rw [if_pos h, if_pos (beq_iff_eq.mpr h)]
      push_cast
      omega
    · rw [if_neg h, if_neg (fun q => h (beq_iff_eq.mp q))]
      push_cast
      omega
section
variable {X : Cx} {W : Wd} {Γ : List DV} {μ : Mu} {o e : Expr} {apos pos : Pos} {l : List Nat} {c : Nat}
theorem ed_count1 (ho : Ed X W Γ μ o (sD l)) (he : Ed X W Γ μ e (sg c)) (hs : starEach [e] X.env = [(false, eval e X.env)] := by rfl) (hbase : attributeBase o "count" X.env (eval o X.env) = eval o X.env := by rfl) (hline : (apos.endLine == pos.line) = true := by rfl) :
    Ed X W Γ μ (.Call (.Attribute o "count" apos) [e] [] pos) (nn (l.count c)) := fun σ H R Q q => by
  refine (pe_m1 PySem.F.slot_str_count PySem.F.type_str_count mt_count wE.pe wE.pe hs hbase hline).w (ho σ H R _ fun v H2 R2 e2 r2 => ?_)
  cases r2
  refine ⟨⟨_, rfl⟩, he σ H2 R2 _ fun v H3 R3 e3 r3 => ?_⟩
  cases r3
  refine ⟨_, _, rfl, rfl, ?_⟩
  have e : Txt.count (S l) ⟨#[c]⟩ = ((l.count c : Nat) : Int) := (PyProof.Rows.count_cnt (S l) c).trans (cnt_nat c l)
  rw [e]
  exact q _ H3 R3 (e2.trans e3) (.int _)
end
/-! ### rows some letters of which were not read -/
def patB (p : List Nat) : Prop := p.length ≤ 60 ∧ (∀ c ∈ p, c ∈ [97, 98, 99, 100, 63]) ∧ p.count 63 ≤ 6
def optsL (n c : Nat) : List Nat := if c = 63 then letL n else [c]
def widL (n : Nat) (rs : List (List Nat)) (c : Nat) : List (List Nat) := rs.flatMap fun s => (optsL n c).map fun x => s ++ [x]
def fillL (n : Nat) (p : List Nat) : List (List Nat) := p.foldl (widL n) [[]]
theorem wid_len (n : Nat) (rs : List (List Nat)) (c : Nat) : (widL n rs c).length = rs.length * (optsL n c).length := by
  unfold widL
  induction rs with
  | nil => simp
  | cons r rs ih => rw [List.flatMap_cons, List.length_append, ih, List.length_map, List.length_cons, Nat.succ_mul]; omega
theorem fill_snoc (n : Nat) (p : List Nat) (c : Nat) : fillL n (p ++ [c]) = widL n (fillL n p) c := by
  unfold fillL
  rw [List.foldl_append]
  rfl
theorem fill_step {n : Nat} {p : List Nat} {i c : Nat} (h : p[i]? = some c) : fillL n (p.take (i + 1)) = widL n (fillL n (p.take i)) c := by
  rw [List.take_add_one, h, ← fill_snoc]
  rfl
theorem fill_len {n : Nat} (hn : n ≤ 4) : ∀ p : List Nat, ∀ rs : List (List Nat), (p.foldl (widL n) rs).length = rs.length * n ^ p.count 63
  | [], rs => by simp
  | c :: p, rs => by
    rw [List.foldl_cons, fill_len hn p, wid_len]
    unfold optsL
    by_cases h : c = 63
    · rw [if_pos h, letL_len hn, h, List.count_cons_self, Nat.pow_succ, Nat.mul_assoc, Nat.mul_comm n]
    · rw [if_neg h, List.count_cons_of_ne h, List.length_singleton, Nat.mul_one]
theorem fill_num {n : Nat} {p : List Nat} (h1 : 1 ≤ n) (hn : n ≤ 4) {k : Nat} (hp : p.count 63 ≤ k) : (fillL n p).length ≤ 4 ^ k := by
  unfold fillL
  rw [fill_len hn, List.length_singleton, Nat.one_mul]
  exact Nat.le_trans (Nat.pow_le_pow_left hn _) (Nat.pow_le_pow_right (by decide) hp)
theorem wid_all {n : Nat} {rs : List (List Nat)} {c : Nat} {r : List Nat} (h : r ∈ widL n rs c) : ∃ s ∈ rs, ∃ x ∈ optsL n c, r = s ++ [x] := by
  obtain ⟨s, hs, h2⟩ := List.mem_flatMap.mp h
  obtain ⟨x, hx, rfl⟩ := List.mem_map.mp h2
  exact ⟨s, hs, x, hx, rfl⟩
theorem fill_all {n : Nat} (hn : n ≤ 4) : ∀ (p : List Nat) (rs : List (List Nat)) (k : Nat), (∀ c ∈ p, c = 63 ∨ 97 ≤ c ∧ c < 101) → (∀ r ∈ rs, r.length = k ∧ lowL 4 r) → ∀ r ∈ p.foldl (widL n) rs, r.length = k + p.length ∧ lowL 4 r
  | [], rs, k, _, h, r, hr => h r hr
  | c :: p, rs, k, hc, h, r, hr => by
    rw [List.foldl_cons] at hr
    have z := fill_all hn p (widL n rs c) (k + 1) (fun x hx => hc x (List.mem_cons_of_mem _ hx)) (fun r hr => by
      obtain ⟨s, hs, x, hx, rfl⟩ := wid_all hr
      obtain ⟨h1, h2⟩ := h s hs
      refine ⟨by simp [h1], fun y hy => ?_⟩
      rcases List.mem_append.mp hy with q | q
      · exact h2 y q
      · rw [List.mem_singleton.mp q]
        unfold optsL at hx
        split at hx
        · have := (mem_letL hn).mp hx
          omega
        · have e := List.mem_singleton.mp hx
          have := hc c List.mem_cons_self
          omega) r hr
    rw [List.length_cons]
    exact ⟨by omega, z.2⟩
theorem fill_mem {n : Nat} (hn : n ≤ 4) {p r : List Nat} (hp : patB p) (h : r ∈ fillL n p) : r.length = p.length ∧ lowL 4 r := by
  have z := fill_all hn p [[]] 0 (fun c hc => by
    have := hp.2.1 c hc
    simp at this
    omega) (fun r hr => by
    rw [List.mem_singleton.mp hr]
    exact ⟨rfl, fun c hc => nomatch hc⟩) r h
  exact ⟨by omega, z.2⟩
def goodL (n : Nat) (p m : List Nat) : List (List Nat) := (fillL n p).filter fun r => tellsB r m
def colL (rs : List (List Nat)) (a : Nat) : List (List Nat) := sU (rs.map fun r => [r.getD a 0])
def oneW (ws : List (List Nat)) : List Nat := if ws.length = 1 then ws.headD [] else [63]
def sureD (rs : List (List Nat)) (k : Nat) : PyData := if rs = [] then .none else sD ((List.range k).map fun a => oneW (colL rs a)).flatten
def optW : Option (List Nat) → PyData
  | none => .none
  | some w => sD w
theorem uq_le {α : Type} [DecidableEq α] {ws us : List α} (h : ∀ w ∈ ws, w ∈ us) : (uq ws).length ≤ us.length := by
  have key : ∀ (u l : List α), u.Nodup → (∀ x ∈ u, x ∈ l) → u.length ≤ l.length := by
    intro u
    induction u with
    | nil => intro l _ _; exact Nat.zero_le _
    | cons x u ih =>
      intro l hn hm
      obtain ⟨n1, n2⟩ := List.nodup_cons.mp hn
      have hx := hm x List.mem_cons_self
      have p := (List.perm_cons_erase hx).length_eq
      have := ih (l.erase x) n2 fun y hy => (List.mem_erase_of_ne (fun e : y = x => n1 (by rw [← e]; exact hy))).mpr (hm y (List.mem_cons_of_mem _ hy))
      rw [List.length_cons] at p ⊢
      omega
  exact key _ _ (nodup_uq ws) fun x hx => h x (mem_uq.mp hx)
theorem col_len {rs : List (List Nat)} {a k : Nat} (h : ∀ r ∈ rs, r.length = k ∧ lowL 4 r) (ha : a < k) : (uq (rs.map fun r => [r.getD a 0])).length ≤ 4 := by
  refine uq_le (us := [[97], [98], [99], [100]]) fun w hw => ?_
  obtain ⟨r, hr, rfl⟩ := List.mem_map.mp hw
  obtain ⟨h1, h2⟩ := h r hr
  have hlt : a < r.length := by omega
  have := h2 (r.getD a 0) (by rw [List.getD_eq_getElem?_getD, List.getElem?_eq_getElem hlt]; exact List.getElem_mem hlt)
  generalize r.getD a 0 = c at this
  have hc : c = 97 ∨ c = 98 ∨ c = 99 ∨ c = 100 := by omega
  rcases hc with e | e | e | e <;> subst e <;> simp
theorem oneW_len {rs : List (List Nat)} {a : Nat} : (oneW (colL rs a)).length = 1 := by
  unfold oneW
  split
  · rename_i h
    cases e : colL rs a with
    | nil => rw [e] at h; cases h
    | cons w ws =>
      have hm : w ∈ colL rs a := by rw [e]; exact List.mem_cons_self
      obtain ⟨r, _, rfl⟩ := List.mem_map.mp (mem_sU.mp hm)
      rfl
  · rfl
def R_need_pattern (ds : List PyData) (d : PyData) : Prop := ∃ (p m : List Nat) (n : Nat), ds = [sD p, sD m, nn n] ∧ patB p ∧ maskB m = true ∧ 1 ≤ n ∧ n ≤ 4 ∧ d = .none
def R_fillings_of (ds : List PyData) (d : PyData) : Prop := ∃ (p : List Nat) (n : Nat), ds = [sD p, nn n] ∧ patB p ∧ 1 ≤ n ∧ n ≤ 4 ∧ d = wD (fillL n p)
def R_fill_counts (ds : List PyData) (d : PyData) : Prop := ∃ (p m : List Nat) (n : Nat), ds = [sD p, sD m, nn n] ∧ patB p ∧ maskB m = true ∧ 1 ≤ n ∧ n ≤ 4 ∧ d = pr2 (nn (goodL n p m).length) (nn (fillL n p).length)
def R_first_filling (ds : List PyData) (d : PyData) : Prop := ∃ (p m : List Nat) (n : Nat), ds = [sD p, sD m, nn n] ∧ patB p ∧ maskB m = true ∧ 1 ≤ n ∧ n ≤ 4 ∧ d = optW (goodL n p m).head?
def R_sure_letters (ds : List PyData) (d : PyData) : Prop := ∃ (p m : List Nat) (n : Nat), ds = [sD p, sD m, nn n] ∧ patB p ∧ maskB m = true ∧ 1 ≤ n ∧ n ≤ 4 ∧ d = sureD (goodL n p m) p.length
def pre_pattern (ds : List PyData) : Prop := ∃ a n k : Nat, ds = [nn a, nn n, nn k] ∧ a ≤ 60 ∧ 1 ≤ n ∧ n ≤ 4 ∧ k ≤ 6
def post_pattern (ds : List PyData) (d : PyData) : Prop := ∃ (a n k : Nat) (p : List Nat), ds = [nn a, nn n, nn k] ∧ d = sD p ∧ p.length ≤ 60 ∧ (∀ c ∈ p, c ∈ [97, 98, 99, 100, 63]) ∧ p.count 63 ≤ k
abbrev gMOST_UNREAD (mg : Str → Option Value) : Prop := ∃ t, mg "MOST_UNREAD" = some (.int 6 t)
end HW
set_option maxHeartbeats 4000000
namespace HW
open PySem PySem.Spec PyProof.Rows L2
open SX (S)
section
variable {X : Cx} {W : Wd} {Γ Γ' : List DV} {μ μ' : Mu} {α : Type} {iter : Expr} {body rest : List Stmt} {pos : Pos} {D : Ends}
/-- for n in iter, over whatever comes: Φ i before turn i -/
theorem run_forVI {n : Str} {p : Pos} {enc : α → PyData} {P : List α → Prop} (k : Nat) (hi : IterV X W Γ μ (.Name n p) iter enc P) (Φ : Nat → List DV → Mu → Prop) (h0 : Φ 0 Γ μ)
    (hs : ∀ xs, P xs → ∀ W1, Wle W W1 → ∀ i x, xs[i]? = some x → ∀ Γ' μ', Φ i Γ' μ' → Run X W1 (Γ'.set k (.d (enc x))) μ' body { D with nx := StP X.K W1 (Φ (i + 1)), ct := StP X.K W1 (Φ (i + 1)), bk := wSs X rest D })
    (hd' : ∀ xs, P xs → ∀ Γ' μ', Φ xs.length Γ' μ' → Run X W Γ' μ' rest D) (hN : X.N.Nodup) (hn : X.N[k]? = some n := by rfl) (hx : Loc X.env.scope n := by first | exact Or.inl rfl | exact Or.inr rfl) (hff : X.fn n = true ∨ X.env.scope.names.lookup n = some .local := by first | exact .inr rfl | exact .inl rfl)
    (hp : PassesOwn (model X.prog X.w) X.A X.env X.xe := by exact PassesOwn.never) (hc : X.calm = true := by rfl) (hf : ∀ x, foldedSetIterable iter X.env x = pure x := by intro _; rfl) :
    Run X W Γ μ (.For (.Name n p) iter body [] pos :: rest) D :=
  run_forG hi (tg_name k) (pg_name hN hn hx hff) (fun _ _ _ _ => trivial) (fun _ => Φ) (fun _ _ => h0) (fun xs px W1 l i x Γ' μ' h j => hs xs px W1 l i x h Γ' μ' j) (fun xs px Γ' μ' j => hd' xs px Γ' μ' j) hp hc hf
end
/-! ### patterns drawn -/
theorem chg_count (l : List Nat) (i : Nat) : (chgL l i 63).count 63 ≤ l.count 63 + 1 := by
  unfold chgL
  rw [List.count_append, List.count_append]
  have h1 : (l.drop (i + 1)).count 63 ≤ (l.drop i).count 63 := by
    refine List.Sublist.count_le 63 ?_
    rw [← List.drop_drop]
    exact List.drop_sublist _ _
  have h2 : l.count 63 = (l.take i).count 63 + (l.drop i).count 63 := by rw [← List.count_append, List.take_append_drop]
  have h3 : ([63] : List Nat).count 63 = 1 := rfl
  omega
theorem chg_signs {l : List Nat} {i : Nat} (h : ∀ c ∈ l, c ∈ [97, 98, 99, 100, 63]) : ∀ c ∈ chgL l i 63, c ∈ [97, 98, 99, 100, 63] := fun c hc => by
  unfold chgL at hc
  rcases List.mem_append.mp hc with z | z
  · rcases List.mem_append.mp z with z | z
    · exact h c (List.mem_of_mem_take z)
    · rw [List.mem_singleton.mp z]; decide
  · exact h c (List.mem_of_mem_drop z)
theorem chg_len60 {l : List Nat} {i : Nat} (h : l.length ≤ 60) (hi : i < Nat.max 1 l.length) : (chgL l i 63).length ≤ 60 := by
  unfold chgL
  have : Nat.max 1 l.length = max 1 l.length := rfl
  simp
  omega
section
variable {X : Cx} {W : Wd} {Γ : List DV} {μ : Mu} {a b c : Expr} {pos p p2 : Pos} {n : Str} {r scr : Addr} {ns : List Int} {k : Nat} {l m : List Nat}
/-- _law_pattern(_law_row, a, b, c) -/
theorem ev_pattern {M : Nat} (F : Fd X.prog X.w X.K X.mg X.base k "_law_pattern" ["_law_row", "_law_most", "_law_letters", "_law_many"] (spW X.K pre_pattern post_pattern)) (hr : Room k X.A) (hrow : W.row = some (r, scr, ns)) (j : Nat) (ha : Ev X W Γ μ a (fun z => ∃ q : Nat, z = nn q ∧ q ≤ 60)) (hb : Ev X W Γ μ b (fun z => ∃ q : Nat, z = nn q ∧ 1 ≤ q ∧ q ≤ 4)) (hc : Ed X W Γ μ c (nn M)) (hM : M ≤ 6)
    (hi : Γ[j]? = some (.r r) := by rfl) (hN : X.N[j]? = some n := by rfl) (hv : Vis X.env.scope n := by first | exact Or.inl rfl | exact Or.inr (Or.inl rfl) | exact Or.inr (Or.inr rfl))
    (h1 : (n == ("__debug__" : Str)) = false := by decide) (h2 : (n == ("__classdict__" : Str)) = false := by decide) (hg : Gl X "_law_pattern" := by rfl)
    (he : starEach (.Name n p2 :: [a, b, c]) X.env = (false, eval (.Name n p2) X.env) :: starEach [a, b, c] X.env := by rfl) (hpl : (backTo pos (starEach [a, b, c] X.env)).any (·.1) = false := by rfl) (he2 : starEach [a, b, c] X.env = (false, eval a X.env) :: starEach [b, c] X.env := by rfl) (he3 : starEach [b, c] X.env = (false, eval b X.env) :: starEach [c] X.env := by rfl) (he4 : starEach [c] X.env = (false, eval c X.env) :: starEach [] X.env := by rfl) :
    Ev X W Γ μ (.Call (.Name "_law_pattern" p) (.Name n p2 :: [a, b, c]) [] pos) (fun d => ∃ p : List Nat, d = sD p ∧ p.length ≤ 60 ∧ (∀ c ∈ p, c ∈ [97, 98, 99, 100, 63]) ∧ p.count 63 ≤ M) :=
  (ev_draw F hr hrow j (A := fun ds => ∃ q q2 : Nat, ds = [nn q, nn q2, nn M] ∧ q ≤ 60 ∧ 1 ≤ q2 ∧ q2 ≤ 4) (eva_cons ha (eva_cons hb (eva_cons (hc.evP (P := fun z => z = nn M) rfl) eva_nil he4) he3) he2 |>.imp fun ds ⟨x, r, e, ⟨q, e2, h⟩, y, r2, e3, ⟨q2, e4, h4⟩, z, r3, e5, e6, e7⟩ => ⟨q, q2, by rw [e, e2, e3, e4, e5, e6, e7], h, h4⟩) (fun ds ⟨q, q2, e, h3, h4, h5⟩ => ⟨q, q2, M, e, h3, h4, h5, hM⟩) hi hN hv h1 h2 hg (by decide) he hpl).imp fun d ⟨ds, ⟨q, q2, e, h3, h4, h5⟩, hp⟩ => by
    obtain ⟨a', n', k', p, e2, e3, hl, hall, hcnt⟩ := hp
    rw [e] at e2
    have e4 := PyData.int.inj (List.cons.inj (List.cons.inj (List.cons.inj e2).2).2).1
    exact ⟨p, e3, hl, hall, by omega⟩
end
theorem wid_zero (n : Nat) (rs : List (List Nat)) (c : Nat) : widL n (rs.take 0) c = [] := by simp [widL]
theorem wid_succ {n : Nat} {rs : List (List Nat)} {c j : Nat} {s : List Nat} (h : rs[j]? = some s) : widL n (rs.take (j + 1)) c = widL n (rs.take j) c ++ (optsL n c).map fun x => s ++ [x] := by
  unfold widL
  rw [List.take_add_one, h, List.flatMap_append]
  simp
theorem sure_zero (rs : List (List Nat)) : sureD rs 0 = if rs = [] then PyData.none else sD [] := rfl
theorem sure_succ {rs : List (List Nat)} (h : rs ≠ []) (k : Nat) : sureD rs (k + 1) = sD (((List.range k).map fun a => oneW (colL rs a)).flatten ++ oneW (colL rs k)) := by
  unfold sureD
  rw [if_neg h, List.range_succ, List.map_append, List.flatten_append]
  simp
theorem sure_len (rs : List (List Nat)) (k : Nat) : (((List.range k).map fun a => oneW (colL rs a)).flatten).length = k := by
  induction k with
  | zero => rfl
  | succ k ih => rw [List.range_succ, List.map_append, List.flatten_append, List.length_append, ih]; simp [oneW_len]
theorem sure_low {rs : List (List Nat)} {k K : Nat} (h : ∀ r ∈ rs, r.length = K ∧ lowL 4 r) (hk : k ≤ K) : ∀ c ∈ ((List.range k).map fun a => oneW (colL rs a)).flatten, c < 128 := fun c hc => by
  obtain ⟨w, hw, hcw⟩ := List.mem_flatten.mp hc
  obtain ⟨a, ha, rfl⟩ := List.mem_map.mp hw
  have ha := List.mem_range.mp ha
  unfold oneW at hcw
  split at hcw
  · cases e : colL rs a with
    | nil => rw [e] at hcw; cases hcw
    | cons w ws =>
      have hm : w ∈ colL rs a := by rw [e]; exact List.mem_cons_self
      obtain ⟨r, hr, rfl⟩ := List.mem_map.mp (mem_sU.mp hm)
      rw [e] at hcw
      have hcw : c ∈ [r.getD a 0] := hcw
      rw [List.mem_singleton.mp hcw]
      have hlt : a < r.length := by have := (h r hr).1; omega
      have := (h r hr).2 (r.getD a 0) (by rw [List.getD_eq_getElem?_getD, List.getElem?_eq_getElem hlt]; exact List.getElem_mem hlt)
      omega
  · rw [List.mem_singleton.mp hcw]; decide
theorem shp_sure {rs : List (List Nat)} {K : Nat} (h : ∀ r ∈ rs, r.length = K ∧ lowL 4 r) : Shp 0 (sureD rs K) := by
  unfold sureD
  split
  · exact Shp.non
  · exact Shp.str (sure_low h (Nat.le_refl _))
theorem shp_optW {w : Option (List Nat)} (h : ∀ v, w = some v → lowL 4 v) : Shp 0 (optW w) := by
  cases w with
  | none => exact Shp.non
  | some v => exact Shp.str fun c hc => by have := h v rfl c hc; omega
end HW
set_option maxHeartbeats 4000000
namespace HW
open PySem PySem.Spec PyProof.Rows L2
open SX (S)
/-! ### rings turned and read back -/
def rotL (r : List Nat) (a : Nat) : List Nat := r.drop a ++ r.take a
theorem rots_eq (r : List Nat) : rots r = (List.range r.length).map (rotL r) := rfl
theorem rot_len {r : List Nat} {a : Nat} : (rotL r a).length = r.length := by
  unfold rotL
  rw [List.length_append, List.length_drop, List.length_take]
  omega
theorem rot_get {r : List Nat} {a i : Nat} (ha : a < r.length) (hi : i < r.length) : (rotL r a).getD i 0 = r.getD ((a + i) % r.length) 0 := by
  unfold rotL
  rw [List.getD_eq_getElem?_getD, List.getD_eq_getElem?_getD]
  by_cases h : i < r.length - a
  · rw [List.getElem?_append_left (by rw [List.length_drop]; exact h), List.getElem?_drop, Nat.mod_eq_of_lt (by omega)]
  · rw [List.getElem?_append_right (by rw [List.length_drop]; omega), List.length_drop, List.getElem?_take_of_lt (by omega), Nat.mod_eq_sub_mod (by omega), Nat.mod_eq_of_lt (by omega)]
    congr 2
    omega
theorem ext_getD {a b : List Nat} (hl : a.length = b.length) (h : ∀ i, i < a.length → a.getD i 0 = b.getD i 0) : a = b := by
  refine List.ext_getElem hl fun i h1 h2 => ?_
  have := h i h1
  rw [List.getD_eq_getElem?_getD, List.getD_eq_getElem?_getD, List.getElem?_eq_getElem h1, List.getElem?_eq_getElem h2] at this
  exact this
theorem rot_rot {r : List Nat} {b c : Nat} (hb : b < r.length) (hc : c < r.length) : rotL (rotL r b) c = rotL r ((b + c) % r.length) := by
  have hm : (b + c) % r.length < r.length := Nat.mod_lt _ (by omega)
  refine ext_getD (by rw [rot_len, rot_len, rot_len]) fun i hi => ?_
  rw [rot_len, rot_len] at hi
  have hm2 : (c + i) % r.length < r.length := Nat.mod_lt _ (by omega)
  rw [rot_get (by rw [rot_len]; exact hc) (by rw [rot_len]; exact hi), rot_get hm hi, rot_len, rot_get hb hm2]
  congr 1
  rw [Nat.add_mod_mod, Nat.mod_add_mod, Nat.add_assoc]
theorem rot_zero (r : List Nat) : rotL r 0 = r := by simp [rotL]
theorem mem_rots {r x : List Nat} : x ∈ rots r ↔ ∃ a, a < r.length ∧ x = rotL r a := by
  rw [rots_eq, List.mem_map]
  constructor
  · rintro ⟨a, ha, rfl⟩
    exact ⟨a, List.mem_range.mp ha, rfl⟩
  · rintro ⟨a, ha, rfl⟩
    exact ⟨a, List.mem_range.mpr ha, rfl⟩
theorem rots_rot {r : List Nat} {b : Nat} (hb : b < r.length) {x : List Nat} : x ∈ rots (rotL r b) ↔ x ∈ rots r := by
  rw [mem_rots, mem_rots, rot_len]
  constructor
  · rintro ⟨a, ha, rfl⟩
    exact ⟨(b + a) % r.length, Nat.mod_lt _ (by omega), rot_rot hb ha⟩
  · rintro ⟨a, ha, rfl⟩
    refine ⟨(a + (r.length - b)) % r.length, Nat.mod_lt _ (by omega), ?_⟩
    rw [rot_rot hb (Nat.mod_lt _ (by omega)), Nat.add_mod_mod]
    have e : b + (a + (r.length - b)) = a + r.length := by omega
    rw [e, Nat.add_mod_right, Nat.mod_eq_of_lt ha]
theorem minW_spec : ∀ (l : List (List Nat)) (a : List Nat), minW a l ∈ a :: l ∧ ∀ y ∈ a :: l, minW a l ≤ y
  | [], a => ⟨List.mem_cons_self, fun y hy => by rw [List.mem_singleton.mp hy]; exact List.le_refl a⟩
  | b :: l, a => by
    obtain ⟨h1, h2⟩ := minW_spec l (if b < a then b else a)
    have e : minW a (b :: l) = minW (if b < a then b else a) l := rfl
    rw [e]
    have hmin := h2 _ List.mem_cons_self
    constructor
    · rcases List.mem_cons.mp h1 with z | z
      · rw [z]
        split
        · exact List.mem_cons_of_mem _ List.mem_cons_self
        · exact List.mem_cons_self
      · exact List.mem_cons_of_mem _ (List.mem_cons_of_mem _ z)
    · intro y hy
      rcases List.mem_cons.mp hy with z | hy
      · rw [z]
        refine List.le_trans hmin ?_
        split
        · rename_i q
          exact List.le_of_lt q
        · exact List.le_refl a
      · rcases List.mem_cons.mp hy with z | hy
        · rw [z]
          refine List.le_trans hmin ?_
          split
          · exact List.le_refl b
          · rename_i q
            exact q
        · exact h2 y (List.mem_cons_of_mem _ hy)
theorem minR_spec {r : List Nat} (h : 1 ≤ r.length) : minR r ∈ rots r ∧ ∀ y ∈ rots r, minR r ≤ y := by
  have hne := rots_ne h
  unfold minR
  cases e : rots r with
  | nil => exact absurd e hne
  | cons a l => exact minW_spec l a
theorem minR_rot {r : List Nat} {b : Nat} (hb : b < r.length) : minR (rotL r b) = minR r := by
  obtain ⟨h1, h2⟩ := minR_spec (r := r) (by omega)
  obtain ⟨g1, g2⟩ := minR_spec (r := rotL r b) (by rw [rot_len]; omega)
  exact List.le_antisymm (g2 _ ((rots_rot hb).mpr h1)) (h2 _ ((rots_rot hb).mp g1))
theorem rot_rev {r : List Nat} {b : Nat} (hb : b < r.length) : (rotL r b).reverse = rotL r.reverse ((r.length - b) % r.length) := by
  unfold rotL
  rw [List.reverse_append, List.reverse_take, List.reverse_drop]
  by_cases h : b = 0
  · subst h
    simp
    rw [List.drop_eq_nil_of_le (by simp), List.take_of_length_le (by simp)]
    rfl
  · rw [Nat.mod_eq_of_lt (by omega)]
theorem mod_cancel {L a b c : Nat} (ha : a < L) (hb : b < L) (h : (a + c) % L = (b + c) % L) : a = b := by
  rcases Nat.le_total a b with q | q
  · have z := Nat.sub_mod_eq_zero_of_mod_eq h.symm
    have e : b + c - (a + c) = b - a := by omega
    rw [e, Nat.mod_eq_of_lt (by omega)] at z
    omega
  · have z := Nat.sub_mod_eq_zero_of_mod_eq h
    have e : a + c - (b + c) = a - b := by omega
    rw [e, Nat.mod_eq_of_lt (by omega)] at z
    omega
theorem ring_sym {r m : List Nat} : (ringV r (seenL m)).Nodup ↔ ∀ p q, p < r.length → q < r.length → p ≠ q → ∃ a, a < m.length ∧ m[a]? = some 120 ∧ r.getD ((p + a) % r.length) 0 ≠ r.getD ((q + a) % r.length) 0 := by
  rw [ring_iff]
  constructor
  · intro h p q hp hq hne
    rcases Nat.lt_or_gt_of_ne hne with z | z
    · exact h p q z hq
    · obtain ⟨a, h1, h2, h3⟩ := h q p z hp
      exact ⟨a, h1, h2, fun e => h3 e.symm⟩
  · intro h p q h1 h2
    exact h p q (by omega) h2 (by omega)
theorem ring_rot {r m : List Nat} {b : Nat} (hb : b < r.length) (h : (ringV r (seenL m)).Nodup) : (ringV (rotL r b) (seenL m)).Nodup := by
  rw [ring_sym] at h ⊢
  rw [rot_len]
  intro p q hp hq hne
  have hL : 0 < r.length := by omega
  obtain ⟨a, h1, h2, h3⟩ := h ((b + p) % r.length) ((b + q) % r.length) (Nat.mod_lt _ hL) (Nat.mod_lt _ hL) (fun e => hne (mod_cancel (c := b) hp hq (by rw [Nat.add_comm p, Nat.add_comm q]; exact e)))
  refine ⟨a, h1, h2, ?_⟩
  rw [rot_get hb (Nat.mod_lt _ hL), rot_get hb (Nat.mod_lt _ hL), Nat.add_mod_mod, Nat.add_mod_mod, ← Nat.add_assoc, ← Nat.add_assoc]
  rw [Nat.mod_add_mod, Nat.mod_add_mod] at h3
  exact h3
theorem rev_place {L M p a t : Nat} (hL : 0 < L) (hp : p < L) (ha : a < M) (ht : t = (p + (M - 1 - a)) % L) : ((L - 1 - p + (M * L - (M - 1))) % L + a) % L = L - 1 - t := by
  have hML : M - 1 ≤ M * L := Nat.le_trans (by omega) (Nat.le_mul_of_pos_right M hL)
  have h1 := Nat.div_add_mod (p + (M - 1 - a)) L
  rw [← ht] at h1
  have htL : t < L := by rw [ht]; exact Nat.mod_lt _ hL
  generalize (p + (M - 1 - a)) / L = k at h1
  have hk : k ≤ M := by
    rcases Nat.lt_or_ge M k with z | z
    · have t : L * (M + 1) ≤ L * k := Nat.mul_le_mul_left L z
      have e : L * (M + 1) = M * L + L := by rw [Nat.mul_succ, Nat.mul_comm L M]
      have : M * 1 ≤ M * L := Nat.mul_le_mul_left M hL
      omega
    · exact z
  rw [Nat.mod_add_mod]
  have e2 : M * L = L * k + L * (M - k) := by rw [← Nat.mul_add, Nat.mul_comm]; congr 1; omega
  have e : L - 1 - p + (M * L - (M - 1)) + a = (L - 1 - t) + L * (M - k) := by omega
  rw [e, Nat.add_mul_mod_self_left, Nat.mod_eq_of_lt (by omega)]
theorem ring_rev {r m : List Nat} (hL : 1 ≤ r.length) (h : (ringV r (seenL m)).Nodup) : (ringV r.reverse (seenL m.reverse)).Nodup := by
  rw [ring_sym] at h ⊢
  rw [List.length_reverse, List.length_reverse]
  intro p q hp hq hne
  obtain ⟨a, h1, h2, h3⟩ := h ((r.length - 1 - p + (m.length * r.length - (m.length - 1))) % r.length) ((r.length - 1 - q + (m.length * r.length - (m.length - 1))) % r.length) (Nat.mod_lt _ hL) (Nat.mod_lt _ hL) (fun e => hne (by
    have := mod_cancel (by omega) (by omega) e
    omega))
  refine ⟨m.length - 1 - a, by omega, ?_, ?_⟩
  · rw [List.getElem?_reverse (by omega)]
    have e : m.length - 1 - (m.length - 1 - a) = a := by omega
    rw [e]
    exact h2
  · rw [rev_place hL hp h1 rfl, rev_place hL hq h1 rfl] at h3
    rw [getD_rev (Nat.mod_lt _ hL), getD_rev (Nat.mod_lt _ hL)]
    exact h3
/-! ### rings in order, and back -/
theorem lt_snoc : ∀ {a b : List Nat} {x y : List Nat}, a.length = b.length → a < b → a ++ x < b ++ y
  | [], [], x, y, _, h => absurd h (List.lt_irrefl [])
  | [], _ :: _, x, y, h, _ => by simp at h
  | _ :: _, [], x, y, h, _ => by simp at h
  | a :: as, b :: bs, x, y, hl, h => by
    rw [List.cons_append, List.cons_append]
    rcases List.cons_lt_cons_iff.mp h with z | ⟨z, z2⟩
    · exact List.cons_lt_cons_iff.mpr (.inl z)
    · exact List.cons_lt_cons_iff.mpr (.inr ⟨z, lt_snoc (Nat.succ.inj hl) z2⟩)
theorem lt_last : ∀ (a : List Nat) {x y : Nat}, x < y → a ++ [x] < a ++ [y]
  | [], x, y, h => List.cons_lt_cons_iff.mpr (.inl h)
  | a :: as, x, y, h => List.cons_lt_cons_iff.mpr (.inr ⟨rfl, lt_last as h⟩)
theorem words_asc {n : Nat} (hn : n ≤ 4) : ∀ k, (words n k).Pairwise (· < ·)
  | 0 => List.pairwise_singleton _ _
  | k + 1 => by
    show ((words n k).flatMap fun v => (letL n).map fun c => v ++ [c]).Pairwise _
    have hlet : (letL n).Pairwise (· < ·) := by
      match n, hn with
      | 0, _ => decide
      | 1, _ => decide
      | 2, _ => decide
      | 3, _ => decide
      | 4, _ => decide
    rw [List.pairwise_flatMap]
    refine ⟨fun v hv => List.pairwise_map.mpr (hlet.imp fun {x y} h => lt_last v h), ?_⟩
    have hl : ∀ v ∈ words n k, v.length = k := fun v hv => (mem_words_iff hn hv).1
    have := words_asc hn k
    refine (List.Pairwise.and_mem.mp this).imp fun {a b} ⟨ha, hb, h⟩ => ?_
    intro x hx y hy
    obtain ⟨c, _, rfl⟩ := List.mem_map.mp hx
    obtain ⟨e, _, rfl⟩ := List.mem_map.mp hy
    exact lt_snoc (by rw [hl a ha, hl b hb]) h
theorem rings_asc {m : List Nat} {n : Nat} (hm : 1 ≤ m.length) (hn : n ≤ 4) (L : Nat) : (ringsL m n L).Pairwise (· < ·) := by
  rw [← words_rings hm]
  exact (words_asc hn L).filter _
theorem mem_rings_iff {m : List Nat} {n L : Nat} (hm : 1 ≤ m.length) (hn : n ≤ 4) {r : List Nat} : r ∈ ringsL m n L ↔ r.length = L ∧ lowL n r ∧ (ringV r (seenL m)).Nodup ∧ r = minR r := by
  refine ⟨mem_rings hm hn, fun ⟨h1, h2, h3, h4⟩ => List.mem_filter.mpr ⟨(mem_lev hm hn).mpr ⟨h1, h2, ring_tells hm h3⟩, ?_⟩⟩
  unfold ringOk
  rw [Bool.and_eq_true]
  exact ⟨decide_eq_true h3, decide_eq_true h4⟩
theorem rot_low {n : Nat} {r : List Nat} {b : Nat} (h : lowL n r) : lowL n (rotL r b) := fun c hc => by
  rcases List.mem_append.mp hc with z | z
  · exact h c (List.mem_of_mem_drop z)
  · exact h c (List.mem_of_mem_take z)
def backR (r : List Nat) : List Nat := minR r.reverse
theorem back_rot {r : List Nat} (h : 1 ≤ r.length) : ∃ b, b < r.length ∧ backR r = rotL r.reverse b := by
  obtain ⟨a, ha, e⟩ := mem_rots.mp (minR_spec (r := r.reverse) (by rw [List.length_reverse]; exact h)).1
  rw [List.length_reverse] at ha
  exact ⟨a, ha, e⟩
theorem back_mem {m : List Nat} {n L : Nat} (hm : 1 ≤ m.length) (hn : n ≤ 4) (hL : 1 ≤ L) {r : List Nat} (h : r ∈ ringsL m n L) : backR r ∈ ringsL m.reverse n L := by
  obtain ⟨h1, h2, h3, h4⟩ := (mem_rings_iff hm hn).mp h
  obtain ⟨b, hb, e⟩ := back_rot (r := r) (by omega)
  have hb2 : b < r.reverse.length := by rw [List.length_reverse]; exact hb
  rw [mem_rings_iff (by rw [List.length_reverse]; exact hm) hn, e]
  refine ⟨by rw [rot_len, List.length_reverse, h1], rot_low fun c hc => h2 c (List.mem_reverse.mp hc), ring_rot hb2 (ring_rev (by omega) h3), ?_⟩
  rw [minR_rot hb2]
  exact e.symm
theorem back_back {m : List Nat} {n L : Nat} (hm : 1 ≤ m.length) (hn : n ≤ 4) (hL : 1 ≤ L) {r : List Nat} (h : r ∈ ringsL m n L) : backR (backR r) = r := by
  obtain ⟨h1, h2, h3, h4⟩ := (mem_rings_iff hm hn).mp h
  obtain ⟨b, hb, e⟩ := back_rot (r := r) (by omega)
  have hb2 : b < r.reverse.length := by rw [List.length_reverse]; exact hb
  rw [e]
  unfold backR
  rw [rot_rev hb2, List.reverse_reverse, List.length_reverse, minR_rot (Nat.mod_lt _ (by omega))]
  exact h4.symm
theorem back_perm {m : List Nat} {n L : Nat} (hm : 1 ≤ m.length) (hn : n ≤ 4) (hL : 1 ≤ L) : ((ringsL m n L).map backR).Perm (ringsL m.reverse n L) := by
  have nd : ∀ {u : List (List Nat)}, u.Pairwise (· < ·) → u.Nodup := fun {u} h => h.imp (S := fun a b => a ≠ b) fun {a b} (q : a < b) (e : a = b) => List.lt_irrefl b (by rw [e] at q; exact q)
  have hm2 : 1 ≤ m.reverse.length := by rw [List.length_reverse]; exact hm
  refine (List.perm_ext_iff_of_nodup ?_ (nd (rings_asc hm2 hn L))).mpr fun x => ?_
  · refine List.pairwise_map.mpr ((List.Pairwise.and_mem.mp (nd (rings_asc hm hn L))).imp fun {a b} ⟨ha, hb, hne⟩ e => hne ?_)
    rw [← back_back hm hn hL ha, ← back_back hm hn hL hb, e]
  · rw [List.mem_map]
    constructor
    · rintro ⟨r, hr, rfl⟩
      exact back_mem hm hn hL hr
    · intro hx
      refine ⟨backR x, ?_, back_back hm2 hn hL hx⟩
      have := back_mem hm2 hn hL hx
      rw [List.reverse_reverse] at this
      exact this
/-! ### how many -/
theorem rots_nodup {r m : List Nat} (h : (ringV r (seenL m)).Nodup) : (rots r).Nodup := by
  rw [rots_eq, nodup_range]
  intro p q h1 h2 e
  obtain ⟨a, _, _, h5⟩ := ring_sym.mp h p q (by omega) h2 (by omega)
  apply h5
  have hL : 0 < r.length := by omega
  have z : (rotL r p).getD (a % r.length) 0 = (rotL r q).getD (a % r.length) 0 := by rw [e]
  rw [rot_get (by omega) (Nat.mod_lt _ hL), rot_get h2 (Nat.mod_lt _ hL), Nat.add_mod_mod, Nat.add_mod_mod] at z
  exact z
theorem nodup_le {α : Type} [DecidableEq α] : ∀ {u l : List α}, u.Nodup → (∀ x ∈ u, x ∈ l) → u.length ≤ l.length
  | [], _, _, _ => Nat.zero_le _
  | x :: u, l, hn, hm => by
    obtain ⟨n1, n2⟩ := List.nodup_cons.mp hn
    have hx := hm x List.mem_cons_self
    have p := (List.perm_cons_erase hx).length_eq
    have := nodup_le (l := l.erase x) n2 fun y hy => (List.mem_erase_of_ne (fun e : y = x => n1 (by rw [← e]; exact hy))).mpr (hm y (List.mem_cons_of_mem _ hy))
    rw [List.length_cons] at p ⊢
    omega
theorem rings_few {m : List Nat} {n L : Nat} (hm : 1 ≤ m.length) (hn : n ≤ 4) (hL : 1 ≤ L) : (ringsL m n L).length * L ≤ (lev m n L).length := by
  have nd : (ringsL m n L).Nodup := (rings_asc hm hn L).imp (S := fun a b => a ≠ b) fun {a b} (q : a < b) (e : a = b) => List.lt_irrefl b (by rw [e] at q; exact q)
  have hlen : ∀ rs : List (List Nat), (∀ r ∈ rs, r.length = L) → (rs.flatMap rots).length = rs.length * L := by
    intro rs
    induction rs with
    | nil => intro _; simp
    | cons r rs ih =>
      intro h
      rw [List.flatMap_cons, List.length_append, ih (fun x hx => h x (List.mem_cons_of_mem _ hx)), List.length_cons, Nat.succ_mul, rots_eq, List.length_map, List.length_range, h r List.mem_cons_self]
      omega
  rw [← hlen _ fun r hr => ((mem_rings_iff hm hn).mp hr).1]
  refine nodup_le ?_ fun x hx => ?_
  · unfold List.Nodup
    rw [List.pairwise_flatMap]
    refine ⟨fun r hr => rots_nodup ((mem_rings_iff hm hn).mp hr).2.2.1, (List.Pairwise.and_mem.mp nd).imp fun {a b} ⟨ha, hb, hne⟩ => ?_⟩
    intro x hx y hy e
    subst e
    obtain ⟨p, hp, e1⟩ := mem_rots.mp hx
    obtain ⟨q, hq, e2⟩ := mem_rots.mp hy
    have m1 := minR_rot hp
    have m2 := minR_rot hq
    rw [← e1] at m1
    rw [← e2] at m2
    have a4 := ((mem_rings_iff hm hn).mp ha).2.2.2
    have b4 := ((mem_rings_iff hm hn).mp hb).2.2.2
    exact hne (by rw [a4, b4, ← m1, ← m2])
  · obtain ⟨r, hr, hx⟩ := List.mem_flatMap.mp hx
    obtain ⟨a, ha, rfl⟩ := mem_rots.mp hx
    obtain ⟨h1, h2, h3, _⟩ := (mem_rings_iff hm hn).mp hr
    exact (mem_lev hm hn).mpr ⟨by rw [rot_len, h1], rot_low h2, ring_tells hm (ring_rot ha h3)⟩
theorem lev_more {m : List Nat} {n : Nat} (hn : n ≤ 4) (k : Nat) : ∀ j, (lev m n (k + j)).length ≤ (lev m n k).length * n ^ j
  | 0 => by simp
  | j + 1 => by
    have ih := lev_more (m := m) hn k j
    have h : ∀ rs : List (List Nat), (rs.flatMap (stepR m n)).length ≤ rs.length * n := by
      intro rs
      induction rs with
      | nil => simp
      | cons r rs ih =>
        rw [List.flatMap_cons, List.length_append, List.length_cons, Nat.succ_mul]
        have := stepR_len m hn r
        omega
    show ((lev m n (k + j)).flatMap (stepR m n)).length ≤ _
    refine Nat.le_trans (h _) ?_
    rw [Nat.pow_succ, ← Nat.mul_assoc]
    exact Nat.mul_le_mul_right n ih
end HW
set_option maxHeartbeats 4000000
namespace HW
open PySem PySem.Spec PyProof.Rows L2
open SX (S)
structure Ring13 (m : List Nat) (n : Nat) : Prop where
  sm : Small m n
  sr : Small m.reverse n
  sl : (seenL m.reverse).length = (seenL m).length
  few : (ringsL m n (n ^ (seenL m).length)).length ≤ 4000
  some : 46 ∈ m ∨ ringsL m n (n ^ (seenL m).length) ≠ []
theorem small_of {m : List Nat} {n : Nat} (h : (maskB m && decide (1 ≤ n) && decide (n ≤ 4) && decide (m.length ≤ [12, 8, 5, 4].getD (n - 1) 0) && decide ((seenL m).length ≤ [12, 4, 2, 1].getD (n - 1) 0)) = true) : Small m n := by
  simp only [Bool.and_eq_true, decide_eq_true_eq] at h
  obtain ⟨⟨⟨⟨a, b⟩, c⟩, d⟩, e⟩ := h
  exact ⟨a, b, c, d, e⟩
theorem few_of {m : List Nat} {n L : Nat} (h : Small m n) (hL : 1 ≤ L) {k j B : Nat} (e : L = k + j) (hk : (lev m n k).length ≤ B) (hB : B * n ^ j < 4001 * L) : (ringsL m n L).length ≤ 4000 := by
  have h1 := rings_few h.pos h.hi hL (n := n)
  have h2 := lev_more (m := m) h.hi k j
  rw [← e] at h2
  have h3 : (ringsL m n L).length * L < 4001 * L := Nat.lt_of_le_of_lt h1 (Nat.lt_of_le_of_lt h2 (Nat.lt_of_le_of_lt (Nat.mul_le_mul_right _ hk) hB))
  have h4 := Nat.lt_of_mul_lt_mul_right h3
  omega
theorem ring_some {m r : List Nat} {n L : Nat} (h : Small m n) (h1 : (decide (r.length = L) && r.all (fun c => decide (97 ≤ c) && decide (c < 97 + n)) && ringOk m r) = true) : ringsL m n L ≠ [] := by
  simp only [Bool.and_eq_true, decide_eq_true_eq, List.all_eq_true] at h1
  obtain ⟨⟨a, b⟩, c⟩ := h1
  unfold ringOk at c
  rw [Bool.and_eq_true, decide_eq_true_iff, decide_eq_true_iff] at c
  have hm : r ∈ ringsL m n L := (mem_rings_iff h.pos h.hi).mpr ⟨a, b, c.1, c.2⟩
  intro e
  rw [e] at hm
  cases hm
def kM (q : Nat) : List Nat := [[120, 120, 120], [120, 120, 46, 120], [120, 120, 120, 120], [120, 46, 120, 120], [120, 120, 46, 46, 120], [120, 120], [120, 46, 120], [120, 46, 46, 120]].getD q []
def kN (q : Nat) : Nat := if q < 5 then 2 else 3
theorem ring13_2 {m : List Nat} (h : Small m 2) (h2 : Small m.reverse 2) (sl : (seenL m.reverse).length = (seenL m).length) (hs : (seenL m).length = 3) (hd : 46 ∈ m ∨ ringsL m 2 8 ≠ []) : Ring13 m 2 :=
  ⟨h, h2, sl, by rw [hs]; exact few_of h (by decide) (k := 0) (j := 8) (B := 1) rfl (Nat.le_refl 1) (by decide), by rw [hs]; exact hd⟩
theorem ring13_3 {m : List Nat} (h : Small m 3) (h2 : Small m.reverse 3) (sl : (seenL m.reverse).length = (seenL m).length) (hs : (seenL m).length = 2) (hd : 46 ∈ m ∨ ringsL m 3 9 ≠ []) : Ring13 m 3 :=
  ⟨h, h2, sl, by rw [hs]; exact few_of h (by decide) (k := 0) (j := 9) (B := 1) rfl (Nat.le_refl 1) (by decide), by rw [hs]; exact hd⟩
theorem ring13_4 {m : List Nat} (em : m = [120, 120, 120, 120]) (h : Small m 2) (h2 : Small m.reverse 2) (hs : (seenL m).length = 4) (sl : (seenL m.reverse).length = (seenL m).length) (hw : ringsL m 2 16 ≠ []) : Ring13 m 2 :=
  ⟨h, h2, sl, by rw [hs]; exact few_of h (by decide) (k := 6) (j := 10) (B := 56) rfl (by rw [em]; decide +kernel) (by decide), by rw [hs]; exact .inr hw⟩
theorem ring13 (q : Nat) (h : q < 8) : Ring13 (kM q) (kN q) := by
  have hc : q = 0 ∨ q = 1 ∨ q = 2 ∨ q = 3 ∨ q = 4 ∨ q = 5 ∨ q = 6 ∨ q = 7 := by omega
  rcases hc with e | e | e | e | e | e | e | e <;> subst e
  · exact ring13_2 (m := [120, 120, 120]) (small_of (by decide +kernel)) (small_of (by decide +kernel)) (by decide +kernel) (by decide +kernel) (.inr (ring_some (r := [97, 97, 97, 98, 97, 98, 98, 98]) (small_of (by decide +kernel)) (by decide +kernel)))
  · exact ring13_2 (m := [120, 120, 46, 120]) (small_of (by decide +kernel)) (small_of (by decide +kernel)) (by decide +kernel) (by decide +kernel) (.inl (by decide))
  · exact ring13_4 (m := [120, 120, 120, 120]) rfl (small_of (by decide +kernel)) (small_of (by decide +kernel)) (by decide +kernel) (by decide +kernel) (ring_some (r := [97, 97, 97, 97, 98, 97, 97, 98, 98, 97, 98, 97, 98, 98, 98, 98]) (small_of (by decide +kernel)) (by decide +kernel))
  · exact ring13_2 (m := [120, 46, 120, 120]) (small_of (by decide +kernel)) (small_of (by decide +kernel)) (by decide +kernel) (by decide +kernel) (.inl (by decide))
  · exact ring13_2 (m := [120, 120, 46, 46, 120]) (small_of (by decide +kernel)) (small_of (by decide +kernel)) (by decide +kernel) (by decide +kernel) (.inl (by decide))
  · exact ring13_3 (m := [120, 120]) (small_of (by decide +kernel)) (small_of (by decide +kernel)) (by decide +kernel) (by decide +kernel) (.inr (ring_some (r := [97, 97, 98, 97, 99, 98, 98, 99, 99]) (small_of (by decide +kernel)) (by decide +kernel)))
  · exact ring13_3 (m := [120, 46, 120]) (small_of (by decide +kernel)) (small_of (by decide +kernel)) (by decide +kernel) (by decide +kernel) (.inl (by decide))
  · exact ring13_3 (m := [120, 46, 46, 120]) (small_of (by decide +kernel)) (small_of (by decide +kernel)) (by decide +kernel) (by decide +kernel) (.inl (by decide))
theorem sort_back {m : List Nat} {n L : Nat} (hm : 1 ≤ m.length) (hn : n ≤ 4) (hL : 1 ≤ L) : sortD ((ringsL m n L).map fun r => sD (backR r)) = (ringsL m.reverse n L).map sD := by
  have hm2 : 1 ≤ m.reverse.length := by rw [List.length_reverse]; exact hm
  refine sorted_lt (rings_asc hm2 hn L) ?_
  have := (back_perm hm hn hL).map sD
  rw [List.map_map] at this
  exact this
theorem kM_get (q : Nat) (h : q < 8) : ([[120, 120, 120], [120, 120, 46, 120], [120, 120, 120, 120], [120, 46, 120, 120], [120, 120, 46, 46, 120], [120, 120], [120, 46, 120], [120, 46, 46, 120]].map sD)[q]? = some (sD (kM q)) := by
  unfold kM
  rw [List.getElem?_map, List.getD_eq_getElem?_getD, List.getElem?_eq_getElem (by exact h)]
  rfl
end HW
set_option maxHeartbeats 4000000
namespace HX
open PySem PySem.Spec PyProof.Rows L2 He
/-! the head's Hook with the model's own table of statics -/
def asS (g : Addr → Option Obj) (n : Nat) : List Addr := asD g n ++ [cStatics]
def obsS (n : Nat) (fa : List Fa) (fn : List DefD) (ex : PySem.W.Frag → Bool) (g : Addr → Option Obj) : AlE := (obsD fa fn (frG g (asS g n)), ex (frG g (asS g n)))
def hookS (n : Nat) (fa : List Fa) (fn : List DefD) (ex : PySem.W.Frag → Bool) : PySem.W.Hook where
  α := AlE
  obs := fun s => obsS n fa fn ex s.heap.get?
  val := fun _ => (valD fn, true)
  says := fun _ h => ∃ K : PySem.W.Frag, K.In h ∧ SaysD fa fn K ∧ ex K = true
  of := fun _ _ e => ⟨_, frG_in, congrArg (fun z : AlE => z.1) e, congrArg (fun z : AlE => z.2) e⟩
  keeps := fun _ _ _ ⟨K, hK, c⟩ k => ⟨K, PySem.W.Frag.In.keeps hK k, c⟩
theorem obsS_eq {n : Nat} {fa : List Fa} {fn : List DefD} {ex : PySem.W.Frag → Bool} {g : Addr → Option Obj} {s : Shared} (h : ∀ a, g a = s.heap.get? a) : obsS n fa fn ex g = (hookS n fa fn ex).obs s := by
  have e : g = s.heap.get? := funext h
  rw [e] <;> rfl
end HX
namespace HW
open PySem PySem.Spec PyProof.Rows L2
open SX (S)
/-! ### exception classes of the program -/
/-- the j-th statement of a class -/
def clsM (st : Stmt) (j : Nat) : Stmt := match st with
  | .ClassDef _ _ _ body _ _ _ _ _ _ _ => body.getD j (.Pass ⟨0, 0, 0, 0⟩)
  | s => s
def oexB (K : PySem.W.Frag) (C : Addr) : Bool := match K.lookup C with
  | some ⟨.type "type", _, .cls cd, sl⟩ => (match cd.mro, sl.toList with
    | .ref C' :: bm, [_, _, _, _, some (.builtin n), _] => C' == C && n == "ValueError.__new__" && !cd.hasDel && cd.hasDict && PySem.HandSPX.refsVE bm
    | _, _ => false)
  | _ => false
theorem oexB_ok {K : PySem.W.Frag} {C : Addr} (q : oexB K C = true) : ∃ nm q N bs bm sn sub ab col dd k0 k1 k2 k3 k5, K.lookup C = some (excClassObj nm q C N bs bm true sn sub ab col dd k0 k1 k2 k3 k5 "ValueError.__new__") ∧ PySem.HandSPX.refsVE bm = true := by
  unfold oexB at q
  split at q
  · rename_i dd cd sl ho
    split at q
    · rename_i C' bm k0 k1 k2 k3 n k5 hm hs
      simp only [Bool.and_eq_true, beq_iff_eq, Bool.not_eq_true'] at q
      obtain ⟨⟨⟨⟨h1, h2⟩, h3⟩, h4⟩, h5⟩ := q
      subst h1
      subst h2
      obtain ⟨nm, bs, mro, ns, qn, hd, sn, sub, ab, col, del⟩ := cd
      dsimp only at hm h3 h4
      subst hm h3 h4
      have hsl : sl = #[k0, k1, k2, k3, some (.builtin "ValueError.__new__"), k5] := by
        obtain ⟨l⟩ := sl
        simp only at hs
        rw [hs]
      subst hsl
      exact ⟨nm, qn, ns, bs, bm, sn, sub, ab, col, dd, k0, k1, k2, k3, k5, ho, h5⟩
    · cases q
  · cases q
/-- the class x: raised, made by its own __init__, its fields read -/
structure ExF (K : PySem.W.Frag) (mg : Str → Option Value) (x : Str) : Prop where
  g : mg x = some (.ref (He.ga K x))
  oex : OexC K (He.ga K x)
  ini : PySem.W.findIn K (.ref (He.ga K x)) "__init__" = some (some (.ref (He.ma K (He.ga K x) "__init__")))
  ty : PySem.W.typeIn K (.ref (He.ma K (He.ga K x) "__init__")) = some (.type "function")
  xf : XfC K (He.ga K x)
def exfB (x : Str) (K : PySem.W.Frag) : Bool := He.eqO (PySem.W.nsIn K mainGlobals x) (some (some (.ref (He.ga K x)))) && (oexB K (He.ga K x) && (He.eqO (PySem.W.findIn K (.ref (He.ga K x)) "__setattr__") (some (some (.builtin "object.__setattr__"))) && (decide (PySem.W.subIn K (.ref (He.ga K x)) (.type "BaseException") = some true) &&
  (decide (PySem.W.typeIn K (.ref (He.ga K x)) = some (.type "type")) && (PySem.W.keepIn K (.ref (He.ga K x)) && (He.eqO (PySem.W.findIn K (.ref (He.ga K x)) "__init__") (some (some (.ref (He.ma K (He.ga K x) "__init__")))) && (decide (PySem.W.typeIn K (.ref (He.ma K (He.ga K x) "__init__")) = some (.type "function")) && xfB K (He.ga K x))))))))
theorem exfB_ok {K : PySem.W.Frag} {h : Heap} {mg : Str → Option Value} {x : Str} (X : K.In h) (G : h.Ns mainGlobals mg) (c : exfB x K = true) : ExF K mg x := by
  unfold exfB at c
  obtain ⟨h1, c⟩ := Bool.and_eq_true_iff.mp c
  obtain ⟨h2, c⟩ := Bool.and_eq_true_iff.mp c
  obtain ⟨h3, c⟩ := Bool.and_eq_true_iff.mp c
  obtain ⟨h4, c⟩ := Bool.and_eq_true_iff.mp c
  obtain ⟨h5, c⟩ := Bool.and_eq_true_iff.mp c
  obtain ⟨h6, c⟩ := Bool.and_eq_true_iff.mp c
  obtain ⟨h7, c⟩ := Bool.and_eq_true_iff.mp c
  obtain ⟨h8, c⟩ := Bool.and_eq_true_iff.mp c
  exact ⟨PySem.W.mg_of X G (He.eqO_ok h1), ⟨oexB_ok h2, He.eqO_ok h3, of_decide_eq_true h4, of_decide_eq_true h5, h6⟩, He.eqO_ok h7, of_decide_eq_true h8, xfB_ok c⟩
/-- the class x is asked for its __init__, which is ValueError's -/
structure BaseF (K : PySem.W.Frag) (mg : Str → Option Value) (x : Str) : Prop where
  g : mg x = some (.ref (He.ga K x))
  rd : PySem.W.readsIn K (He.ga K x) (.type "type") = true
  ga : PySem.W.specialIn K (.ref (He.ga K x)) "__getattribute__" = some (some (.builtin "type.__getattribute__"))
  at_ : PySem.W.findCls K (.ref (He.ga K x)) (.type "type") "__init__" = some (.val (.builtin "ValueError.__init__"))
def baseB (x : Str) (K : PySem.W.Frag) : Bool := He.eqO (PySem.W.nsIn K mainGlobals x) (some (some (.ref (He.ga K x)))) && (PySem.W.readsIn K (He.ga K x) (.type "type") && (He.eqO (PySem.W.specialIn K (.ref (He.ga K x)) "__getattribute__") (some (some (.builtin "type.__getattribute__"))) &&
  (match PySem.W.findCls K (.ref (He.ga K x)) (.type "type") "__init__" with
    | some (.val (.builtin n)) => n == "ValueError.__init__"
    | _ => false)))
theorem baseB_ok {K : PySem.W.Frag} {h : Heap} {mg : Str → Option Value} {x : Str} (X : K.In h) (G : h.Ns mainGlobals mg) (c : baseB x K = true) : BaseF K mg x := by
  unfold baseB at c
  obtain ⟨h1, c⟩ := Bool.and_eq_true_iff.mp c
  obtain ⟨h2, c⟩ := Bool.and_eq_true_iff.mp c
  obtain ⟨h3, c⟩ := Bool.and_eq_true_iff.mp c
  refine ⟨PySem.W.mg_of X G (He.eqO_ok h1), h2, He.eqO_ok h3, ?_⟩
  split at c
  · rename_i n e
    rw [e, beq_iff_eq.mp c]
  · cases c
/-! ### Base.__init__(self, ..) -/
section
variable {X : Cx} {e : Expr} {es : List Expr} {ta : TA} {p1 p2 pos : Pos} {x : Str}
theorem pe_baseInit {pl : Sem Bool} (B : BaseF X.K X.mg x) (hg : Gl X x) (ha : PA X (e :: es) ta) (hdb : (x == ("__debug__" : Str)) = false := by decide)
    (hc : eval (.Call (.Attribute (.Name x p1) "__init__" p2) (e :: es) [] pos) X.env = (do
      let ov ← eval (.Name x p1) X.env
      PySem.standAt p2.atName
      let (f, first) ← holding [ov] (getMethod ov "__init__" pl)
      callWith pos f first (backTo pos (starEach (e :: es) X.env)) (backToKw pos (keywordEach [] X.env))) := by rfl)
    (he : starEach (e :: es) X.env = (false, eval e X.env) :: starEach es X.env := by rfl) (hpl : (backTo pos (starEach es X.env)).any (·.1) = false := by rfl) :
    PE X (.Call (.Attribute (.Name x p1) "__init__" p2) (e :: es) [] pos) (tVeI X.K ta) := by
  refine ⟨fun pins s σ H Q I h => ?_⟩
  refine PySem.W.methodCall_KW (ld_glob I hg B.g ?_ hdb) hc
  refine PySem.W.method_cls I.kIn B.ga (PySem.W.cls_value I.kIn B.rd B.at_ (by decide +kernel) ?_)
  show wpAny _ _ (callWith pos (Value.builtin "ValueError.__init__") [] (backTo pos (starEach (e :: es) X.env)) []) _ _ _
  refine PyProof.Rows.callWith_method1 (thn (ha.run pos pins _ σ H _ (I.tok _) h) fun us s1 ⟨vs, H1, I1, r1, a, C, ws, ev, hl, T, ea, q⟩ => ?_) he hpl
  subst ev
  cases r1 with
  | @cons _ u0 _ ur ra rw' =>
    obtain rfl : u0 = Value.ref a := ra
    have hlen : ur.length ≤ sizeLine := by
      rw [← Paired.length rw', sizeLine_eq]
      omega
    exact oinit_ok T I1 ea hlen fun s' J => ⟨.non, H1, J, rfl, q⟩
end
/-! ### the promises of __init__ -/
/-- an __init__ that stores nothing -/
def spI0 (K : PySem.W.Frag) (C : Addr) : Sp := fun vs H Q _ => ∃ a, vs = [.ref a] ∧ OexC K C ∧ H a = some (exo a C none) ∧ Q .non H
/-- an __init__ that stores its argument in the field f -/
def spI1 (K : PySem.W.Frag) (C : Addr) (f : Str) : Sp := fun vs H Q _ => ∃ a v, vs = [.ref a, v] ∧ OexC K C ∧ PySem.W.findIn K (.ref C) f = some none ∧ H a = some (exo a C none) ∧ ∀ dx, H dx = none → dx ≠ a → Q .non (upd (upd H dx (exd dx [(f, v)])) a (exo a C (some dx)))
section
variable {P : Program} {w : World} {K : PySem.W.Frag} {mg : Str → Option Value} {base : Heap} {x qual : Str} {params : Arguments} {scope : Scope} {f : Addr} {fd : FuncData} {k : Nat} {C : Addr}
theorem fn_init0 {msg : Str} {j : Nat} {p1 p2 p3 p4 p5 p6 : Pos} (F : FunD K x qual params [.Expr (.Call (.Attribute (.Name "WindowError" p1) "__init__" p2) [.Name "self" p3, .Constant (.str msg) j p4] [] p5) p6] scope [] [] f fd) (S : FnScope ["self"] ["self"] scope) (B : BaseF K mg "WindowError")
    (hg : ∀ cdv A outer s H E, Gl (cxOf CX0 P w K mg base ["self"] qual scope f cdv A outer s H E).nox "WindowError")
    (hv : ∀ cdv A outer s H E, Vis (cxOf CX0 P w K mg base ["self"] qual scope f cdv A outer s H E).nox.env.scope "self")
    (hc : ∀ cdv A outer s H E, ∃ pl : Sem Bool, eval (.Call (.Attribute (.Name "WindowError" p1) "__init__" p2) [.Name "self" p3, .Constant (.str msg) j p4] [] p5) (cxOf CX0 P w K mg base ["self"] qual scope f cdv A outer s H E).nox.env = (do
      let ov ← eval (.Name "WindowError" p1) (cxOf CX0 P w K mg base ["self"] qual scope f cdv A outer s H E).nox.env
      PySem.standAt p2.atName
      let (g, first) ← holding [ov] (getMethod ov "__init__" pl)
      callWith p5 g first (backTo p5 (starEach [.Name "self" p3, .Constant (.str msg) j p4] (cxOf CX0 P w K mg base ["self"] qual scope f cdv A outer s H E).nox.env)) (backToKw p5 (keywordEach [] (cxOf CX0 P w K mg base ["self"] qual scope f cdv A outer s H E).nox.env))))
    (hs : ∀ cdv A outer s H E, swapsWith (.Call (.Attribute (.Name "WindowError" p1) "__init__" p2) [.Name "self" p3, .Constant (.str msg) j p4] [] p5) none p6.line (cxOf CX0 P w K mg base ["self"] qual scope f cdv A outer s H E).nox.env = pure false) :
    FnOk P w K mg base CX0 (k + 1) f fd ["self"] (spI0 K C) := by
  refine F.ok S (fun vs H Q E ⟨a, e, _⟩ => by rw [e]; rfl) fun cdv A outer s H vs Q E hr ⟨a, e, T, ha, q⟩ => ?_
  obtain ⟨pl, hcc⟩ := hc cdv A outer s H E
  refine ⟨_, PSs.nox (pss_cons (ps_expr (pe_baseInit (pl := pl) B (hg cdv A outer s H E) (pa_cons (pe_var (i := 0) rfl (hv cdv A outer s H E) (by decide) (by decide)) (pa_cons pe_str pa_nil rfl) rfl) (by decide) hcc) (hs cdv A outer s H E)) pss_nil), ?_⟩
  subst e
  refine ⟨_, rfl, ?_⟩
  exact ⟨a, C, [V.str msg], rfl, (by show 1 ≤ 1000; decide), T, ha, q⟩
theorem fn_init1 {msg fld : Str} {j : Nat} {p1 p2 p3 p4 p5 p6 p7 p8 p9 p10 : Pos} (hf1 : (fld == ("__debug__" : Str)) = false) (hf2 : (fld == ("__classdict__" : Str)) = false) (F : FunD K x qual params [.Expr (.Call (.Attribute (.Name "WindowError" p1) "__init__" p2) [.Name "self" p3, .Constant (.str msg) j p4] [] p5) p6, .Assign [.Attribute (.Name "self" p7) fld p8] (.Name fld p9) p10] scope [] [] f fd) (S : FnScope ["self", fld] ["self", fld] scope) (B : BaseF K mg "WindowError") (hno : PySem.W.findIn K (.ref C) fld = some none)
    (hg : ∀ cdv A outer s H E, Gl (cxOf CX0 P w K mg base ["self", fld] qual scope f cdv A outer s H E).nox "WindowError")
    (hv : ∀ cdv A outer s H E, Vis (cxOf CX0 P w K mg base ["self", fld] qual scope f cdv A outer s H E).nox.env.scope "self")
    (hv2 : ∀ cdv A outer s H E, Vis (cxOf CX0 P w K mg base ["self", fld] qual scope f cdv A outer s H E).nox.env.scope fld)
    (hc : ∀ cdv A outer s H E, ∃ pl : Sem Bool, eval (.Call (.Attribute (.Name "WindowError" p1) "__init__" p2) [.Name "self" p3, .Constant (.str msg) j p4] [] p5) (cxOf CX0 P w K mg base ["self", fld] qual scope f cdv A outer s H E).nox.env = (do
      let ov ← eval (.Name "WindowError" p1) (cxOf CX0 P w K mg base ["self", fld] qual scope f cdv A outer s H E).nox.env
      PySem.standAt p2.atName
      let (g, first) ← holding [ov] (getMethod ov "__init__" pl)
      callWith p5 g first (backTo p5 (starEach [.Name "self" p3, .Constant (.str msg) j p4] (cxOf CX0 P w K mg base ["self", fld] qual scope f cdv A outer s H E).nox.env)) (backToKw p5 (keywordEach [] (cxOf CX0 P w K mg base ["self", fld] qual scope f cdv A outer s H E).nox.env))))
    (hs : ∀ cdv A outer s H E, swapsWith (.Call (.Attribute (.Name "WindowError" p1) "__init__" p2) [.Name "self" p3, .Constant (.str msg) j p4] [] p5) none p6.line (cxOf CX0 P w K mg base ["self", fld] qual scope f cdv A outer s H E).nox.env = pure false)
    (hs2 : ∀ cdv A outer s H E, swapsWith (.Name fld p9) (some (.Attribute (.Name "self" p7) fld p8)) p10.line (cxOf CX0 P w K mg base ["self", fld] qual scope f cdv A outer s H E).nox.env = pure false) :
    FnOk P w K mg base CX0 (k + 1) f fd ["self", fld] (spI1 K C fld) := by
  refine F.ok S (fun vs H Q E ⟨a, v, e, _⟩ => by rw [e]; rfl) fun cdv A outer s H vs Q E hr ⟨a, v, e, T, hno2, ha, q⟩ => ?_
  obtain ⟨pl, hcc⟩ := hc cdv A outer s H E
  refine ⟨_, PSs.nox (pss_cons (ps_expr (pe_baseInit (pl := pl) B (hg cdv A outer s H E) (pa_cons (pe_var (i := 0) rfl (hv cdv A outer s H E) (by decide) (by decide)) (pa_cons pe_str pa_nil rfl) rfl) (by decide) hcc) (hs cdv A outer s H E)) (pss_cons (ps_ost (pe_var (i := 0) rfl (hv cdv A outer s H E) (by decide) (by decide)) (pe_var (i := 1) rfl (hv2 cdv A outer s H E) hf1 hf2) (hs2 cdv A outer s H E)) pss_nil)), ?_⟩
  subst e
  refine ⟨_, rfl, ?_⟩
  refine ⟨a, C, [V.str msg], rfl, (by show 1 ≤ 1000; decide), T, ha, ?_⟩
  exact ⟨_, rfl, _, rfl, a, C, rfl, T, hno, .inl ⟨ha, fun dx n ne => q dx n ne⟩⟩
end
end HW
set_option maxHeartbeats 4000000
namespace HW
open PySem PySem.Spec PyProof.Rows L2
open SX (S)
/-! ### raise -/
/-- a class whose __init__ keeps one field, ready to be raised -/
structure Ex1 (P : Program) (w : World) (K : PySem.W.Frag) (mg : Str → Option Value) (base : Heap) (k : Nat) (x fld : Str) : Prop where
  f : ExF K mg x
  no : PySem.W.findIn K (.ref (He.ga K x)) fld = some none
  ini : ∃ fd, FnOk P w K mg base CX0 k (He.ma K (He.ga K x) "__init__") fd ["self", fld] (spI1 K (He.ga K x) fld) ∧ Binds K fd ["self", fld] []
/-- .. that keeps none -/
structure Ex0 (P : Program) (w : World) (K : PySem.W.Frag) (mg : Str → Option Value) (base : Heap) (k : Nat) (x : Str) : Prop where
  f : ExF K mg x
  ini : ∃ fd, FnOk P w K mg base CX0 k (He.ma K (He.ga K x) "__init__") fd ["self"] (spI0 K (He.ga K x)) ∧ Binds K fd ["self"] []
/-- what an exception is known by: its class, its field -/
def XO (K : PySem.W.Frag) (L : List Addr) (H0 H' : Hp) (x : Str) (fo : Option (Str × PyData)) (cls : Value) (d : Option Addr) : Prop := cls = .ref (He.ga K x) ∧ Same H0 H' ∧ match fo with
  | none => True
  | some (f, y) => ∃ dd v, d = some dd ∧ H0 dd = none ∧ H' dd = some (.xd [(f, v)]) ∧ Va K (off L H') v y
/-- a def that raises -/
def spX (K : PySem.W.Frag) (R : List PyData → Str → Option (Str × PyData) → Prop) : Sp := fun vs H Q E => ∃ (L : List Addr) (ds : List PyData) (x : Str) (fo : Option (Str × PyData)), (∀ a ∈ L, H a ≠ none) ∧ VaAll K (off L H) vs ds ∧ R ds x fo ∧ ∀ cls d H', XO K L H H' x fo cls d → E cls d H'
structure FdX (P : Program) (w : World) (K : PySem.W.Frag) (mg : Str → Option Value) (base : Heap) (k : Nat) (x : Str) (ps : List Str) (R : List PyData → Str → Option (Str × PyData) → Prop) : Prop where
  ex : ∃ (f : Addr) (fd : FuncData), FnOk P w K mg base (L2.CX P w) k f fd ps (spX K R) ∧ mg x = some (.ref f) ∧ PySem.W.keepIn K (.ref f) = true ∧ Binds K fd ps []
theorem Ex1.mono {P : Program} {w : World} {K : PySem.W.Frag} {mg : Str → Option Value} {base : Heap} {j k : Nat} {x fld : Str} (F : Ex1 P w K mg base j x fld) (h : j ≤ k) : Ex1 P w K mg base k x fld := by
  obtain ⟨fd, h1, h2⟩ := F.ini
  exact ⟨F.f, F.no, fd, h1.mono h, h2⟩
theorem Ex0.mono {P : Program} {w : World} {K : PySem.W.Frag} {mg : Str → Option Value} {base : Heap} {j k : Nat} {x : Str} (F : Ex0 P w K mg base j x) (h : j ≤ k) : Ex0 P w K mg base k x := by
  obtain ⟨fd, h1, h2⟩ := F.ini
  exact ⟨F.f, fd, h1.mono h, h2⟩
theorem FdX.mono {P : Program} {w : World} {K : PySem.W.Frag} {mg : Str → Option Value} {base : Heap} {j k : Nat} {x : Str} {ps : List Str} {R : List PyData → Str → Option (Str × PyData) → Prop} (F : FdX P w K mg base j x ps R) (h : j ≤ k) : FdX P w K mg base k x ps R := by
  obtain ⟨f, fd, h1, h2⟩ := F.ex
  exact ⟨f, fd, h1.mono h, h2⟩
theorem same_trans {a b c : Hp} (h1 : Same a b) (h2 : Same b c) : Same a c := fun x o e => h2 x o (h1 x o e)
theorem same_offL {L : List Addr} {H H' : Hp} (s : Same H H') : Same (off L H) (off L H') := fun a o e => by
  obtain ⟨h1, h2⟩ := off_some e
  unfold off at e ⊢
  rw [if_neg h1]
  exact s a o h2
section
variable {X : Cx} {W : Wd} {Γ : List DV} {μ : Mu} {a : Expr} {rest : List Stmt} {D : Ends} {y : PyData} {x fld : Str} {k : Nat} {p pos pos2 : Pos} {W0 : WX}
/-- raise X(a) -/
theorem run_raise1 (F : Ex1 X.prog X.w X.K X.mg X.base k x fld) (hr : Room (k + 1) X.A) (tk : Takes X W0) (ha : Ed X W Γ μ a y) (h : ∀ σ H, Rep X.K W Γ μ σ H → ∀ cls d H', XO X.K W.M H H' x (some (fld, y)) cls d → W0 cls d σ H') (hg : Gl X x := by rfl) (hc : X.calm = true := by rfl)
    (hdb : (x == ("__debug__" : Str)) = false := by decide) (hs1 : starEach [a] X.env = (false, eval a X.env) :: starEach [] X.env := by rfl) (hpl : (backTo pos (starEach [] X.env)).any (·.1) = false := by rfl) : Run X W Γ μ (.Raise (some (.Call (.Name x p) [a] [] pos)) none pos2 :: rest) D := fun σ H R => by
  obtain ⟨fd, F1, hb⟩ := F.ini
  refine wSs_cons ((ps_raise hc tk (pmk_oex F.f.oex F.f.ini F.f.ty F1 hr hb .nil pass0 hg F.f.g (pa_cons wE.pe pa_nil hs1) hdb hs1 hpl)).w ?_)
  refine ha σ H R _ fun v H2 R2 e2 r2 => ⟨by show 1 ≤ 1000; decide, fun a0 hna => ⟨a0, v, rfl, F.f.oex, F.no, upd_same, fun dx hdx hne => ⟨rfl, dx, [(fld, v)], upd_same, ?_, ?_, ?_⟩⟩⟩
  · rw [upd_ne hne, upd_same]
  · rw [upd_ne hne] at hdx
    exact hdx
  · have hd1 : H2 dx = none := by
      rw [upd_ne hne] at hdx
      exact hdx
    have sm : Same H2 (upd (del (upd (upd (upd H2 a0 (exo a0 (He.ga X.K x) none)) dx (exd dx [(fld, v)])) a0 (exo a0 (He.ga X.K x) (some dx))) a0) dx (.xd [(fld, v)])) := fun b o e => by
      have h1 : b ≠ a0 := fun z => by rw [z, hna] at e; cases e
      have h2 : b ≠ dx := fun z => by rw [z, hd1] at e; cases e
      rw [upd_ne h2, del_ne h1, upd_ne h1, upd_ne h2, upd_ne h1]
      exact e
    refine h σ H2 R2 _ _ _ ⟨rfl, sm, dx, v, rfl, hd1, upd_same, ?_⟩
    exact (r2.up (same_offs fun a ha => List.mem_append_left _ ha)).up (same_offL sm)
end
section
variable {P : Program} {w : World} {K : PySem.W.Frag} {mg : Str → Option Value} {base : Heap} {x qual : Str} {params : Arguments} {body : List Stmt} {scope : Scope} {f : Addr} {fd : FuncData} {N ps : List Str} {k : Nat}
/-- a def that raises, where R tells what -/
theorem fd_exc (F : FunD K x qual params body scope [] [] f fd) (Sc : FnScope N ps scope) (R : List PyData → Str → Option (Str × PyData) → Prop) (hlen : ∀ ds x fo, R ds x fo → ds.length = ps.length)
    (h : ∀ (cdv : Value) (A : Around) (outer : List Env) (s : Shared) (H : Hp) (E : XK), Room k (A.deeper (envOfC qual scope s.heap.objs.size f cdv)) → ∀ (W : Wd) (ds : List PyData) (x : Str) (fo : Option (Str × PyData)), W.row = none → R ds x fo →
      (∀ σ H1 (Γ : List DV) (μ : Mu), Rep K W Γ μ σ H1 → ∀ cls d H', XO K W.M H1 H' x fo cls d → E cls d H') →
      Run (cxOf (L2.CX P w) P w K mg base N qual scope f cdv A outer s H E) W (ds.map .d ++ List.replicate (N.length - ps.length) .no) [] body { nx := fun _ _ => False, rt := fun _ _ => False, bk := fun _ _ => False, ct := fun _ _ => False }) :
    FnOk P w K mg base (L2.CX P w) (k + 1) f fd ps (spX K R) := by
  refine F.ok Sc (fun vs H Q E ⟨L, ds, x, fo, _, hv, r, _⟩ => by rw [hv.length]; exact hlen ds x fo r) fun cdv A outer s H vs Q E hr ⟨L, ds, x, fo, hL, hv, r, q⟩ => ?_
  refine ⟨_, wSs.ps, ?_⟩
  let W : Wd := ⟨H, L, none⟩
  have ok : WdOk K W := ⟨hL, fun _ _ _ e => nomatch e⟩
  have nr : ∀ a, ¬ W.isRow a := fun a ⟨_, _, e⟩ => nomatch e
  have sl : Slots K (off (hd W []) H) (start N vs) (ds.map .d ++ List.replicate (N.length - ps.length) .no) := by
    show Slots K (off (L ++ []) H) (vs.map some ++ List.replicate (N.length - vs.length) none) _
    rw [List.append_nil, hv.length, hlen ds x fo r]
    exact slots_start _ hv
  intro pins st I
  have z := h cdv A outer s H E hr W ds x fo rfl r (fun σ H1 Γ μ R1 cls d H' hx => ?_) (start N vs) H ⟨ok, ⟨fun _ _ _ e => e, fun _ _ _ e => nomatch e⟩, sl, fun _ z => (nomatch z), List.nodup_nil⟩ pins st I
  · refine wpAny_mono z (fun fl s' hq => ?_) fun _ _ z => z
    cases fl with
    | next =>
      obtain ⟨_, _, _, q'⟩ := hq
      exact q'.elim
    | brk =>
      obtain ⟨_, _, _, q'⟩ := hq
      exact q'.elim
    | cont =>
      obtain ⟨_, _, _, q'⟩ := hq
      exact q'.elim
    | ret u =>
      obtain ⟨_, _, _, _, _, q'⟩ := hq
      exact q'.elim
  · have sm : Same H H1 := fun a o e => R1.fr.keep a o (nr a) e
    obtain ⟨h1, h2, h3⟩ := hx
    refine q cls d H' ⟨h1, same_trans sm h2, ?_⟩
    cases fo with
    | none => trivial
    | some fy =>
      obtain ⟨f, y⟩ := fy
      obtain ⟨dd, v, e1, e2, e3, e4⟩ := h3
      refine ⟨dd, v, e1, ?_, e3, e4⟩
      cases e : H dd with
      | none => rfl
      | some o =>
        rw [sm dd o e] at e2
        cases e2
end
end HW
set_option maxHeartbeats 4000000
namespace HW
open PySem PySem.Spec PyProof.Rows L2
open SX (S)
/-! ### calls that raise, try -/
theorem XO.down {K : PySem.W.Frag} {L L' : List Addr} {H0 H' : Hp} {x : Str} {fo : Option (Str × PyData)} {cls : Value} {d : Option Addr} (h : XO K L H0 H' x fo cls d) (hl : ∀ a ∈ L', a ∈ L) : XO K L' H0 H' x fo cls d := by
  obtain ⟨h1, h2, h3⟩ := h
  refine ⟨h1, h2, ?_⟩
  cases fo with
  | none => trivial
  | some fy =>
    obtain ⟨f, y⟩ := fy
    obtain ⟨dd, v, e1, e2, e3, e4⟩ := h3
    exact ⟨dd, v, e1, e2, e3, e4.up (same_offs hl)⟩
theorem XO.from' {K : PySem.W.Frag} {L : List Addr} {H0 H1 H' : Hp} {x : Str} {fo : Option (Str × PyData)} {cls : Value} {d : Option Addr} (h : XO K L H1 H' x fo cls d) (s : Same H0 H1) : XO K L H0 H' x fo cls d := by
  obtain ⟨h1, h2, h3⟩ := h
  refine ⟨h1, same_trans s h2, ?_⟩
  cases fo with
  | none => trivial
  | some fy =>
    obtain ⟨f, y⟩ := fy
    obtain ⟨dd, v, e1, e2, e3, e4⟩ := h3
    refine ⟨dd, v, e1, ?_, e3, e4⟩
    cases e : H0 dd with
    | none => rfl
    | some o =>
      rw [s dd o e] at e2
      cases e2
theorem slots_no {K : PySem.W.Frag} {H : Hp} {σ : L2.St} {Γ : List DV} (h : Slots K H σ Γ) (i : Nat) : Slots K H (σ.set i none) (Γ.set i .no) := ⟨by rw [List.length_set, List.length_set, h.len], fun j dv q => by
  by_cases e : i = j
  · subst e
    have hl : i < Γ.length := by
      have := (List.getElem?_eq_some_iff.mp q).1
      simpa using this
    rw [List.getElem?_set_self hl] at q
    cases q
    exact ⟨none, by rw [List.getElem?_set_self (by rw [h.len]; exact hl)], trivial⟩
  · rw [List.getElem?_set_ne e] at q ⊢
    exact h.at_ j dv q⟩
/-- evaluating e raises -/
def EdX (X : Cx) (W : Wd) (Γ : List DV) (μ : Mu) (e : Expr) : Prop := ∀ σ H, Rep X.K W Γ μ σ H → ∀ Q : VK, wE X e σ H Q
abbrev DF : Ends := { nx := fun _ _ => False, rt := fun _ _ => False, bk := fun _ _ => False, ct := fun _ _ => False }
section
variable {X : Cx} {W : Wd} {Γ : List DV} {μ : Mu} {e : Expr} {es : List Expr} {rest : List Stmt} {D : Ends} {ds : List PyData} {x f : Str} {fo : Option (Str × PyData)} {ps : List Str} {k : Nat} {p pos : Pos} {W0 : WX} {R : List PyData → Str → Option (Str × PyData) → Prop}
/-- a call that raises -/
theorem ed_callX (F : FdX X.prog X.w X.K X.mg X.base k f ps R) (hr : Room k X.A) (tk : Takes X W0) (ha : EdA X W Γ μ (e :: es) ds) (hR : R ds x fo) (h : ∀ σ H, Rep X.K W Γ μ σ H → ∀ cls d H', XO X.K (hd W μ) H H' x fo cls d → W0 cls d σ H') (hg : Gl X f := by rfl)
    (hdb : (f == ("__debug__" : Str)) = false := by decide) (he : starEach (e :: es) X.env = (false, eval e X.env) :: starEach es X.env := by rfl) (hpl : (backTo pos (starEach es X.env)).any (·.1) = false := by rfl) : EdX X W Γ μ (.Call (.Name f p) (e :: es) [] pos) := fun σ H Rp Q => by
  obtain ⟨fa, fd, h1, h2, h3, h4⟩ := F.ex
  refine (pe_callS (E := WE W0) h1 hr hg h2 h3 h4 (fun σ => passAt tk σ) wA.pa hdb he hpl).w (ha σ H Rp _ fun vs H2 R2 e2 r2 => ?_)
  exact ⟨HW.hd W μ, ds, x, fo, R2.ne, r2, hR, fun cls d H' hx => h σ H2 R2 cls d H' hx⟩
theorem run_exprX (he : EdX X W Γ μ e) (hs : swapsWith e none pos.line X.env = pure false := by rfl) : Run X W Γ μ (.Expr e pos :: rest) D := fun σ H R =>
  wSs_cons ((ps_expr wE.pe hs).w (he σ H R _))
end
/-! ### try: .. except x as n: m = e -/
section
variable {X : Cx} {W : Wd} {Γ : List DV} {μ : Mu} {rest body : List Stmt} {D : Ends} {x xr n nm : Str} {fo : Option (Str × PyData)} {np pos pos' q1 q2 : Pos} {e0 : Expr} {y0 : PyData} {W0 : WX}
/-- what is known of the exception in its suite -/
structure Caught (X : Cx) (W W1 : Wd) (Γ : List DV) (μ : Mu) (xr : Str) (fo : Option (Str × PyData)) (a : Addr) (oe : Obj) (cls : Value) (d : Option Addr) : Prop where
  le : Wle W W1
  z : Zc cls d oe
  fields : ∃ vs, oe.data = .fields vs
  cls : cls = .ref (He.ga X.K xr)
  fld : match fo with
    | none => True
    | some (f, y) => ∃ dd v, d = some dd ∧ (∀ σ H (Γ' : List DV) (μ' : Mu), Rep X.K W1 Γ' μ' σ H → H dd = some (.xd [(f, v)]) ∧ Va X.K (off (hd W1 μ') H) v y)
/-- try: body (which raises xr) except x as n: nm = e0 -/
theorem run_tryAs (i j : Nat) (hij : i ≠ j) (F : ExF X.K X.mg x) (tk : Takes X W0) (hm : PySem.W.exmOne X.K (.ref (He.ga X.K xr)) (.ref (He.ga X.K x)) = some true)
    (hbody : ∀ (pn : List (Addr × Obj)) (xe : Value → Shared → Prop) (Wx : WX), Takes (X.tr pn xe) Wx → PassesOwn (model X.prog X.w) X.A X.env xe → (∀ σ H, Rep X.K W Γ μ σ H → ∀ cls d H', XO X.K (hd W μ) H H' xr fo cls d → Wx cls d σ H') → Run (X.tr pn xe) W Γ μ body DF)
    (he0 : ∀ (W1 : Wd) (a : Addr) (oe : Obj) (pn : List (Addr × Obj)) (cls : Value) (d : Option Addr), Caught X W W1 Γ μ xr fo a oe cls d → Ed (X.suite a ((a, oe) :: pn)) W1 (Γ.set i (.r a)) μ e0 y0)
    (h : Run X W ((Γ.set i .no).set j (.d y0)) μ rest D) (nd : X.N.Nodup) (hi : X.N[i]? = some n := by rfl) (hj : X.N[j]? = some nm := by rfl) (hln : X.env.kindOf n = some .local := by rfl) (hx : Loc X.env.scope nm := by first | exact Or.inl rfl | exact Or.inr rfl) (hg : Gl X x := by rfl) (hdb : (x == ("__debug__" : Str)) = false := by decide)
    (hsw : swapsWith e0 (some (.Name nm q1)) q2.line X.env = pure false := by rfl) (hfn : X.fn nm = true ∨ X.env.scope.names.lookup nm = some .local := by first | exact .inr rfl | exact .inl rfl)
    (hs : X.stack = X.env :: X.outer := by rfl) (hf : X.env.frame = some X.env.locals := by rfl) :
    Run X W Γ μ (.Try body [.ExceptHandler (some (.Name x np)) (some n) [.Assign [.Name nm q1] e0 q2] pos'] [] [] pos :: rest) D := fun σ H R => by
  refine wSs_cons ((ps_try_as (tb := fun Wx D σ H => ∀ (pn : List (Addr × Obj)) (xe : Value → Shared → Prop), Takes (X.tr pn xe) Wx → PassesOwn (model X.prog X.w) X.A X.env xe → wSs (X.tr pn xe) body D σ H)
    (ts := fun a cls d D σ H => ∀ (oe : Obj) (pn : List (Addr × Obj)), Zc cls d oe → (∃ vs, oe.data = .fields vs) → wSs (X.suite a ((a, oe) :: pn)) [.Assign [.Name nm q1] e0 q2] D σ H) (Wout := W0)
    hs hf nd hi hln ⟨hg, hdb, .inl F.g⟩ tk (fun Wx pn xe t hp => ⟨fun pins s σ H D I h => h pn xe t hp pins s I⟩) (fun a oe cls d pn hz hv => ⟨fun pins s σ H D I h => h oe pn hz hv pins s I⟩)).w ?_)
  intro pn xe t hp
  refine Run.mono (hbody pn xe _ t hp fun σ2 H2 R2 cls d H' xo => ⟨true, by rw [xo.1]; exact hm, fun _ a na oe pn2 hz hv => ?_, fun z => nomatch z⟩) (fun _ _ z => z.elim) (fun _ _ z => z.elim) (fun _ _ z => z.elim) (fun _ _ z => z.elim) σ H R
  have R3 : Rep X.K W Γ μ σ2 H' := R2.same xo.2.1
  have R4 := R3.now
  have le := R3.now_le
  have R5 : Rep X.K (W.now μ H') (Γ.set i (.r a)) μ (σ2.set i (some (.ref a))) H' := ⟨R4.wd, R4.fr, R4.sl.setr i, R4.mu, R4.nd⟩
  have cg : Caught X W (W.now μ H') Γ μ xr fo a oe cls d := by
    refine ⟨le, hz, hv, xo.1, ?_⟩
    obtain ⟨_, _, h3⟩ := xo
    cases fo with
    | none => trivial
    | some fy =>
      obtain ⟨f, y⟩ := fy
      obtain ⟨dd, v, e1, e2, e3, e4⟩ := h3
      refine ⟨dd, v, e1, fun σ3 H3 Γ3 μ3 R6 => ?_⟩
      have pool : Same (off (hd W μ) H') (off (hd (W.now μ H') μ3) H3) := fun b o e => by
        obtain ⟨h1, h2⟩ := off_some e
        have z : (W.now μ H').H0 b = some o := by
          show off (μ.map (·.1)) H' b = some o
          rw [off_out (fun z => h1 (List.mem_append_right _ z))]
          exact h2
        rw [off_out (fun q => by
          rcases List.mem_append.mp q with q | q
          · exact h1 (List.mem_append_left _ q)
          · obtain ⟨p, hp, rfl⟩ := List.mem_map.mp q
            rw [(R6.mu p hp).1] at z
            cases z)]
        exact R6.fr.keep b o (fun q => h1 (List.mem_append_left _ (Rep.isRow_M R3.wd q))) z
      have hdd : dd ∉ hd W μ := fun q => R2.ne dd q e2
      refine ⟨(off_some (pool dd _ (by rw [off_out hdd]; exact e3))).2, e4.up pool⟩
  refine run_set (X := X.suite a ((a, oe) :: pn2)) j (he0 _ a oe pn2 cls d cg) (run_nil fun σ3 H3 R6 => ?_) nd hj hx hsw hfn _ _ R5
  have R7 : Rep X.K W ((Γ.set i (.r a)).set j (.d y0)) μ σ3 H3 := R6.wdown le R3.wd
  have R8 : Rep X.K W ((Γ.set i .no).set j (.d y0)) μ (σ3.set i none) H3 := by
    have z := slots_no R7.sl i
    have e : ((Γ.set i (.r a)).set j (.d y0)).set i .no = (Γ.set i .no).set j (.d y0) := by
      rw [List.set_comm _ _ (Ne.symm hij), List.set_set]
    rw [e] at z
    exact ⟨R7.wd, R7.fr, z, R7.mu, R7.nd⟩
  exact h _ _ R8
/-- n.f, the field of the caught exception -/
theorem ed_xf {W1 : Wd} {Γ' : List DV} {a : Addr} {oe : Obj} {pn : List (Addr × Obj)} {cls : Value} {d : Option Addr} {f : Str} {y : PyData} (i : Nat) (F : ExF X.K X.mg xr) (hno : PySem.W.findIn X.K (.ref (He.ga X.K xr)) f = some none) (c : Caught X W W1 Γ μ xr (some (f, y)) a oe cls d)
    (hi : Γ'[i]? = some (.r a) := by rfl) (hN : X.N[i]? = some n := by rfl) (hv : Vis X.env.scope n := by first | exact Or.inl rfl | exact Or.inr (Or.inl rfl) | exact Or.inr (Or.inr rfl)) (h1 : (n == ("__debug__" : Str)) = false := by decide) (h2 : (n == ("__classdict__" : Str)) = false := by decide)
    (hb : attributeBase (.Name n q1) f X.env (eval (.Name n q1) X.env) = eval (.Name n q1) X.env := by rfl) : Ed (X.suite a ((a, oe) :: pn)) W1 Γ' μ (.Attribute (.Name n q1) f pos) y := fun σ H R Q k => by
  refine (pe_xf F.xf hno c.z c.fields (pe_var (X := X.suite a ((a, oe) :: pn)) (i := i) hN hv h1 h2) hb).w ?_
  obtain ⟨o, g1, g2⟩ := R.sl.at_ i _ hi
  have g2' : o = some (.ref a) := g2
  subst g2'
  obtain ⟨dd, v, e1, e2⟩ := c.fld
  obtain ⟨e3, e4⟩ := e2 σ H Γ' μ R
  exact ⟨_, g1, rfl, c.cls, dd, _, v, e1, e3, by simp, k v H R XT.refl e4⟩
end
end HW
set_option maxHeartbeats 4000000
namespace HW
open PySem PySem.Spec PyProof.Rows L2
open SX (S)
/-! ### what is refused -/
def R_mend_x (ds : List PyData) (x : Str) (fo : Option (Str × PyData)) : Prop := ∃ (l m : List Nat) (n : Nat), ds = [sD l, sD m, nn n] ∧ 1 ≤ n ∧ n ≤ 4 ∧ rowB l = true ∧ lowL n l ∧ maskB m = true ∧ 8 < l.length ∧ x = "TooLong" ∧ fo = some (("most" : Str), nn 8)
def R_refused19 (ds : List PyData) (d : PyData) : Prop := ∃ (l m : List Nat) (n : Nat), ds = [sD l, sD m, nn n] ∧ 1 ≤ n ∧ n ≤ 4 ∧ rowB l = true ∧ lowL n l ∧ maskB m = true ∧ 8 < l.length ∧ d = .list [nn 8]
theorem words_wid (n i : Nat) : words n (i + 1) = widL n (words n i) 63 := by
  unfold widL optsL
  rw [if_pos rfl]
  rfl
theorem shp_mendO {ps : List (Nat × List Nat)} (h : ∀ q ∈ ps, ∀ c ∈ q.2, c < 128) : Shp 1 (mendO ps) := by
  cases ps with
  | nil => exact Shp.non.up (by decide)
  | cons a t =>
    have hm := (minP_spec t a).1
    refine Shp.tup fun y hy => ?_
    rcases List.mem_cons.mp hy with e | hy
    · rw [e]; exact Shp.int
    · rw [List.mem_singleton.mp hy]; exact Shp.str (h _ hm)
end HW
set_option maxHeartbeats 4000000
namespace HW
open PySem PySem.Spec PyProof.Rows L2
open SX (S)
/-! ### the least masks -/
/-- a value that is no int, or a truth value -/
def oddI (v : PyData) : Prop := v = .none ∨ (∃ b, v = .bool b) ∨ ∃ s, v = .str s
def R_is_from_o (ds : List PyData) (d : PyData) : Prop := ∃ (v : PyData) (a b : Int), ds = [v, .int a, .int b] ∧ oddI v ∧ d = .bool false
def okQ (l m : List Nat) : Bool := decide (m.length ≤ l.length) && tellsB l m
def stepQ (l : List Nat) (s : Option Nat × List (List Nat)) (m : List Nat) : Option Nat × List (List Nat) :=
  if okQ l m = true then (match s.1 with
    | none => (some (seenL m).length, [m])
    | some b => if (seenL m).length < b then (some (seenL m).length, [m]) else if (seenL m).length = b then (some b, s.2 ++ [m]) else s)
  else s
def foldQ (l : List Nat) (ms : List (List Nat)) : Option Nat × List (List Nat) := ms.foldl (stepQ l) (none, [])
theorem foldQ_snoc (l : List Nat) (ms : List (List Nat)) (m : List Nat) : foldQ l (ms ++ [m]) = stepQ l (foldQ l ms) m := by unfold foldQ; rw [List.foldl_append]; rfl
/-- what the fold tells: the least number of places seen, and the masks that see so many -/
structure SpecQ (P : List (List Nat)) (s : Option Nat × List (List Nat)) : Prop where
  low : ∀ m ∈ P, ∃ b, s.1 = some b ∧ b ≤ (seenL m).length
  has : ∀ b, s.1 = some b → ∃ m ∈ P, (seenL m).length = b
  all : s.2 = P.filter (fun m => decide (s.1 = some (seenL m).length))
theorem stepQ_spec {l a : List Nat} {P : List (List Nat)} {s : Option Nat × List (List Nat)} (h : SpecQ P s) : SpecQ (P ++ [a].filter (okQ l)) (stepQ l s a) := by
  obtain ⟨h1, h2, h3⟩ := h
  by_cases ho : okQ l a = true
  · have ea : [a].filter (okQ l) = [a] := by simp [ho]
    rw [ea]
    cases e : s.1 with
    | none =>
      have hn : P = [] := by
        rw [List.eq_nil_iff_forall_not_mem]
        intro m hm
        obtain ⟨b, hb, _⟩ := h1 m hm
        rw [e] at hb
        cases hb
      have es : stepQ l s a = (some (seenL a).length, [a]) := by
        unfold stepQ
        rw [if_pos ho, e]
      rw [hn, es]
      refine ⟨fun m hm => ?_, fun b hb => ?_, ?_⟩
      · rw [List.nil_append, List.mem_singleton] at hm
        subst hm
        exact ⟨_, rfl, Nat.le_refl _⟩
      · cases hb
        exact ⟨a, by simp, rfl⟩
      · simp
    | some b =>
      have hmin : ∀ m ∈ P, b ≤ (seenL m).length := fun m hm => by
        obtain ⟨b', hb', hle⟩ := h1 m hm
        rw [e] at hb'
        cases hb'
        exact hle
      by_cases hlt : (seenL a).length < b
      · have es : stepQ l s a = (some (seenL a).length, [a]) := by
          unfold stepQ
          rw [if_pos ho, e]
          exact if_pos hlt
        rw [es]
        refine ⟨fun m hm => ⟨_, rfl, ?_⟩, fun b' hb' => ?_, ?_⟩
        · rcases List.mem_append.mp hm with z | z
          · have := hmin m z
            omega
          · rw [List.mem_singleton.mp z]
            exact Nat.le_refl _
        · cases hb'
          exact ⟨a, List.mem_append_right _ (by simp), rfl⟩
        · rw [List.filter_append]
          have e1 : P.filter (fun m => decide (some (seenL a).length = some (seenL m).length)) = [] := by
            rw [List.filter_eq_nil_iff]
            intro m hm
            have := hmin m hm
            simp
            omega
          rw [e1]
          simp
      · obtain ⟨m0, hm0, em0⟩ := h2 b e
        by_cases heq : (seenL a).length = b
        · have es : stepQ l s a = (some b, s.2 ++ [a]) := by
            unfold stepQ
            rw [if_pos ho, e]
            exact (if_neg hlt).trans (if_pos heq)
          rw [es]
          refine ⟨fun m hm => ⟨_, rfl, ?_⟩, fun b' hb' => ?_, ?_⟩
          · rcases List.mem_append.mp hm with z | z
            · exact hmin m z
            · rw [List.mem_singleton.mp z]
              omega
          · cases hb'
            exact ⟨a, List.mem_append_right _ (by simp), heq⟩
          · rw [List.filter_append, h3, e]
            simp [heq]
        · have es : stepQ l s a = s := by
            unfold stepQ
            rw [if_pos ho, e]
            exact (if_neg hlt).trans (if_neg heq)
          rw [es]
          refine ⟨fun m hm => ⟨b, e, ?_⟩, fun b' hb' => ?_, ?_⟩
          · rcases List.mem_append.mp hm with z | z
            · exact hmin m z
            · rw [List.mem_singleton.mp z]
              omega
          · rw [e] at hb'
            cases hb'
            exact ⟨m0, List.mem_append_left _ hm0, em0⟩
          · rw [List.filter_append, ← h3, e]
            have : ¬ b = (seenL a).length := fun z => heq z.symm
            simp [this]
  · have ea : [a].filter (okQ l) = [] := by simp [ho]
    have es : stepQ l s a = s := by
      unfold stepQ
      rw [if_neg ho]
    rw [ea, es, List.append_nil]
    exact ⟨h1, h2, h3⟩
theorem foldQ_spec (l : List Nat) (ms : List (List Nat)) : SpecQ (ms.filter (okQ l)) (foldQ l ms) := by
  refine rev_ind (p := fun ms => SpecQ (ms.filter (okQ l)) (foldQ l ms)) ⟨(fun m h => nomatch h), (fun b (h : (none : Option Nat) = some b) => nomatch h), rfl⟩ (fun ms a h => ?_) ms
  rw [foldQ_snoc, List.filter_append]
  exact stepQ_spec h
theorem stepQ_len (l : List Nat) (s : Option Nat × List (List Nat)) (m : List Nat) : (stepQ l s m).2.length ≤ s.2.length + 1 := by
  unfold stepQ
  split
  · split
    · simp
    · split
      · simp
      · split
        · simp
        · omega
  · omega
theorem foldQ_len (l : List Nat) (ms : List (List Nat)) : (foldQ l ms).2.length ≤ ms.length := by
  rw [(foldQ_spec l ms).all]
  exact Nat.le_trans (List.length_filter_le ..) (List.length_filter_le ..)
/-- masks of the law: up to the row's length -/
theorem allM_ok {l : List Nat} {w : Nat} (hw : w ≤ 12) : (allM w).filter (okQ l) = (allM (min w l.length)).filter (fun m => tellsB l m) := by
  have key : ∀ w, w ≤ 12 → (allM w).filter (okQ l) = (allM (min w l.length)).filter (fun m => tellsB l m) := by
    intro w
    induction w with
    | zero => intro _; simp [allM]
    | succ w ih =>
      intro hw
      have ham : allM (w + 1) = allM w ++ masksL (w + 1) := by
        unfold allM
        rw [List.range_succ, List.flatMap_append]
        simp
      rw [ham, List.filter_append, ih (by omega)]
      by_cases h : w + 1 ≤ l.length
      · have e1 : min (w + 1) l.length = w + 1 := by omega
        have e2 : min w l.length = w := by omega
        rw [e1, e2, ham, List.filter_append]
        congr 1
        refine List.filter_congr fun m hm => ?_
        obtain ⟨g1, g2⟩ := mem_masksL (by omega) hw hm
        unfold okQ
        rw [decide_eq_true (by omega), Bool.true_and]
      · have e1 : min (w + 1) l.length = min w l.length := by omega
        rw [e1]
        have e3 : (masksL (w + 1)).filter (okQ l) = [] := by
          rw [List.filter_eq_nil_iff]
          intro m hm
          obtain ⟨g1, g2⟩ := mem_masksL (by omega) hw hm
          unfold okQ
          rw [decide_eq_false (by omega)]
          simp
        rw [e3, List.append_nil]
  exact key w hw
def R_least_masks (ds : List PyData) (d : PyData) : Prop := ∃ (l : List Nat) (w : Nat), ds = [sD l, nn w] ∧ rowB l = true ∧ 1 ≤ w ∧ w ≤ 9 ∧ d = wD (foldQ l (allM w)).2
def badW (v : PyData) : Prop := oddI v ∨ ∃ i : Int, v = .int i ∧ ¬ (1 ≤ i ∧ i ≤ 9)
def R_least_x (ds : List PyData) (x : Str) (fo : Option (Str × PyData)) : Prop := ∃ (l : List Nat) (v : PyData), ds = [sD l, v] ∧ rowB l = true ∧ badW v ∧ x = "BadNumber" ∧ fo = some (("n" : Str), v)
def R_refused15 (ds : List PyData) (d : PyData) : Prop := ∃ (l : List Nat) (v : PyData), ds = [sD l, v] ∧ rowB l = true ∧ badW v ∧ d = .list [v]
abbrev gMOST_ASKED (mg : Str → Option Value) : Prop := ∃ t, mg "MOST_ASKED" = some (.int 9 t)
end HW
set_option maxHeartbeats 4000000
namespace HW
open PySem PySem.Spec PyProof.Rows L2
open SX (S)
/-! ### rows counted -/
noncomputable def cntR (m : List Nat) (n k : Nat) : Nat := if k < topK m n then (lev m n k).length else 0
def R_count_rows (ds : List PyData) (d : PyData) : Prop := ∃ (m : List Nat) (n k : Nat), ds = [sD m, nn n, nn k] ∧ Small m n ∧ k ≤ 60 ∧ d = nn (cntR m n k)
def badC (v : PyData) : Prop := oddI v ∨ ∃ i : Int, v = .int i ∧ ¬ (0 ≤ i ∧ i ≤ 60)
def R_count_x (ds : List PyData) (x : Str) (fo : Option (Str × PyData)) : Prop := ∃ (m : List Nat) (n : Nat) (v : PyData), ds = [sD m, nn n, v] ∧ Small m n ∧ badC v ∧ x = "BadNumber" ∧ fo = some (("n" : Str), v)
def R_refused7 (ds : List PyData) (d : PyData) : Prop := ∃ (m : List Nat) (n : Nat) (v : PyData), ds = [sD m, nn n, v] ∧ Small m n ∧ badC v ∧ d = .list [v]
def R_law_levels (ds : List PyData) (d : PyData) : Prop := ∃ (m : List Nat) (n : Nat), ds = [sD m, sD (letL n)] ∧ Small m n ∧ d = levelsD m n
theorem next_zero (m : List Nat) (n : Nat) (rs : List (List Nat)) : nextL m n (rs.take 0) = [] := rfl
theorem next_succ {m : List Nat} {n : Nat} {rs : List (List Nat)} {j : Nat} {s : List Nat} (h : rs[j]? = some s) : nextL m n (rs.take (j + 1)) = nextL m n (rs.take j) ++ stepR m n s := by
  unfold nextL
  rw [List.take_add_one, h, List.flatMap_append]
  simp
theorem step_tells {m r : List Nat} {n : Nat} (hm : 1 ≤ m.length) (hr : tellsB r m = true) : stepR m n r = ((letL n).filter fun c => tellsB (r ++ [c]) m).map fun c => r ++ [c] := by
  unfold stepR
  congr 1
  refine List.filter_congr fun c _ => ?_
  rw [tells_snoc r m c hm, hr, Bool.true_and]
theorem next_le (m : List Nat) (n : Nat) (rs : List (List Nat)) (j : Nat) : (nextL m n (rs.take j)).length ≤ (nextL m n rs).length := by
  unfold nextL
  rw [← List.take_append_drop j rs, List.flatMap_append, List.length_append, List.take_append_drop]
  exact Nat.le_add_right _ _
theorem shp_levels {m : List Nat} {n : Nat} (h : Small m n) : Shp 2 (levelsD m n) := Shp.list fun x hx => by
  obtain ⟨j, _, rfl⟩ := List.mem_map.mp hx
  exact shp_w fun r hr => low_128 h.hi ((mem_lev h.pos h.hi).mp hr).2.1
end HW
set_option maxHeartbeats 4000000
namespace HW
open PySem PySem.Spec PyProof.Rows L2
open SX (S)
/-! ### raise X() -/
section
variable {X : Cx}
theorem mk_endN {pins : List (Addr × Obj)} {σ : L2.St} {H1 H2 : Hp} {Q : XK} {hp hp2 h2 : Heap} {g1 g2 : Array GenState} {d1 d2 : Drawn} {t1 t2 : Nat} {os1 os2 : OsState} {a C : Addr} (T : Raises X (.ref C)) (I1 : Inv X pins σ H1 ⟨hp, g1, d1, t1, os1⟩)
    (ha : hp.objs.size ≤ a) (k : ∀ b o, hp.get? b = some o → hp2.get? b = some o) (un : Un (frs X.stack) [] (upd H1 a (exo a C none)) H2 hp2 h2) (hok : HOk X.prog X.w H2 h2) (ho : os2 = os1) (hb : AllBare g2)
    (ea : H2 a = some (exo a C none)) (q : Q (.ref C) none (del H2 a)) : MkP X pins σ Q (.ref a) ⟨h2, g2, d2, t2, os2⟩ := by
  obtain ⟨t0, hoe⟩ := exo_at hok ea
  have hn : H1 a = none := I1.hok.fresh ha
  obtain ⟨G, g1', g2'⟩ := restrict h2 fun b => decide (b ≠ a)
  have gk : ∀ b, b ≠ a → G.get? b = h2.get? b := fun b hb => g1' b (decide_eq_true hb)
  have ge : G.get? a = none := g2' a (by simp)
  have nha : ∀ {b : Addr} {o : Obj}, hp.get? b = some o → b ≠ a := fun {b o} z => Nat.ne_of_lt (Nat.lt_of_lt_of_le (Heap.lt_size z) ha)
  have up : ∀ {b : Addr}, b ≠ a → H1 b = none → upd H1 a (exo a C none) b = none := fun {b} hb n => by rw [upd_ne hb]; exact n
  have U : Un (frs X.stack) [] H1 (del H2 a) hp G := {
    keep := fun b o z n hf hx => by
      rw [gk b (nha z)]
      exact un.keep b o (k b o z) (up (nha z) n) hf hx
    slot := fun b o z n hf hx => by
      rw [gk b (nha z)]
      exact un.slot b o (k b o z) (up (nha z) n) hf hx
    free := fun b o z n hx => by
      rw [del_ne (nha z)]
      exact un.free b o (k b o z) (up (nha z) n) hx
    there := fun b o z hx => by
      rw [gk b (nha z)]
      exact un.there b o (k b o z) hx
    tups := fun b xs z => by
      rw [del_ne (ne_of_none z hn)]
      exact un.tups b xs (by rw [upd_ne (ne_of_none z hn)]; exact z)
    frzs := fun b o v z => by
      rw [del_ne (ne_of_none z hn)]
      exact un.frzs b o v (by rw [upd_ne (ne_of_none z hn)]; exact z)
    tbls := fun b ps z => by
      rw [del_ne (ne_of_none z hn)]
      exact un.tbls b ps (by rw [upd_ne (ne_of_none z hn)]; exact z) }
  have hok3 : HOk X.prog X.w (del H2 a) G := fun b o z => by
    have hba : b ≠ a := fun e => by
      rw [e, del_same] at z
      cases z
    rw [del_ne hba] at z
    have noa : ∀ {c : Addr}, H2 c = some (.own b) → c ≠ a := fun {c} hc => at_ne ea hc exo_own
    exact (hok b o z).stay (fun c v hc y => by
        have hca : c ≠ a := by
          rcases hc with hc | hc
          · rw [hc]
            exact hba
          · exact noa hc
        rw [gk c hca]
        exact y)
      (fun c hc => by rw [del_ne (noa hc)]; exact hc) (fun c xs hc => by rw [del_ne (at_ne ea hc exo_tup)]; exact hc)
  have J : Inv X pins σ (del H2 a) ⟨G, g2, d2, t2, os2⟩ := I1.call' (ch := []) ho U hok3 hb (fun b z => absurd z (by simp))
  refine ⟨a, _, _, ⟨G, g2, d2, t2, os2⟩, _, .ref C, none, rfl, J, fun b o z => ?_, ge, hoe, ⟨rfl, rfl⟩, rfl, rfl, by rw [del_same], rfl, hb, T, q⟩
  by_cases hba : b = a
  · rw [hba, ge] at z
    cases z
  · exact (gk b hba).symm.trans z
/-- C(), C's own __init__ keeping sp, nothing kept in it -/
theorem pmk_oex0 {CX : CXT} {x : Str} {C fI : Addr} {k : Nat} {fd : FuncData} {ps : List Str} {sp : Sp} {ds : List Value} {dvs : List V} {p pos : Pos} (T : OexC X.K C) (iC : PySem.W.findIn X.K (.ref C) "__init__" = some (some (.ref fI))) (tI : PySem.W.typeIn X.K (.ref fI) = some (.type "function"))
    (F1 : FnOk X.prog X.w X.K X.mg X.base CX k fI fd ps sp) (hr : Room (k + 1) X.A) (hb : Binds X.K fd ps ds) (hd : Vals dvs ds) (hx : Passes CX X (fun _ _ _ => False)) (hg : Gl X x) (hm : X.mg x = some (.ref C))
    (hdb : (x == ("__debug__" : Str)) = false := by decide) :
    PMk X (.Call (.Name x p) [] [] pos) (fun _ H1 Q => ∀ a, H1 a = none → sp (.ref a :: dvs) (upd H1 a (exo a C none)) (fun v H2 => v = .non ∧ H2 a = some (exo a C none) ∧ Q (.ref C) none (del H2 a)) (fun _ _ _ => False)) := by
  intro pins s σ H Q I h
  obtain ⟨nm, q, N, bs, bm, sn, sub, ab, col, dd, k0, k1, k2, k3, k5, hC, hbm⟩ := T.cls
  refine wpAny_Call_Name_kw (ld_glob I hg hm ?_ hdb)
  refine PySem.W.callWith_K0 I.kIn T.kC ?_
  show wpAny _ _ (call (.ref C) []) _ _ _
  obtain ⟨hp, g, dr, tk, os⟩ := s
  have hsz : hp.objs.size ≤ hp.objs.size + 1 := Nat.le_succ _
  have hn : H (hp.objs.size + 1) = none := I.hok.fresh hsz
  have hq := h (hp.objs.size + 1) hn
  have kk : ∀ b o, hp.get? b = some o → ((hp.push (PySem.W.kdv_tup [])).push (PySem.HandSPX.excO C hp.objs.size)).get? b = some o := fun b o e => Heap.get?_push_of_some _ (Heap.get?_push_of_some _ e)
  have hget : ((hp.push (PySem.W.kdv_tup [])).push (PySem.HandSPX.excO C hp.objs.size)).get? (hp.objs.size + 1) = some (PySem.HandSPX.excO C hp.objs.size) := by heap_get
  have I2 : Inv X pins σ (upd H (hp.objs.size + 1) (exo (hp.objs.size + 1) C none)) ⟨(hp.push (PySem.W.kdv_tup [])).push (PySem.HandSPX.excO C hp.objs.size), g, dr, tk, os⟩ :=
    I.laid (t' := tk) (a := hp.objs.size + 1) (o := exo (hp.objs.size + 1) C none) (h' := (hp.push (PySem.W.kdv_tup [])).push (PySem.HandSPX.excO C hp.objs.size)) kk hsz (exo_ok hget)
  have r2 : Vals (V.ref (hp.objs.size + 1) :: dvs) ([Value.ref (hp.objs.size + 1)] ++ ds) := .cons rfl hd
  have hl : ([Value.ref (hp.objs.size + 1)] ++ ds).length = ps.length := by
    have e := r2.length
    rw [F1.len _ _ _ _ hq] at e
    exact e.symm
  refine wpAny_call (PySem.HandSPX.call_own F.excBase_ValueError (fun Y => PySem.HandSPX.refsVE_contains Y bm hbm) (I.kIn _ _ hC) (PySem.W.looks_findIn I.kIn iC) (fun self => PySem.W.bind_fn I.kIn self tI) (Nat.zero_le _)
    (codeAny_mono (F1.run _ X.stack _ _ ⟨[Value.ref (hp.objs.size + 1)], []⟩ ([Value.ref (hp.objs.size + 1)] ++ ds) _ _ (fun _ _ _ => False) (hr.make C [] []) (I2.env0.make C [] []) (hb _ [Value.ref (hp.objs.size + 1)] I2.kIn hl) r2 hq) fun r s' hq' => ?_))
  cases r with
  | error er => exact hx pins σ _ _ er s' I2 hq'
  | ok fl =>
    cases fl with
    | ret u =>
      obtain ⟨v, H2, os2, bare2, un2, hok2, rv, ev, ea, q2⟩ := hq'
      subst ev
      obtain ⟨h2, g2, d2, t2, os'⟩ := s'
      exact ⟨rv, mk_endN (raises_own T.exC T.tyC) I hsz kk un2 hok2 os2 bare2 ea q2⟩
    | next => exact False.elim hq'
    | brk => exact False.elim hq'
    | cont => exact False.elim hq'
end
section
variable {X : Cx} {W : Wd} {Γ : List DV} {μ : Mu} {rest : List Stmt} {D : Ends} {x : Str} {k : Nat} {p pos pos2 : Pos} {W0 : WX}
/-- raise X() -/
theorem run_raise0 (F : Ex0 X.prog X.w X.K X.mg X.base k x) (hr : Room (k + 1) X.A) (tk : Takes X W0) (h : ∀ σ H, Rep X.K W Γ μ σ H → ∀ cls d H', XO X.K W.M H H' x none cls d → W0 cls d σ H') (hg : Gl X x := by rfl) (hc : X.calm = true := by rfl)
    (hdb : (x == ("__debug__" : Str)) = false := by decide) : Run X W Γ μ (.Raise (some (.Call (.Name x p) [] [] pos)) none pos2 :: rest) D := fun σ H R => by
  obtain ⟨fd, F1, hb⟩ := F.ini
  refine wSs_cons ((ps_raise hc tk (pmk_oex0 F.f.oex F.f.ini F.f.ty F1 hr hb .nil pass0 hg F.f.g hdb)).w fun a0 hna => ⟨a0, rfl, F.f.oex, upd_same, rfl, upd_same, ?_⟩)
  have sm : Same H (del (upd H a0 (exo a0 (He.ga X.K x) none)) a0) := fun b o e => by
    have h1 : b ≠ a0 := fun z => by rw [z, hna] at e; cases e
    rw [del_ne h1, upd_ne h1]
    exact e
  exact h σ H R _ _ _ ⟨rfl, sm, trivial⟩
end
end HW
set_option maxHeartbeats 4000000
namespace HW
open PySem PySem.Spec PyProof.Rows L2
open SX (S)
/-! ### try with several clauses without `as` -/
/-- the clauses name classes of the program -/
inductive AllCl (X : Cx) : List ExceptHandler → Prop
  | nil : AllCl X []
  | cons {x : Str} {b0 : Stmt} {st : List Stmt} {np pos' : Pos} {hds : List ExceptHandler} (F : Names X x (.ref (He.ga X.K x))) (r : AllCl X hds) : AllCl X (.ExceptHandler (some (.Name x np)) none (b0 :: st) pos' :: hds)
/-- of the clauses, st is the suite that xr comes to -/
inductive Chosen (X : Cx) (xr : Str) : List ExceptHandler → List Stmt → Prop
  | here {x : Str} {b0 : Stmt} {st : List Stmt} {np pos' : Pos} {hds : List ExceptHandler} (F : Names X x (.ref (He.ga X.K x))) (hm : PySem.W.exmOne X.K (.ref (He.ga X.K xr)) (.ref (He.ga X.K x)) = some true) (r : AllCl X hds) :
      Chosen X xr (.ExceptHandler (some (.Name x np)) none (b0 :: st) pos' :: hds) (b0 :: st)
  | there {x : Str} {b0 : Stmt} {st st2 : List Stmt} {np pos' : Pos} {hds : List ExceptHandler} (F : Names X x (.ref (He.ga X.K x))) (hm : PySem.W.exmOne X.K (.ref (He.ga X.K xr)) (.ref (He.ga X.K x)) = some false) (r : Chosen X xr hds st2) :
      Chosen X xr (.ExceptHandler (some (.Name x np)) none (b0 :: st) pos' :: hds) st2
theorem AllCl.app {X : Cx} {hds : List ExceptHandler} (h : AllCl X hds) : ∃ l, HdsOk X hds l := by
  induction h with
  | nil => exact ⟨_, .nil⟩
  | @cons x b0 st np pos' hds F r ih =>
    obtain ⟨l, hl⟩ := ih
    exact ⟨_, .cons (ts := fun a cls d D σ H => ∀ (oe : Obj) (pn : List (Addr × Obj)), Zc cls d oe → (∃ vs, oe.data = .fields vs) → wSs (X.suite a ((a, oe) :: pn)) (b0 :: st) D σ H) F (fun a oe cls d pn hz hv => ⟨fun pins s σ H D I h => h oe pn hz hv pins s I⟩) hl⟩
theorem Chosen.app {X : Cx} {xr : Str} {hds : List ExceptHandler} {st : List Stmt} (h : Chosen X xr hds st) : ∃ l, HdsOk X hds l ∧ ∀ (Wout : WX) (D : Ends) (σ : L2.St) (H : Hp) (d : Option Addr),
    (∀ a, H a = none → ∀ (oe : Obj) (pn : List (Addr × Obj)), Zc (.ref (He.ga X.K xr)) d oe → (∃ vs, oe.data = .fields vs) → wSs (X.suite a ((a, oe) :: pn)) st D σ H) → wMany X.K Wout D l (.ref (He.ga X.K xr)) d σ H := by
  induction h with
  | @here x b0 st np pos' hds F hm r =>
    obtain ⟨l, hl⟩ := r.app
    exact ⟨_, .cons (ts := fun a cls d D σ H => ∀ (oe : Obj) (pn : List (Addr × Obj)), Zc cls d oe → (∃ vs, oe.data = .fields vs) → wSs (X.suite a ((a, oe) :: pn)) (b0 :: st) D σ H) F (fun a oe cls d pn hz hv => ⟨fun pins s σ H D I h => h oe pn hz hv pins s I⟩) hl,
      fun Wout D σ H d q => ⟨true, hm, fun _ a na oe pn hz hv => q a na oe pn hz hv, fun z => nomatch z⟩⟩
  | @there x b0 st st2 np pos' hds F hm r ih =>
    obtain ⟨l, hl, hq⟩ := ih
    exact ⟨_, .cons (ts := fun a cls d D σ H => ∀ (oe : Obj) (pn : List (Addr × Obj)), Zc cls d oe → (∃ vs, oe.data = .fields vs) → wSs (X.suite a ((a, oe) :: pn)) (b0 :: st) D σ H) F (fun a oe cls d pn hz hv => ⟨fun pins s σ H D I h => h oe pn hz hv pins s I⟩) hl,
      fun Wout D σ H d q => ⟨false, hm, (fun z => nomatch z), fun _ => hq Wout D σ H d q⟩⟩
section
variable {X : Cx} {W : Wd} {Γ : List DV} {μ : Mu} {rest body : List Stmt} {D : Ends} {xr nm : Str} {fo : Option (Str × PyData)} {h0 : ExceptHandler} {hds : List ExceptHandler} {pos q1 q2 : Pos} {e0 : Expr} {y0 : PyData} {W0 : WX}
/-- try: body (which raises xr); of the clauses the chosen one says nm = e0 -/
theorem run_tryX (j : Nat) (tk : Takes X W0) (ch : Chosen X xr (h0 :: hds) [.Assign [.Name nm q1] e0 q2])
    (hbody : ∀ (pn : List (Addr × Obj)) (xe : Value → Shared → Prop) (Wx : WX), Takes (X.tr pn xe) Wx → PassesOwn (model X.prog X.w) X.A X.env xe → (∀ σ H, Rep X.K W Γ μ σ H → ∀ cls d H', XO X.K (hd W μ) H H' xr fo cls d → Wx cls d σ H') → Run (X.tr pn xe) W Γ μ body DF)
    (he0 : ∀ (W1 : Wd) (a : Addr) (oe : Obj) (pn : List (Addr × Obj)), Wle W W1 → Ed (X.suite a ((a, oe) :: pn)) W1 Γ μ e0 y0)
    (h : Run X W (Γ.set j (.d y0)) μ rest D) (nd : X.N.Nodup) (hj : X.N[j]? = some nm := by rfl) (hx : Loc X.env.scope nm := by first | exact Or.inl rfl | exact Or.inr rfl)
    (hsw : swapsWith e0 (some (.Name nm q1)) q2.line X.env = pure false := by rfl) (hfn : X.fn nm = true ∨ X.env.scope.names.lookup nm = some .local := by first | exact .inr rfl | exact .inl rfl)
    (hs : X.stack = X.env :: X.outer := by rfl) (hf : X.env.frame = some X.env.locals := by rfl) :
    Run X W Γ μ (.Try body (h0 :: hds) [] [] pos :: rest) D := fun σ H R => by
  obtain ⟨l, hl, hq⟩ := ch.app
  refine wSs_cons ((ps_try_many (tb := fun Wx D σ H => ∀ (pn : List (Addr × Obj)) (xe : Value → Shared → Prop), Takes (X.tr pn xe) Wx → PassesOwn (model X.prog X.w) X.A X.env xe → wSs (X.tr pn xe) body D σ H) (Wout := W0)
    hs hf tk (fun Wx pn xe t hp => ⟨fun pins s σ H D I h => h pn xe t hp pins s I⟩) hl).w ?_)
  intro pn xe t hp
  refine Run.mono (hbody pn xe _ t hp fun σ2 H2 R2 cls d H' xo => ?_) (fun _ _ z => z.elim) (fun _ _ z => z.elim) (fun _ _ z => z.elim) (fun _ _ z => z.elim) σ H R
  obtain ⟨e1, sm, _⟩ := xo
  subst e1
  refine hq _ _ _ _ _ fun a na oe pn2 hz hv => ?_
  have R3 : Rep X.K W Γ μ σ2 H' := R2.same sm
  have R4 := R3.now
  have le := R3.now_le
  refine run_set (X := X.suite a ((a, oe) :: pn2)) j (he0 _ a oe pn2 le) (run_nil fun σ3 H3 R6 => ?_) nd hj hx hsw hfn _ _ R4
  exact h _ _ (R6.wdown le R3.wd)
/-- a try whose body does not raise -/
theorem run_tryOk (tk : Takes X W0) (al : AllCl X (h0 :: hds)) (hbody : ∀ (pn : List (Addr × Obj)) (xe : Value → Shared → Prop), PassesOwn (model X.prog X.w) X.A X.env xe → Run (X.tr pn xe) W Γ μ body { D with nx := wSs X rest D })
    (hs : X.stack = X.env :: X.outer := by rfl) (hf : X.env.frame = some X.env.locals := by rfl) : Run X W Γ μ (.Try body (h0 :: hds) [] [] pos :: rest) D := fun σ H R => by
  obtain ⟨l, hl⟩ := al.app
  exact wSs_cons ((ps_try_many (tb := fun Wx D σ H => ∀ (pn : List (Addr × Obj)) (xe : Value → Shared → Prop), PassesOwn (model X.prog X.w) X.A X.env xe → wSs (X.tr pn xe) body D σ H) (Wout := W0)
    hs hf tk (fun Wx pn xe t hp => ⟨fun pins s σ H D I h => h pn xe hp pins s I⟩) hl).w fun pn xe hp => hbody pn xe hp σ H R)
end
end HW
set_option maxHeartbeats 4000000
namespace HW
open PySem PySem.Spec PyProof.Rows L2
open SX (S)
/-! ### texts that are no masks, no rows, no views -/
def R_is_mask_t (ds : List PyData) (d : PyData) : Prop := ∃ m : List Nat, ds = [sD m] ∧ m.length ≤ 4000 ∧ d = .bool (maskB m)
def R_is_row_t (ds : List PyData) (d : PyData) : Prop := ∃ l : List Nat, ds = [sD l] ∧ l.length ≤ 4000 ∧ d = .bool (rowB l)
def R_is_view_t (ds : List PyData) (d : PyData) : Prop := ∃ m t : List Nat, ds = [sD m, sD t] ∧ m.length ≤ 4000 ∧ t.length ≤ 4000 ∧ d = .bool (lookB m t)
def R_need_mask_x (ds : List PyData) (x : Str) (fo : Option (Str × PyData)) : Prop := ∃ m : List Nat, ds = [sD m] ∧ m.length ≤ 4000 ∧ maskB m = false ∧ x = "BadMask" ∧ fo = none
def R_need_row_x (ds : List PyData) (x : Str) (fo : Option (Str × PyData)) : Prop := ∃ l : List Nat, ds = [sD l] ∧ l.length ≤ 4000 ∧ rowB l = false ∧ x = "BadRow" ∧ fo = none
def R_views_x (ds : List PyData) (x : Str) (fo : Option (Str × PyData)) : Prop := ∃ l m : List Nat, ds = [sD l, sD m] ∧ l.length ≤ 4000 ∧ rowB l = false ∧ x = "BadRow" ∧ fo = none
def R_seen_x (ds : List PyData) (x : Str) (fo : Option (Str × PyData)) : Prop := R_need_mask_x ds x fo
def R_find_x (ds : List PyData) (x : Str) (fo : Option (Str × PyData)) : Prop := ∃ l m t : List Nat, ds = [sD l, sD m, sD t] ∧ rowB l = true ∧ maskB m = true ∧ t.length ≤ 4000 ∧ lookB m t = false ∧ x = "BadView" ∧ fo = none
def R_need_letters_x (ds : List PyData) (x : Str) (fo : Option (Str × PyData)) : Prop := ∃ v : Int, ds = [.int v] ∧ ¬ (1 ≤ v ∧ v ≤ 4) ∧ x = "BadLetters" ∧ fo = none
/-- need_small, longest: the letters are refused -/
def R_small_xl (ds : List PyData) (x : Str) (fo : Option (Str × PyData)) : Prop := ∃ (m : List Nat) (v : Int), ds = [sD m, .int v] ∧ maskB m = true ∧ ¬ (1 ≤ v ∧ v ≤ 4) ∧ x = "BadLetters" ∧ fo = none
/-- need_small, longest: too great -/
def R_small_xg (ds : List PyData) (x : Str) (fo : Option (Str × PyData)) : Prop := ds = [sD [120, 120], nn 4] ∧ x = "TooGreat" ∧ fo = none
def R_together_x (ds : List PyData) (x : Str) (fo : Option (Str × PyData)) : Prop := ∃ (a b : List Nat) (v : Int), ds = [sD a, sD b, .int v] ∧ maskB a = true ∧ maskB b = true ∧ ¬ (0 ≤ v ∧ v ≤ 12 - (b.length : Int)) ∧ x = "BadNumber" ∧ fo = some (("n" : Str), .int v)
def R_need_views_x (ds : List PyData) (x : Str) (fo : Option (Str × PyData)) : Prop := ∃ (m : List Nat) (q : Nat), ds = [sD m, seqD false ([] : List PyData), nn q] ∧ x = "BadViews" ∧ fo = some (("index" : Str), .none)
def R_joined_x (ds : List PyData) (x : Str) (fo : Option (Str × PyData)) : Prop := ∃ m : List Nat, ds = [sD m, seqD false ([] : List PyData)] ∧ maskB m = true ∧ x = "BadViews" ∧ fo = some (("index" : Str), .none)
abbrev gMOST_VIEWS (mg : Str → Option Value) : Prop := ∃ t, mg "MOST_VIEWS" = some (.int 7 t)
def R_rows_from_x (ds : List PyData) (x : Str) (fo : Option (Str × PyData)) : Prop := ∃ (m : List Nat) (vs : List (List Nat)), ds = [sD m, seqD false (vs.map sD)] ∧ maskB m = true ∧ 7 < vs.length ∧ vs.length ≤ 60 ∧ (∀ v ∈ vs, lookB m v = true) ∧ x = "TooMany" ∧ fo = some (("most" : Str), nn 7)
end HW
set_option maxHeartbeats 4000000
namespace HW
open PySem PySem.Spec PyProof.Rows L2
open SX (S)
/-! ### text.split(text) -/
section
variable {X : Cx} {W : Wd} {Γ : List DV} {μ : Mu} {o e : Expr} {a b : Str} {apos pos : Pos}
theorem vaStrs {K : PySem.W.Frag} {H : Hp} : ∀ ys : List Str, VaAll K H (ys.map V.str) (ys.map PyData.str)
  | [] => .nil
  | y :: ys => .cons (.str y) (vaStrs ys)
theorem ed_split (ho : Ed X W Γ μ o (.str a)) (he : Ed X W Γ μ e (.str b)) (hb : (b.length == 0) = false) (ha : a.length + 2 ≤ sizeLine) (hs : starEach [e] X.env = [(false, eval e X.env)] := by rfl) (hbase : attributeBase o "split" X.env (eval o X.env) = eval o X.env := by rfl) (hline : (apos.endLine == pos.line) = true := by rfl) :
    Ed X W Γ μ (.Call (.Attribute o "split" apos) [e] [] pos) (.list ((Txt.split a b).map PyData.str)) := fun σ H R Q q => by
  refine (pe_m1 PySem.F.slot_str_split PySem.F.type_str_split mt_split wE.pe wE.pe hs hbase hline).w (ho σ H R _ fun v H2 R2 e2 r2 => ?_)
  cases r2
  refine ⟨⟨_, rfl⟩, he σ H2 R2 _ fun v H3 R3 e3 r3 => ?_⟩
  cases r3
  refine ⟨_, _, rfl, rfl, hb, ha, fun p hp => ?_⟩
  have s := same_new (o := .lst ((Txt.split a b).map V.str)) hp
  exact q _ _ (R3.same s) ((e2.trans e3).trans (XT.same s)) (.lst (off_upd (new_out R3.ne hp)) (vaStrs _))
end
def R_read_x (ds : List PyData) (x : Str) (fo : Option (Str × PyData)) : Prop := ds = [sD []] ∧ x = "InvalidText" ∧ fo = some (("word" : Str), nn 1)
end HW
set_option maxHeartbeats 4000000
namespace HW
open PySem PySem.Spec PyProof.Rows L2
open SX (S)
/-! ### law 27: ten wrong calls -/
def clsN : List Str := ["BadMask", "BadRow", "BadView", "BadViews", "BadLetters", "BadNumber", "TooGreat", "TooLong", "TooMany", "InvalidText"]
def fldN : List (Option (Str × PyData)) := [none, none, none, some ("index", .none), none, some ("n", .int 12), none, some ("most", nn 8), some ("most", nn 7), some ("word", nn 1)]
def R_law_call (ds : List PyData) (x : Str) (fo : Option (Str × PyData)) : Prop := ∃ i : Nat, ds = [nn i] ∧ clsN[i]? = some x ∧ fldN[i]? = some fo
def R_law_first (ds : List PyData) (d : PyData) : Prop := ∃ i : Nat, ds = [nn i] ∧ i < 10 ∧ d = nn i
def R_law_base (ds : List PyData) (d : PyData) : Prop := ∃ i : Nat, ds = [nn i] ∧ i < 10 ∧ d = .bool true
end HW
set_option maxHeartbeats 4000000
namespace HW
open PySem PySem.Spec PyProof.Rows L2
open SX (S)
/-! ### try: of all clauses, with `as` and without, the one that takes the exception -/
/-- of the clauses, the one that an exception of the class cr comes to: the slot of its name, its suite -/
inductive Pick (X : Cx) (cr : Value) : List ExceptHandler → Option Nat → Stmt → List Stmt → Prop
  | bare {x : Str} {c : Value} {b0 : Stmt} {st : List Stmt} {np hp : Pos} {hds : List ExceptHandler} (F : Names X x c) (hm : PySem.W.exmOne X.K cr c = some true) : Pick X cr (.ExceptHandler (some (.Name x np)) none (b0 :: st) hp :: hds) none b0 st
  | named {x n : Str} {c : Value} {i : Nat} {b0 : Stmt} {st : List Stmt} {np hp : Pos} {hds : List ExceptHandler} (F : Names X x c) (hm : PySem.W.exmOne X.K cr c = some true) (hi : X.N[i]? = some n) (hl : X.env.kindOf n = some .local) :
      Pick X cr (.ExceptHandler (some (.Name x np)) (some n) (b0 :: st) hp :: hds) (some i) b0 st
  | skip {x : Str} {c : Value} {nm : Option Str} {b0 : Stmt} {st s2 : List Stmt} {np hp : Pos} {hds : List ExceptHandler} {o : Option Nat} (F : Names X x c) (hm : PySem.W.exmOne X.K cr c = some false) (r : Pick X cr hds o b0 st) :
      Pick X cr (.ExceptHandler (some (.Name x np)) nm s2 hp :: hds) o b0 st
def slotE (o : Option Nat) (v : Option V) (σ : L2.St) : L2.St := match o with
  | none => σ
  | some i => σ.set i v
def endsE (o : Option Nat) (D : Ends) : Ends := ⟨fun σ H => D.nx (slotE o none σ) H, D.rt, fun σ H => D.bk (slotE o none σ) H, fun σ H => D.ct (slotE o none σ) H⟩
def seekX (X : Cx) (pins : List (Addr × Obj)) (D : Ends) (hl : List ExceptHandler) : Value → Shared → Prop := fun e s1 => wpAny (model X.prog X.w) X.A (noteFrame e X.env) (fun _ s2 => wpAny (model X.prog X.w) X.A (setFlight e none)
  (fun _ s3 => wpAny (model X.prog X.w) X.A (handleBy e X.env hl) (SP X pins D) X.xe s3) X.xe s2) X.xe s1
section
variable {X : Cx} {body : List Stmt} {h0 : ExceptHandler} {hds : List ExceptHandler} {pos : Pos} {tb : WX → TS} {cr : Value} {o : Option Nat} {b0 : Stmt} {st : List Stmt} {ts : Addr → Option Addr → TS}
theorem ps_try_pick (hs : X.stack = X.env :: X.outer) (hf : X.env.frame = some X.env.locals) (nd : X.N.Nodup) (pk : Pick X cr (h0 :: hds) o b0 st)
    (hb : ∀ (W : WX) (pn : List (Addr × Obj)) (xe : Value → Shared → Prop), Takes (X.tr pn xe) W → PassesOwn (model X.prog X.w) X.A X.env xe → PSs (X.tr pn xe) body (tb W))
    (hsu : ∀ (a : Addr) (oe : Obj) (d : Option Addr) (pn : List (Addr × Obj)), Zc cr d oe → (∃ vs, oe.data = .fields vs) → PSs (X.suite a ((a, oe) :: pn)) (b0 :: st) (ts a d)) :
    PS X (.Try body (h0 :: hds) [] [] pos) (fun D σ H => tb (fun cls d σ H => cls = cr ∧ ∀ a, H a = none → ts a d (endsE o D) (slotE o (some (.ref a)) σ) H) D σ H) := by
  constructor
  intro pins s σ H D I h
  have k0 := I.ok
  have kf : X.A.frames = some (X.env :: X.outer) := k0.frames.trans (congrArg some hs)
  refine wpAny_Try_except (wpAny_mono ((hb _ (X.pn ++ pins) (seekX X pins D (h0 :: hds)) (fun u s1 z => ?_) PassesOwn.looking).run [] s σ H D (I.toTry _) h) (fun f s1 z => ?_) fun _ _ z => z)
  · obtain ⟨xa, fB, s0, pins0, σ1, H1, cls, d, rfl, J0, nb, up, sky, na, os, ag, ec, w⟩ := z
    subst ec
    have J : Inv X pins σ1 H1 s0 := J0.ofTry k0
    have sk : Sky fB (X.env :: X.outer) xa (Zc cls d) X.env.locals s1.heap := hs ▸ sky
    show wpAny (model X.prog X.w) X.A (noteFrame (.ref xa) X.env) _ _ _
    refine Sky.land Zc.steady kf hf sk fun g fl ug => ?_
    have Jg : Inv X pins σ1 H1 { s1 with heap := g } := J.landed nb fl.1 (up.trans ug) os ag
    obtain ⟨ox, vx, gx, zx, dx⟩ := fl.there
    have offF : xa ∉ frs (X.env :: X.outer) := fun hm => by
      obtain ⟨_, o2, e2, nf⟩ := fl.2.2.1.mem hm
      rw [gx] at e2
      cases e2
      exact nf _ dx
    have offL : xa ≠ X.env.locals := fun z => offF (List.mem_filterMap.mpr ⟨_, List.mem_cons_self, hf.trans (congrArg some z.symm)⟩)
    have offS : xa ∉ X.fs := fun hm => by
      obtain ⟨e2, h2, q2⟩ := List.mem_filterMap.mp hm
      exact offF (List.mem_filterMap.mpr ⟨e2, List.mem_cons_of_mem _ h2, q2⟩)
    have Sg := Jg.suite gx dx na offL offS
    have nameOk : ∀ {x : Str} {c : Value} {np : Pos} {Q E : Value → Shared → Prop}, Names X x c → Q c { s1 with heap := g } → wpAny (model X.prog X.w) (X.A.mark (some (.ref xa))) (eval (.Name x np) X.env) Q E { s1 with heap := g } := fun {x c np Q E} F q => by
      rcases F with ⟨f1, f2, f3 | ⟨f3, f4, f5⟩⟩
      · exact ld_glob (X := X.suite xa ((xa, ox) :: (X.pn ++ pins))) Sg f1 f3 q f2
      · exact ld_blt (X := X.suite xa ((xa, ox) :: (X.pn ++ pins))) Sg f1 f3 f4 q f5 f2
    have LT : PySem.W.Looks (model X.prog X.w) g (typeOf (.ref xa)) cls := fun A Q E s k q => wpAny_typeOf_ref (k _ _ gx) (zx.1 ▸ q)
    clear h
    revert pk
    generalize h0 :: hds = hl
    intro pk
    induction pk with
    | @skip x c nm b0 st s2 np hp hds o F hm r ih =>
      refine wpAny_handleBy_cons (codeAny_handlers_test (nameOk F ((PySem.W.exm_one (M := model X.prog X.w) Jg.kIn LT hm).here ?_))) (nomatch ·)
      exact ih w hsu
    | @bare x c b0 st np hp hds F hm =>
      refine wpAny_handleBy_cons (codeAny_handlers_test (nameOk F ((PySem.W.exm_one (M := model X.prog X.w) Jg.kIn LT hm).here ?_))) (nomatch ·)
      refine codeAny_handlers_suite (HandSPX.lands_againZ fl fun g2 fl2 ug2 => ?_)
      have J2 : Inv X pins σ1 H1 { s1 with heap := g2 } := J.landed nb fl2.1 ((up.trans ug).trans ug2) os ag
      obtain ⟨ox2, vx2, gx2, zx2, dx2⟩ := fl2.there
      refine wpAny_mono ((hsu xa ox2 d (X.pn ++ pins) zx2 ⟨_, dx2⟩).run [] _ _ H1 _ (J2.suite gx2 dx2 na offL offS) (w xa na)) (fun f s6 z => ?_) fun _ _ z => z.elim
      cases f with
      | next => obtain ⟨σ6, H6, S6, q6⟩ := z; exact ⟨σ6, H6, S6.unsuite k0, q6⟩
      | brk => obtain ⟨σ6, H6, S6, q6⟩ := z; exact ⟨σ6, H6, S6.unsuite k0, q6⟩
      | cont => obtain ⟨σ6, H6, S6, q6⟩ := z; exact ⟨σ6, H6, S6.unsuite k0, q6⟩
      | ret u => obtain ⟨v6, σ6, H6, S6, r6, q6⟩ := z; exact ⟨v6, σ6, H6, S6.unsuite k0, r6, q6⟩
    | @named x n c i b0 st np hp hds F hm hi hln =>
      refine wpAny_handleBy_cons (codeAny_handlers_test (nameOk F ((PySem.W.exm_one (M := model X.prog X.w) Jg.kIn LT hm).here ?_))) (nomatch ·)
      refine codeAny_handlers_suite_as (HandSPX.lands_againZ fl fun g2 fl2 ug2 => ?_)
      have J2 : Inv X pins σ1 H1 { s1 with heap := g2 } := J.landed nb fl2.1 ((up.trans ug).trans ug2) os ag
      obtain ⟨ox2, vx2, gx2, zx2, dx2⟩ := fl2.there
      refine store_ok (X := X.suite xa ((xa, ox2) :: (X.pn ++ pins))) (v := .ref xa) (J2.suite gx2 dx2 na offL offS) nd hi (.inl hln) rfl (fun s5 S5 => ?_) (.inr hln)
      refine wpAny_mono ((hsu xa ox2 d (X.pn ++ pins) zx2 ⟨_, dx2⟩).run [] s5 _ H1 _ S5 (w xa na)) (fun f s6 z => ?_) fun _ _ z => z.elim
      cases f with
      | next => obtain ⟨σ6, H6, S6, q6⟩ := z; exact gone_ok (S6.unsuite k0) nd hi hln fun s7 J7 => ⟨_, H6, J7, q6⟩
      | brk => obtain ⟨σ6, H6, S6, q6⟩ := z; exact gone_ok (S6.unsuite k0) nd hi hln fun s7 J7 => ⟨_, H6, J7, q6⟩
      | cont => obtain ⟨σ6, H6, S6, q6⟩ := z; exact gone_ok (S6.unsuite k0) nd hi hln fun s7 J7 => ⟨_, H6, J7, q6⟩
      | ret u => obtain ⟨v6, σ6, H6, S6, r6, q6⟩ := z; exact gone_ok (S6.unsuite k0) nd hi hln fun s7 J7 => ⟨v6, _, H6, J7, r6, q6⟩
  · cases f with
    | next => obtain ⟨σ1, H1, J, q⟩ := z; exact wpAny_execs_nil ⟨σ1, H1, J.ofTry k0, q⟩
    | brk => obtain ⟨σ1, H1, J, q⟩ := z; exact ⟨σ1, H1, J.ofTry k0, q⟩
    | cont => obtain ⟨σ1, H1, J, q⟩ := z; exact ⟨σ1, H1, J.ofTry k0, q⟩
    | ret u => obtain ⟨v, σ1, H1, J, r, q⟩ := z; exact ⟨v, σ1, H1, J.ofTry k0, r, q⟩
end
/-! ### .. over a state of data -/
def setO (o : Option Nat) (a : Addr) (Γ : List DV) : List DV := match o with
  | none => Γ
  | some i => Γ.set i (.r a)
def clrO (o : Option Nat) (Γ : List DV) : List DV := match o with
  | none => Γ
  | some i => Γ.set i .no
section
variable {X : Cx} {W : Wd} {Γ : List DV} {μ : Mu} {rest body : List Stmt} {D : Ends} {xr nm : Str} {fo : Option (Str × PyData)} {h0 : ExceptHandler} {hds : List ExceptHandler} {pos q1 q2 : Pos} {e0 : Expr} {y0 : PyData} {o : Option Nat}
theorem caught_now {a : Addr} {oe : Obj} {cls : Value} {d : Option Addr} {σ2 : L2.St} {H2 H' : Hp} (R2 : Rep X.K W Γ μ σ2 H2) (xo : XO X.K (hd W μ) H2 H' xr fo cls d) (hz : Zc cls d oe) (hv : ∃ vs, oe.data = .fields vs) : Caught X W (W.now μ H') Γ μ xr fo a oe cls d := by
  have R3 : Rep X.K W Γ μ σ2 H' := R2.same xo.2.1
  refine ⟨R3.now_le, hz, hv, xo.1, ?_⟩
  obtain ⟨_, _, h3⟩ := xo
  cases fo with
  | none => trivial
  | some fy =>
    obtain ⟨f, y⟩ := fy
    obtain ⟨dd, v, e1, e2, e3, e4⟩ := h3
    refine ⟨dd, v, e1, fun σ3 H3 Γ3 μ3 R6 => ?_⟩
    have pool : Same (off (hd W μ) H') (off (hd (W.now μ H') μ3) H3) := fun b o e => by
      obtain ⟨h1, h2⟩ := off_some e
      have z : (W.now μ H').H0 b = some o := by
        show off (μ.map (·.1)) H' b = some o
        rw [off_out (fun z => h1 (List.mem_append_right _ z))]
        exact h2
      rw [off_out (fun q => by
        rcases List.mem_append.mp q with q | q
        · exact h1 (List.mem_append_left _ q)
        · obtain ⟨p, hp, rfl⟩ := List.mem_map.mp q
          rw [(R6.mu p hp).1] at z
          cases z)]
      exact R6.fr.keep b o (fun q => h1 (List.mem_append_left _ (Rep.isRow_M R3.wd q))) z
    have hdd : dd ∉ hd W μ := fun q => R2.ne dd q e2
    refine ⟨(off_some (pool dd _ (by rw [off_out hdd]; exact e3))).2, e4.up pool⟩
/-- try: body (which raises xr); the clause that takes it says nm = e0 -/
theorem run_tryP (j : Nat) (pk : Pick X (.ref (He.ga X.K xr)) (h0 :: hds) o (.Assign [.Name nm q1] e0 q2) []) (ho : o ≠ some j)
    (hbody : ∀ (pn : List (Addr × Obj)) (xe : Value → Shared → Prop) (Wx : WX), Takes (X.tr pn xe) Wx → PassesOwn (model X.prog X.w) X.A X.env xe → (∀ σ H, Rep X.K W Γ μ σ H → ∀ cls d H', XO X.K (hd W μ) H H' xr fo cls d → Wx cls d σ H') → Run (X.tr pn xe) W Γ μ body DF)
    (he0 : ∀ (W1 : Wd) (a : Addr) (oe : Obj) (pn : List (Addr × Obj)) (cls : Value) (d : Option Addr), Caught X W W1 Γ μ xr fo a oe cls d → Ed (X.suite a ((a, oe) :: pn)) W1 (setO o a Γ) μ e0 y0)
    (h : Run X W ((clrO o Γ).set j (.d y0)) μ rest D) (nd : X.N.Nodup) (hj : X.N[j]? = some nm := by rfl) (hx : Loc X.env.scope nm := by first | exact Or.inl rfl | exact Or.inr rfl)
    (hsw : swapsWith e0 (some (.Name nm q1)) q2.line X.env = pure false := by rfl) (hfn : X.fn nm = true ∨ X.env.scope.names.lookup nm = some .local := by first | exact .inr rfl | exact .inl rfl)
    (hs : X.stack = X.env :: X.outer := by rfl) (hf : X.env.frame = some X.env.locals := by rfl) :
    Run X W Γ μ (.Try body (h0 :: hds) [] [] pos :: rest) D := fun σ H R => by
  refine wSs_cons ((ps_try_pick (tb := fun Wx D σ H => ∀ (pn : List (Addr × Obj)) (xe : Value → Shared → Prop), Takes (X.tr pn xe) Wx → PassesOwn (model X.prog X.w) X.A X.env xe → wSs (X.tr pn xe) body D σ H)
    (ts := fun a d D σ H => ∀ (oe : Obj) (pn : List (Addr × Obj)), Zc (.ref (He.ga X.K xr)) d oe → (∃ vs, oe.data = .fields vs) → wSs (X.suite a ((a, oe) :: pn)) [.Assign [.Name nm q1] e0 q2] D σ H)
    hs hf nd pk (fun Wx pn xe t hp => ⟨fun pins s σ H D I h => h pn xe t hp pins s I⟩) (fun a oe d pn hz hv => ⟨fun pins s σ H D I h => h oe pn hz hv pins s I⟩)).w ?_)
  intro pn xe t hp
  refine Run.mono (hbody pn xe _ t hp fun σ2 H2 R2 cls d H' xo => ⟨xo.1, fun a na oe pn2 hz hv => ?_⟩) (fun _ _ z => z.elim) (fun _ _ z => z.elim) (fun _ _ z => z.elim) (fun _ _ z => z.elim) σ H R
  obtain rfl : cls = .ref (He.ga X.K xr) := xo.1
  have R3 : Rep X.K W Γ μ σ2 H' := R2.same xo.2.1
  have R4 := R3.now
  have R5 : Rep X.K (W.now μ H') (setO o a Γ) μ (slotE o (some (.ref a)) σ2) H' := by
    cases o with
    | none => exact R4
    | some i => exact ⟨R4.wd, R4.fr, R4.sl.setr i, R4.mu, R4.nd⟩
  have cg := caught_now (a := a) R2 xo hz hv
  refine run_set (X := X.suite a ((a, oe) :: pn2)) j (he0 _ a oe pn2 _ d cg) (run_nil fun σ3 H3 R6 => ?_) nd hj hx hsw hfn _ _ R5
  have R7 : Rep X.K W ((setO o a Γ).set j (.d y0)) μ σ3 H3 := R6.wdown R3.now_le R3.wd
  refine h _ _ ?_
  cases o with
  | none => exact R7
  | some i =>
    have hij : i ≠ j := fun e => ho (congrArg some e)
    have z := slots_no R7.sl i
    have e : ((Γ.set i (.r a)).set j (.d y0)).set i .no = (Γ.set i .no).set j (.d y0) := by
      rw [List.set_comm _ _ (Ne.symm hij), List.set_set]
    have z' : Slots X.K (off (hd W μ) H3) (σ3.set i none) ((Γ.set i .no).set j (.d y0)) := e ▸ z
    exact ⟨R7.wd, R7.fr, z', R7.mu, R7.nd⟩
/-- a try whose body raises nothing -/
theorem run_tryN (hbody : Run X.nox W Γ μ body { D with nx := wSs X rest D }) : Run X W Γ μ (.Try body (h0 :: hds) [] [] pos :: rest) D := fun σ H R =>
  wSs_cons ((ps_try_thru0 (t := fun D σ H => wSs X.nox body D σ H) wSs.ps).w (hbody σ H R))
end
/-! ### f(..), f any expression that gives a def -/
section
variable {X : Cx} {W : Wd} {Γ : List DV} {μ : Mu} {fe e : Expr} {es : List Expr} {ds : List PyData} {d : PyData} {x : Str} {ps : List Str} {k : Nat} {f : Addr} {fd : FuncData} {pos : Pos} {CX : CXT} {sp : Sp} {E : L2.St → XK} {t : TA} {tf : TE}
theorem pe_callF (F : FnOk X.prog X.w X.K X.mg X.base CX k f fd ps sp) (hr : Room k X.A) (hk : PySem.W.keepIn X.K (.ref f) = true) (hb : Binds X.K fd ps []) (hx : ∀ σ, PassesAt CX X σ (E σ)) (hf : PE X fe tf) (ha : PA X (e :: es) t)
    (ht : eval (.Call fe (e :: es) [] pos) X.env = (do callWith pos (← eval fe X.env) [] (backTo pos (starEach (e :: es) X.env)) (backToKw pos (keywordEach [] X.env))))
    (he : starEach (e :: es) X.env = (false, eval e X.env) :: starEach es X.env) (hpl : (backTo pos (starEach es X.env)).any (·.1) = false) :
    PE X (.Call fe (e :: es) [] pos) (fun σ H Q => tf σ H fun y H1 => y = .ref f ∧ t σ H1 fun vs H2 => sp vs H2 Q (E σ)) := by
  refine ⟨fun pins s σ H Q I h => Call_ (thn (hf.run pins s σ H _ I h) fun u s1 ⟨y, H1, I1, ry, ey, q⟩ => ?_) ht⟩
  subst ey
  obtain rfl : u = Value.ref f := ry
  exact PySem.W.callWith_K (h₀ := X.base) I1.ok.mod.kin hk (thn (ha.run pos pins s1 σ H1 _ I1 q) fun us s2 ⟨vs, H2, I2, r, q2⟩ => ⟨I2.kIn, run_fnS F hr hb (hx σ) I2 r q2⟩) he hpl
/-- a def by its name, as a thing -/
theorem ed_fname {p : Pos} (hm : X.mg x = some (.ref f)) (hg : Gl X x := by rfl) (hdb : (x == ("__debug__" : Str)) = false := by decide) : Ed X W Γ μ (.Name x p) (ptD f) :=
  ed_c (pe_glob hg hm (v := .ref f) rfl hdb) fun _ => .ptr f
end
section
variable {X : Cx} {W : Wd} {Γ : List DV} {μ : Mu} {fe e : Expr} {es : List Expr} {ds : List PyData} {d : PyData} {x y : Str} {fo : Option (Str × PyData)} {ps : List Str} {k : Nat} {f : Addr} {pos : Pos} {W0 : WX}
theorem ed_callFX {R : List PyData → Str → Option (Str × PyData) → Prop} (F : FdX X.prog X.w X.K X.mg X.base k x ps R) (hm : X.mg x = some (.ref f)) (hr : Room k X.A) (tk : Takes X W0) (hf : Ed X W Γ μ fe (ptD f)) (ha : EdA X W Γ μ (e :: es) ds) (hR : R ds y fo)
    (h : ∀ σ H, Rep X.K W Γ μ σ H → ∀ cls d H', XO X.K (hd W μ) H H' y fo cls d → W0 cls d σ H') (ht : eval (.Call fe (e :: es) [] pos) X.env = (do callWith pos (← eval fe X.env) [] (backTo pos (starEach (e :: es) X.env)) (backToKw pos (keywordEach [] X.env))) := by rfl)
    (he : starEach (e :: es) X.env = (false, eval e X.env) :: starEach es X.env := by rfl) (hpl : (backTo pos (starEach es X.env)).any (·.1) = false := by rfl) : EdX X W Γ μ (.Call fe (e :: es) [] pos) := fun σ H Rp Q => by
  obtain ⟨fa, fd, h1, h2, h3, h4⟩ := F.ex
  rw [hm] at h2
  cases h2
  refine (pe_callF (E := WE W0) h1 hr h3 h4 (fun σ => passAt tk σ) wE.pe wA.pa ht he hpl).w (hf σ H Rp _ fun v H1 R1 e1 r1 => ?_)
  cases r1
  exact ⟨rfl, ha σ H1 R1 _ fun vs H2 R2 e2 r2 => ⟨HW.hd W μ, ds, y, fo, R2.ne, r2, hR, fun cls d H' hx => h σ H2 R2 cls d H' hx⟩⟩
theorem FdX.at {P : Program} {w : World} {K : PySem.W.Frag} {mg : Str → Option Value} {base : Heap} {R : List PyData → Str → Option (Str × PyData) → Prop} (F : FdX P w K mg base k x ps R) : ∃ f, mg x = some (.ref f) := by
  obtain ⟨f, _, _, h, _⟩ := F.ex
  exact ⟨f, h⟩
theorem Fd.at {P : Program} {w : World} {K : PySem.W.Frag} {mg : Str → Option Value} {base : Heap} {sp : Sp} (F : Fd P w K mg base k x ps sp) : ∃ f, mg x = some (.ref f) := by
  obtain ⟨f, _, _, h, _⟩ := F.ex
  exact ⟨f, h⟩
end
end HW
set_option maxHeartbeats 4000000
namespace HW
open PySem PySem.Spec PyProof.Rows L2
open SX (S)
/-! ### values of any kind that are refused -/
/-- no text -/
def oddS (v : PyData) : Prop := v = .none ∨ (∃ b, v = .bool b) ∨ (∃ i, v = .int i) ∨ (∃ xs, v = .list xs) ∨ (∃ xs, v = .tuple xs) ∨ v = .dict []
/-- no integer -/
def oddA (v : PyData) : Prop := v = .none ∨ (∃ b, v = .bool b) ∨ (∃ l, v = .str l) ∨ (∃ xs, v = .list xs) ∨ (∃ xs, v = .tuple xs) ∨ v = .dict []
def noMask (v : PyData) : Prop := oddS v ∨ ∃ l : List Nat, v = sD l ∧ l.length ≤ 4000 ∧ maskB l = false
def noRow (v : PyData) : Prop := oddS v ∨ ∃ l : List Nat, v = sD l ∧ l.length ≤ 4000 ∧ rowB l = false
def noLook (m : List Nat) (v : PyData) : Prop := oddS v ∨ ∃ t : List Nat, v = sD t ∧ t.length ≤ 4000 ∧ lookB m t = false
def noNum (a b : Int) (v : PyData) : Prop := oddA v ∨ ∃ i, v = .int i ∧ ¬ (a ≤ i ∧ i ≤ b)
theorem oddS_ptr {v : PyData} (h : oddS v) : isPtr v = false := by
  rcases h with rfl | ⟨_, rfl⟩ | ⟨_, rfl⟩ | ⟨_, rfl⟩ | ⟨_, rfl⟩ | rfl <;> rfl
theorem oddA_ptr {v : PyData} (h : oddA v) : isPtr v = false := by
  rcases h with rfl | ⟨_, rfl⟩ | ⟨_, rfl⟩ | ⟨_, rfl⟩ | ⟨_, rfl⟩ | rfl <;> rfl
section
variable {X : Cx} {W : Wd} {Γ : List DV} {μ : Mu} {e : Expr} {d : PyData} {pos p p2 : Pos}
/-- isinstance(e, str) of what is no text -/
theorem ed_isiS (ho : oddS d) (he : Ed X W Γ μ e d) (hm : X.mg "isinstance" = none) (hmT : X.mg "str" = none) (hg : Gl X "isinstance" := by rfl) (hgT : Gl X "str" := by rfl)
    (hs : starEach [e, .Name "str" p2] X.env = (false, eval e X.env) :: starEach [.Name "str" p2] X.env := by rfl) (hs2 : starEach [.Name "str" p2] X.env = (false, eval (.Name "str" p2) X.env) :: starEach [] X.env := by rfl) (hpl : (backTo pos (starEach [.Name "str" p2] X.env)).any (·.1) = false := by rfl) :
    Ed X W Γ μ (.Call (.Name "isinstance" p) [e, .Name "str" p2] [] pos) (.bool false) := by
  rcases ho with rfl | ⟨_, rfl⟩ | ⟨_, rfl⟩ | ⟨_, rfl⟩ | ⟨_, rfl⟩ | rfl <;> exact ed_isi (T := "str") he hm hmT (by decide +kernel) (fun K => rfl) rfl hg hgT (by decide) (by decide) hs hs2 hpl
end
def R_is_mask_o (ds : List PyData) (d : PyData) : Prop := ∃ v : PyData, ds = [v] ∧ oddS v ∧ d = .bool false
def R_is_view_o (ds : List PyData) (d : PyData) : Prop := ∃ m v : PyData, ds = [m, v] ∧ oddS v ∧ d = .bool false
def R_is_from_a (ds : List PyData) (d : PyData) : Prop := ∃ (v : PyData) (a b : Int), ds = [v, .int a, .int b] ∧ noNum a b v ∧ d = .bool false
/-! what is raised: x behind the argument -/
def X_mask (ds : List PyData) (x : Str) (fo : Option (Str × PyData)) : Prop := ∃ v : PyData, ds = [v] ∧ noMask v ∧ x = "BadMask" ∧ fo = none
def X_row (ds : List PyData) (x : Str) (fo : Option (Str × PyData)) : Prop := ∃ v : PyData, ds = [v] ∧ noRow v ∧ x = "BadRow" ∧ fo = none
def X_letters (ds : List PyData) (x : Str) (fo : Option (Str × PyData)) : Prop := ∃ v : PyData, ds = [v] ∧ noNum 1 4 v ∧ x = "BadLetters" ∧ fo = none
/-- letters, then the row -/
def X_row_in (ds : List PyData) (x : Str) (fo : Option (Str × PyData)) : Prop := ∃ r v : PyData, ds = [r, v] ∧ fo = none ∧ ((noNum 1 4 v ∧ x = "BadLetters") ∨ ∃ n : Nat, v = nn n ∧ 1 ≤ n ∧ n ≤ 4 ∧ x = "BadRow" ∧ (noRow r ∨ ∃ l : List Nat, r = sD l ∧ rowB l = true ∧ ¬ lowL n l))
/-- what is too great -/
def greatB (m : List Nat) (n : Nat) : Bool := decide ([12, 8, 5, 4].getD (n - 1) 0 < m.length) || decide ([12, 4, 2, 1].getD (n - 1) 0 < (seenL m).length)
def X_small (ds : List PyData) (x : Str) (fo : Option (Str × PyData)) : Prop := ∃ v w : PyData, ds = [v, w] ∧ fo = none ∧ ((noMask v ∧ x = "BadMask") ∨ ∃ m : List Nat, v = sD m ∧ maskB m = true ∧ ((noNum 1 4 w ∧ x = "BadLetters") ∨ ∃ n : Nat, w = nn n ∧ 1 ≤ n ∧ n ≤ 4 ∧ greatB m n = true ∧ x = "TooGreat"))
end HW
set_option maxHeartbeats 4000000
namespace HW
open PySem PySem.Spec PyProof.Rows L2
open SX (S)
/-! ### what the defs raise, one error after the other (printed by genchain.py) -/
/-- no list, no tuple -/
def oddQ (v : PyData) : Prop := v = .none ∨ (∃ b, v = .bool b) ∨ (∃ i, v = .int i) ∨ (∃ l, v = .str l) ∨ v = .dict []
def noSeq (most : Nat) (v : PyData) : Prop := oddQ v ∨ ∃ (t : Bool) (xs : List PyData), v = seqD t xs ∧ ¬ (1 ≤ xs.length ∧ xs.length ≤ most)
/-- the first of some things that is no look -/
def firstOdd (m : List Nat) (xs : List PyData) (i : Nat) : Prop := (∃ z, xs[i]? = some z ∧ noLook m z) ∧ ∀ j, j < i → ∃ u : List Nat, xs[j]? = some (sD u) ∧ lookB m u = true
def X_need_views (ds : List PyData) (x : Str) (fo : Option (Str × PyData)) : Prop := ∃ (m : List Nat) (v : PyData) (most : Nat), ds = [sD m, v, nn most] ∧ maskB m = true ∧ most ≤ 4000 ∧ x = "BadViews" ∧
  ((noSeq most v ∧ fo = some (("index" : Str), .none)) ∨ ∃ (t : Bool) (xs : List PyData) (i : Nat), v = seqD t xs ∧ 1 ≤ xs.length ∧ xs.length ≤ most ∧ firstOdd m xs i ∧ fo = some (("index" : Str), nn i))
def X_need_ring (ds : List PyData) (x : Str) (fo : Option (Str × PyData)) : Prop := ∃ v : PyData, ds = [v] ∧ (noRow v ∨ v = sD []) ∧ x = "BadRow" ∧ fo = none
def X_seen (ds : List PyData) (x : Str) (fo : Option (Str × PyData)) : Prop := ∃ a0 : PyData, ds = [a0] ∧ (X_mask [a0] x fo)
def X_views (ds : List PyData) (x : Str) (fo : Option (Str × PyData)) : Prop := ∃ a0 a1 : PyData, ds = [a0, a1] ∧ (X_row [a0] x fo ∨ (R_need_row [a0] .none ∧ (X_mask [a1] x fo)))
def X_alike (ds : List PyData) (x : Str) (fo : Option (Str × PyData)) : Prop := ∃ a0 a1 : PyData, ds = [a0, a1] ∧ (X_row [a0] x fo ∨ (R_need_row [a0] .none ∧ (X_mask [a1] x fo)))
def X_groups (ds : List PyData) (x : Str) (fo : Option (Str × PyData)) : Prop := ∃ a0 a1 : PyData, ds = [a0, a1] ∧ (X_row [a0] x fo ∨ (R_need_row [a0] .none ∧ (X_mask [a1] x fo)))
def X_distance (ds : List PyData) (x : Str) (fo : Option (Str × PyData)) : Prop := ∃ a0 a1 : PyData, ds = [a0, a1] ∧ (X_row [a0] x fo ∨ (R_need_row [a0] .none ∧ (X_mask [a1] x fo)))
def X_tells (ds : List PyData) (x : Str) (fo : Option (Str × PyData)) : Prop := ∃ a0 a1 : PyData, ds = [a0, a1] ∧ (X_row [a0] x fo ∨ (R_need_row [a0] .none ∧ (X_mask [a1] x fo)))
def X_steps_needed (ds : List PyData) (x : Str) (fo : Option (Str × PyData)) : Prop := ∃ a0 a1 : PyData, ds = [a0, a1] ∧ (X_row [a0] x fo ∨ (R_need_row [a0] .none ∧ (X_mask [a1] x fo)))
def X_both_views (ds : List PyData) (x : Str) (fo : Option (Str × PyData)) : Prop := ∃ a0 a1 : PyData, ds = [a0, a1] ∧ (X_row [a0] x fo ∨ (R_need_row [a0] .none ∧ (X_mask [a1] x fo)))
def X_both_alike (ds : List PyData) (x : Str) (fo : Option (Str × PyData)) : Prop := ∃ a0 a1 : PyData, ds = [a0, a1] ∧ (X_row [a0] x fo ∨ (R_need_row [a0] .none ∧ (X_mask [a1] x fo)))
def X_stands (ds : List PyData) (x : Str) (fo : Option (Str × PyData)) : Prop := ∃ a0 a1 a2 a3 : PyData, ds = [a0, a1, a2, a3] ∧ (X_row [a0] x fo ∨ (R_need_row [a0] .none ∧ (X_mask [a1] x fo ∨ (R_need_mask [a1] .none ∧ ((noNum 0 12 a2 ∧ x = "BadNumber" ∧ fo = some (("n" : Str), a2)) ∨ ((∃ i : Int, a2 = .int i ∧ 0 ≤ i ∧ i ≤ 12) ∧ ((noNum 0 12 a3 ∧ x = "BadNumber" ∧ fo = some (("n" : Str), a3)))))))))
def X_find (ds : List PyData) (x : Str) (fo : Option (Str × PyData)) : Prop := ∃ a0 a1 a2 : PyData, ds = [a0, a1, a2] ∧ (X_row [a0] x fo ∨ (R_need_row [a0] .none ∧ (X_mask [a1] x fo ∨ (R_need_mask [a1] .none ∧ ((∃ m : List Nat, a1 = sD m ∧ maskB m = true ∧ noLook m a2 ∧ x = "BadView" ∧ fo = none))))))
def X_both_find (ds : List PyData) (x : Str) (fo : Option (Str × PyData)) : Prop := ∃ a0 a1 a2 : PyData, ds = [a0, a1, a2] ∧ (X_row [a0] x fo ∨ (R_need_row [a0] .none ∧ (X_mask [a1] x fo ∨ (R_need_mask [a1] .none ∧ ((∃ m : List Nat, a1 = sD m ∧ maskB m = true ∧ noLook m a2 ∧ x = "BadView" ∧ fo = none))))))
def X_near (ds : List PyData) (x : Str) (fo : Option (Str × PyData)) : Prop := ∃ a0 a1 a2 a3 : PyData, ds = [a0, a1, a2, a3] ∧ (X_row [a0] x fo ∨ (R_need_row [a0] .none ∧ (X_mask [a1] x fo ∨ (R_need_mask [a1] .none ∧ ((∃ m : List Nat, a1 = sD m ∧ maskB m = true ∧ noLook m a2 ∧ x = "BadView" ∧ fo = none) ∨ ((∃ m t : List Nat, a1 = sD m ∧ a2 = sD t ∧ maskB m = true ∧ lookB m t = true) ∧ ((noNum 0 12 a3 ∧ x = "BadNumber" ∧ fo = some (("n" : Str), a3)))))))))
def X_longest (ds : List PyData) (x : Str) (fo : Option (Str × PyData)) : Prop := ∃ a0 a1 : PyData, ds = [a0, a1] ∧ (X_small [a0, a1] x fo)
def X_longest_rows (ds : List PyData) (x : Str) (fo : Option (Str × PyData)) : Prop := ∃ a0 a1 : PyData, ds = [a0, a1] ∧ (X_small [a0, a1] x fo)
def X_full_rings (ds : List PyData) (x : Str) (fo : Option (Str × PyData)) : Prop := ∃ a0 a1 : PyData, ds = [a0, a1] ∧ (X_small [a0, a1] x fo)
def X_longest_ring (ds : List PyData) (x : Str) (fo : Option (Str × PyData)) : Prop := ∃ a0 a1 : PyData, ds = [a0, a1] ∧ (X_small [a0, a1] x fo)
def X_count_rows (ds : List PyData) (x : Str) (fo : Option (Str × PyData)) : Prop := ∃ a0 a1 a2 : PyData, ds = [a0, a1, a2] ∧ (X_small [a0, a1] x fo ∨ (R_need_small [a0, a1] .none ∧ ((noNum 0 60 a2 ∧ x = "BadNumber" ∧ fo = some (("n" : Str), a2)))))
def X_next_letters (ds : List PyData) (x : Str) (fo : Option (Str × PyData)) : Prop := ∃ a0 a1 a2 : PyData, ds = [a0, a1, a2] ∧ (X_mask [a1] x fo ∨ (R_need_mask [a1] .none ∧ (X_row_in [a0, a2] x fo)))
def X_weak_letters (ds : List PyData) (x : Str) (fo : Option (Str × PyData)) : Prop := ∃ a0 a1 a2 : PyData, ds = [a0, a1, a2] ∧ (X_mask [a1] x fo ∨ (R_need_mask [a1] .none ∧ (X_row_in [a0, a2] x fo)))
def X_mend (ds : List PyData) (x : Str) (fo : Option (Str × PyData)) : Prop := ∃ a0 a1 a2 : PyData, ds = [a0, a1, a2] ∧ (X_mask [a1] x fo ∨ (R_need_mask [a1] .none ∧ (X_row_in [a0, a2] x fo)))
def X_farthest (ds : List PyData) (x : Str) (fo : Option (Str × PyData)) : Prop := ∃ a0 a1 a2 : PyData, ds = [a0, a1, a2] ∧ (X_small [a1, a2] x fo ∨ (R_need_small [a1, a2] .none ∧ (X_row_in [a0, a2] x fo)))
def X_ring_views (ds : List PyData) (x : Str) (fo : Option (Str × PyData)) : Prop := ∃ a0 a1 : PyData, ds = [a0, a1] ∧ (X_need_ring [a0] x fo ∨ (R_need_ring [a0] .none ∧ (X_mask [a1] x fo)))
def X_ring_tells (ds : List PyData) (x : Str) (fo : Option (Str × PyData)) : Prop := ∃ a0 a1 : PyData, ds = [a0, a1] ∧ (X_need_ring [a0] x fo ∨ (R_need_ring [a0] .none ∧ (X_mask [a1] x fo)))
def X_write (ds : List PyData) (x : Str) (fo : Option (Str × PyData)) : Prop := ∃ a0 a1 : PyData, ds = [a0, a1] ∧ (X_mask [a0] x fo ∨ (R_need_mask [a0] .none ∧ (X_row [a1] x fo)))
def X_least_masks (ds : List PyData) (x : Str) (fo : Option (Str × PyData)) : Prop := ∃ a0 a1 : PyData, ds = [a0, a1] ∧ (X_row [a0] x fo ∨ (R_need_row [a0] .none ∧ ((noNum 1 9 a1 ∧ x = "BadNumber" ∧ fo = some (("n" : Str), a1)))))
def X_need_far (ds : List PyData) (x : Str) (fo : Option (Str × PyData)) : Prop := ∃ a0 a1 a2 : PyData, ds = [a0, a1, a2] ∧ (X_small [a0, a1] x fo ∨ (R_need_small [a0, a1] .none ∧ ((noNum 1 12 a2 ∧ x = "BadNumber" ∧ fo = some (("n" : Str), a2)))))
def X_apart_rows (ds : List PyData) (x : Str) (fo : Option (Str × PyData)) : Prop := ∃ a0 a1 a2 : PyData, ds = [a0, a1, a2] ∧ (X_need_far [a0, a1, a2] x fo)
def X_joined (ds : List PyData) (x : Str) (fo : Option (Str × PyData)) : Prop := ∃ a0 a1 : PyData, ds = [a0, a1] ∧ (X_mask [a0] x fo ∨ (R_need_mask [a0] .none ∧ (X_need_views [a0, a1, nn 60] x fo)))
def X_first_clash (ds : List PyData) (x : Str) (fo : Option (Str × PyData)) : Prop := ∃ a0 a1 : PyData, ds = [a0, a1] ∧ (X_mask [a0] x fo ∨ (R_need_mask [a0] .none ∧ (X_need_views [a0, a1, nn 60] x fo)))
def X_rows_from (ds : List PyData) (x : Str) (fo : Option (Str × PyData)) : Prop := ∃ a0 a1 : PyData, ds = [a0, a1] ∧ (X_mask [a0] x fo ∨ (R_need_mask [a0] .none ∧ (X_need_views [a0, a1, nn 60] x fo ∨ (R_need_views [a0, a1, nn 60] .none ∧ ((∃ (t : Bool) (xs : List PyData), a1 = seqD t xs ∧ 7 < xs.length ∧ x = "TooMany" ∧ fo = some (("most" : Str), nn 7)))))))
def X_sure_from (ds : List PyData) (x : Str) (fo : Option (Str × PyData)) : Prop := ∃ a0 a1 : PyData, ds = [a0, a1] ∧ (X_mask [a0] x fo ∨ (R_need_mask [a0] .none ∧ (X_need_views [a0, a1, nn 60] x fo ∨ (R_need_views [a0, a1, nn 60] .none ∧ ((∃ (t : Bool) (xs : List PyData), a1 = seqD t xs ∧ 7 < xs.length ∧ x = "TooMany" ∧ fo = some (("most" : Str), nn 7)))))))
def X_best_masks (ds : List PyData) (x : Str) (fo : Option (Str × PyData)) : Prop := ∃ a0 a1 a2 : PyData, ds = [a0, a1, a2] ∧ ((noNum 1 12 a0 ∧ x = "BadNumber" ∧ fo = some (("n" : Str), a0)) ∨ ((∃ i : Int, a0 = .int i ∧ 1 ≤ i ∧ i ≤ 12) ∧ ((noNum 1 12 a1 ∧ x = "BadNumber" ∧ fo = some (("n" : Str), a1)) ∨ ((∃ i : Int, a1 = .int i ∧ 1 ≤ i ∧ i ≤ 12) ∧ (X_letters [a2] x fo ∨ (R_need_letters [a2] .none ∧ ((∃ (i j : Int) (n : Nat), a0 = .int i ∧ a1 = .int j ∧ a2 = nn n ∧ 1 ≤ n ∧ n ≤ 4 ∧ (decide (([12, 8, 5, 4].getD (n - 1) 0 : Nat) < j) || decide (([12, 4, 2, 1].getD (n - 1) 0 : Nat) < i)) = true ∧ x = "TooGreat" ∧ fo = none))))))))
end HW
set_option maxHeartbeats 4000000
namespace HW
open PySem PySem.Spec PyProof.Rows L2
open SX (S)
/-! ### text * number, none too -/
theorem o_mulZ {X : Cx} {l : List Nat} {n : Nat} (h : l.length * n ≤ 16777216) (h2 : n ≤ 1000000000) : OpD X (binaryOp .Mult) (.str (S l)) (nn n) (.str (S (List.replicate n l).flatten)) := by
  rcases Nat.eq_zero_or_pos n with h0 | h1
  · subst h0
    intro pins s σ H x y v u Q I rx ry q
    obtain ⟨L, _, ha, hb, k⟩ := q
    cases ha; cases hb
    obtain ⟨t, rfl⟩ := rx
    obtain ⟨t', rfl⟩ := ry
    exact P.mul_str_none (by decide) (by decide) ⟨.str _, H, I.tok _, ⟨_, rfl⟩, k _ _ (Same.refl _) (.str _)⟩
  · exact o_mulS h h1 h2
theorem rep_one (c q : Nat) : (List.replicate q [c]).flatten = List.replicate q c := by
  induction q with
  | zero => rfl
  | succ q ih => rw [List.replicate_succ, List.flatten_cons, ih]; rfl
/-! ### law 10 -/
def R_call10 (ds : List PyData) (x : Str) (fo : Option (Str × PyData)) : Prop := ∃ (k : Nat) (m l r : PyData), ds = [nn k, m, l, r] ∧ k < 9 ∧ (k < 4 → X_small [m, l] x fo) ∧ (k = 4 → X_count_rows [m, l, .none] x fo) ∧ (k = 5 → X_farthest [r, m, l] x fo) ∧ (6 ≤ k → X_next_letters [r, m, l] x fo)
abbrev wLet : PyData := sD [108, 101, 116, 116, 101, 114, 115]
abbrev wGreat : PyData := sD [103, 114, 101, 97, 116]
abbrev wRow : PyData := sD [114, 111, 119]
abbrev wNum : PyData := sD [110, 117, 109, 98, 101, 114]
abbrev wMask : PyData := sD [109, 97, 115, 107]
abbrev wView : PyData := sD [118, 105, 101, 119]
def R_refused10 (ds : List PyData) (d : PyData) : Prop := ∃ (x : Str) (fo : Option (Str × PyData)), R_call10 ds x fo ∧ ((x = "BadLetters" ∧ d = wLet) ∨ (x = "TooGreat" ∧ d = wGreat) ∨ (x = "BadRow" ∧ d = wRow) ∨ (x = "BadNumber" ∧ d = wNum))
def R_best10 (ds : List PyData) (d : PyData) : Prop := ∃ (x : Str) (fo : Option (Str × PyData)), X_best_masks ds x fo ∧ ((x = "BadNumber" ∧ ∃ v, fo = some (("n" : Str), v) ∧ d = .list [v]) ∨ (x = "BadLetters" ∧ d = wLet) ∨ (x = "TooGreat" ∧ d = wGreat))
end HW
set_option maxHeartbeats 4000000
namespace HW
open PySem PySem.Spec PyProof.Rows L2
open SX (S)
/-! ### how far a row can be made longer -/
def farL (m : List Nat) (n : Nat) (r : List Nat) : Nat → List (List Nat)
  | 0 => [r]
  | j + 1 => nextL m n (farL m n r j)
theorem next_sub {m : List Nat} {n : Nat} {as bs : List (List Nat)} (h : as.Sublist bs) : (nextL m n as).Sublist (nextL m n bs) := by
  unfold nextL
  induction h with
  | slnil => exact List.Sublist.slnil
  | cons b h ih => rw [List.flatMap_cons]; exact List.sublist_append_of_sublist_right ih
  | cons_cons a h ih => rw [List.flatMap_cons, List.flatMap_cons]; exact List.Sublist.append (List.Sublist.refl _) ih
theorem far_sub {m : List Nat} {n : Nat} {r : List Nat} (hm : 1 ≤ m.length) (hn : n ≤ 4) (hl : lowL n r) (ht : tellsB r m = true) : ∀ j, (farL m n r j).Sublist (lev m n (r.length + j))
  | 0 => List.singleton_sublist.mpr ((mem_lev hm hn).mpr ⟨rfl, hl, ht⟩)
  | j + 1 => next_sub (far_sub hm hn hl ht j)
theorem far_mem {m : List Nat} {n : Nat} {r : List Nat} (hm : 1 ≤ m.length) (hn : n ≤ 4) (hl : lowL n r) (ht : tellsB r m = true) {j : Nat} {x : List Nat} (h : x ∈ farL m n r j) : x.length = r.length + j ∧ lowL n x ∧ tellsB x m = true :=
  (mem_lev hm hn).mp ((far_sub hm hn hl ht j).subset h)
theorem far_len {m : List Nat} {n : Nat} {r : List Nat} (hs : Small m n) (hl : lowL n r) (ht : tellsB r m = true) (j : Nat) : (farL m n r j).length ≤ 8388608 :=
  Nat.le_trans (far_sub hs.pos hs.hi hl ht j).length_le (hs.len _)
theorem least_of {p : Nat → Prop} : ∀ n, p n → ∃ k, k ≤ n ∧ p k ∧ ∀ j, j < k → ¬ p j := by
  intro n
  induction n using Nat.strongRecOn with
  | _ n ih =>
    intro h
    by_cases q : ∃ j, j < n ∧ p j
    · obtain ⟨j, hj, pj⟩ := q
      obtain ⟨k, hk, pk, hl⟩ := ih j hj pj
      exact ⟨k, by omega, pk, hl⟩
    · exact ⟨n, Nat.le_refl _, h, fun j hj pj => q ⟨j, hj, pj⟩⟩
theorem told_len {m : List Nat} {n : Nat} {r : List Nat} (hs : Small m n) (hl : lowL n r) (ht : tellsB r m = true) : r.length + 1 ≤ 16 + m.length :=
  hs.top fun e => by
    have : r ∈ lev m n r.length := (mem_lev hs.pos hs.hi).mpr ⟨rfl, hl, ht⟩
    rw [e] at this
    cases this
theorem far_ex {m : List Nat} {n : Nat} {r : List Nat} (hs : Small m n) (hl : lowL n r) (ht : tellsB r m = true) : ∃ T, (1 ≤ T ∧ T + r.length ≤ 16 + m.length) ∧ farL m n r T = [] ∧ ∀ j, j < T → farL m n r j ≠ [] := by
  have hr := told_len hs hl ht
  have h0 : farL m n r (16 + m.length - r.length) = [] := by
    have h := (far_sub hs.pos hs.hi hl ht (16 + m.length - r.length)).length_le
    have e : r.length + (16 + m.length - r.length) = 16 + m.length := by omega
    rw [e, hs.ends] at h
    exact List.length_eq_zero_iff.mp (Nat.le_zero.mp h)
  obtain ⟨T, hT, h1, h2⟩ := least_of (p := fun T => farL m n r T = []) _ h0
  refine ⟨T, ⟨?_, by omega⟩, h1, h2⟩
  rcases Nat.eq_zero_or_pos T with e | e
  · subst e
    exact absurd h1 (List.cons_ne_nil _ _)
  · exact e
noncomputable def farT (m : List Nat) (n : Nat) (r : List Nat) : Nat := by
  classical exact if h : ∃ T, (1 ≤ T ∧ T + r.length ≤ 16 + m.length) ∧ farL m n r T = [] ∧ ∀ j, j < T → farL m n r j ≠ [] then Classical.choose h else 0
theorem farT_spec {m : List Nat} {n : Nat} {r : List Nat} (hs : Small m n) (hl : lowL n r) (ht : tellsB r m = true) : (1 ≤ farT m n r ∧ farT m n r + r.length ≤ 16 + m.length) ∧ farL m n r (farT m n r) = [] ∧ ∀ j, j < farT m n r → farL m n r j ≠ [] := by
  have h := far_ex hs hl ht
  unfold farT
  rw [dif_pos h]
  exact Classical.choose_spec h
noncomputable def farD (m : List Nat) (n : Nat) (r : List Nat) : PyData := if tellsB r m = true then .int ((r.length + farT m n r : Nat) - 1 : Int) else .none
def R_next_letters (ds : List PyData) (d : PyData) : Prop := ∃ (l m : List Nat) (n : Nat), ds = [sD l, sD m, nn n] ∧ 1 ≤ n ∧ n ≤ 4 ∧ rowB l = true ∧ lowL n l ∧ maskB m = true ∧ d = sD ((letL n).filter fun c => tellsB (l ++ [c]) m)
def R_farthest (ds : List PyData) (d : PyData) : Prop := ∃ (l m : List Nat) (n : Nat), ds = [sD l, sD m, nn n] ∧ Small m n ∧ rowB l = true ∧ lowL n l ∧ d = farD m n l
def R_law_far (ds : List PyData) (d : PyData) : Prop := ∃ (l m : List Nat) (n : Nat), ds = [sD l, sD m, sD (letL n)] ∧ Small m n ∧ l.length ≤ 4000 ∧ lowL n l ∧ d = farD m n l
def R_refused9 (ds : List PyData) (d : PyData) : Prop := ∃ (q : Nat) (v : PyData), ds = [nn q, .none, sD [120], v] ∧ q < 2 ∧ noNum 1 4 v ∧ d = .bool true
theorem shp_farD (m : List Nat) (n : Nat) (r : List Nat) : Shp 0 (farD m n r) := by
  unfold farD
  split
  · exact Shp.int
  · exact Shp.non
/-! ### slices whose bound is drawn -/
def rAnyS (X : Cx) : V → Option Int → Option Int → Hp → VK → Prop := fun v l u H Q => ∃ d z, SlD X d l u z ∧ rDs X.K d l u z v l u H Q
theorem rAnyS.ok {X : Cx} : L2.SlR X (rAnyS X) := fun pins s σ H x v vl vu lo hi sl Q I rx hs pl pu ⟨d, z, h, q⟩ => h pins s σ H x v vl vu lo hi sl Q I rx hs pl pu q
section
variable {X : Cx} {W : Wd} {Γ : List DV} {μ : Mu} {a lo hi : Expr} {p2 pos : Pos} {A C : PyData → Prop} {U L : Int → Prop}
theorem ev_slU (ha : Ev X W Γ μ a A) (hu : Ev X W Γ μ hi (fun d => ∃ z, d = .int z ∧ U z)) (hz : ∀ x z, A x → U z → ∃ y, C y ∧ SlD X x none (some z) y) : Ev X W Γ μ (.Subscript a (.Slice none (some hi) none p2) pos) C := fun σ H R Q q => by
  refine (pe_slice rAnyS.ok wE.pe po_none (po_some wE.pe)).w (ha σ H R _ fun v d H2 R2 e2 r2 pa => hu σ H2 R2 _ fun v3 d3 H3 R3 e3 r3 p3 => ?_)
  obtain ⟨z, rfl, pz⟩ := p3
  cases r3
  obtain ⟨y, cy, hs⟩ := hz d z pa pz
  exact ⟨z, rfl, d, y, hs, rfl, rfl, hd W μ, R3.ne, r2.up e3, fun v' H5 s5 r5 => q v' y H5 (R3.same s5) ((e2.trans e3).trans (XT.same s5)) r5 cy⟩
theorem ev_slL (ha : Ev X W Γ μ a A) (hu : Ev X W Γ μ lo (fun d => ∃ z, d = .int z ∧ L z)) (hz : ∀ x z, A x → L z → ∃ y, C y ∧ SlD X x (some z) none y) : Ev X W Γ μ (.Subscript a (.Slice (some lo) none none p2) pos) C := fun σ H R Q q => by
  refine (pe_slice rAnyS.ok wE.pe (po_some wE.pe) po_none).w (ha σ H R _ fun v d H2 R2 e2 r2 pa => hu σ H2 R2 _ fun v3 d3 H3 R3 e3 r3 p3 => ?_)
  obtain ⟨z, rfl, pz⟩ := p3
  cases r3
  obtain ⟨y, cy, hs⟩ := hz d z pa pz
  exact ⟨z, rfl, d, y, hs, rfl, rfl, hd W μ, R3.ne, r2.up e3, fun v' H5 s5 r5 => q v' y H5 (R3.same s5) ((e2.trans e3).trans (XT.same s5)) r5 cy⟩
/-- text[:e] -/
theorem ev_slT {l : List Nat} (ha : Ed X W Γ μ a (sD l)) (hl : l.length ≤ 16777216) (hu : Ev X W Γ μ hi (fun d => ∃ q : Nat, d = nn q)) : Ev X W Γ μ (.Subscript a (.Slice none (some hi) none p2) pos) (fun z => ∃ q : Nat, z = sD (l.take q)) :=
  ev_slU (A := fun z => z = sD l) (U := fun z => ∃ q : Nat, z = (q : Int)) ha.ev (hu.imp fun d ⟨q, e⟩ => ⟨_, e, q, rfl⟩) fun x z ex ⟨q, ez⟩ => by
    subst ex
    subst ez
    exact ⟨_, ⟨q, rfl⟩, s_strT q hl⟩
end
end HW
set_option maxHeartbeats 4000000
namespace HW
open PySem PySem.Spec PyProof.Rows L2
open SX (S)
/-! ### tuple * number: none and one, too -/
theorem tmul_one (l : Addr) (items : Array Value) (n : Nat) (dd : Option Addr) (sl : Array (Option Value)) (u : Tok) :
    Meets (Builtin.«tuple.__mul__» ⟨[.ref l, .int 1 u], []⟩) (fun _ R s => s.heap.get? l = some { cls := .type "tuple", dict := dd, data := .seq items n, slots := sl } ∧ R (.ok (.ret (.ref l))) s) :=
  .of_wp fun prog w A R s hyp => by
    obtain ⟨h0, g0, d0, t0, o0⟩ := s
    obtain ⟨hl, hq⟩ := hyp
    have f1 := AutoSeq1.idx_int
    have c1 : (items.isEmpty || (1 : Int) == 1) = true := by simp
    wp_walk using wpAny_loadPart' hl
    exact ⟨_, rfl, hq⟩
theorem tmul_none (l : Addr) (items : Array Value) (n : Nat) (dd : Option Addr) (sl : Array (Option Value)) (u : Tok) (hi : items.isEmpty = false) :
    Meets (Builtin.«tuple.__mul__» ⟨[.ref l, .int 0 u], []⟩) (fun _ R s => s.heap.get? l = some { cls := .type "tuple", dict := dd, data := .seq items n, slots := sl } ∧ R (.ok (.ret (Value.ref s.heap.objs.size))) { s with heap := s.heap.push { cls := Value.type "tuple", data := Data.seq #[] }, toks := s.toks }) :=
  .of_wp fun prog w A R s hyp => by
    obtain ⟨h0, g0, d0, t0, o0⟩ := s
    obtain ⟨hl, hq⟩ := hyp
    have f1 := AutoSeq1.idx_int
    have c1 : (items.isEmpty || (0 : Int) == 1) = false := by rw [hi]; rfl
    wp_walk using wpAny_loadPart' hl
    exact ⟨_, rfl, hq⟩
/-- the multiplication's road to the two of them -/
theorem tmul_road {X : Cx} {pins : List (Addr × Obj)} {σ : L2.St} {H : Hp} {s : Shared} {a : Addr} {xs : List V} {j : Int} {t : Tok} {Q E : Value → Shared → Prop} (I : Inv X pins σ H s) (hT : SqT X.K H a xs)
    (k : ∀ (items : Array Value) (n : Nat) (dd : Option Addr) (sl : Array (Option Value)), (xs ≠ [] → items.isEmpty = false) → s.heap.get? a = some { cls := .type "tuple", dict := dd, data := .seq items n, slots := sl } →
      wpAny (model X.prog X.w) X.A (call (.builtin "tuple.__mul__") [.ref a, .int j t]) Q E s) : wpAny (model X.prog X.w) X.A (binaryOp .Mult (.ref a) (.int j t)) Q E s := by
  obtain ⟨its, r, ⟨⟨c0, dd, dt, sl⟩, ho, hc, n, he⟩, _⟩ := I.tuple hT
  obtain rfl : c0 = .type "tuple" := hc
  obtain rfl : dt = .seq its.toArray n := he
  refine wpAny_binaryOp_repeat_ref (by decide) ⟨_, ho, rfl⟩ (fun s2 => typeIs_int s2 j t) noFill_tuple_mul F.fills_int_mul F.slot_int_rmul repeat_tuple F.slot_int_index.lookup ?_
  exact call_meets F.slot_int_rmul (typeIs_int s j t) F.entry_int_rmul (F.args_int_rmul_2 _ _) (int_rmul_tuple j t a its.toArray n dd sl) ⟨ho, rfl, ⟨_, ho, rfl⟩, k _ n dd sl (fun hne => by
    cases its with
    | nil => exact absurd (List.length_eq_zero_iff.mp r.length) hne
    | cons y ys => rfl) ho⟩
theorem o_mulT {X : Cx} {ds : List PyData} {j : Int} (hne : ds ≠ []) (h0 : 0 ≤ j) (h1 : j ≤ 1000) (hl : ds.length ≤ 1000) : OpD X (binaryOp .Mult) (.tuple ds) (.int j) (.tuple (List.replicate j.toNat ds).flatten) := by
  by_cases h2 : 2 ≤ j
  · exact OpR.to op_repT fun a b H Q ⟨L, hL, ha, hb, k⟩ => by
      cases hb
      cases ha with
      | tup ha hs =>
        refine ⟨_, _, _, rfl, rfl, SqT.up same_off ha, fun e => hne ?_, h2, h1, by rw [hs.length]; exact hl, fun p hp => k _ _ (same_new hp) (.tup (.inl (.inl (off_upd (new_out hL hp)))) ((vaAll_rep hs _).up (XT.same (same_new hp))))⟩
        have := hs.length
        rw [e] at this
        exact List.length_eq_zero_iff.mp this.symm
  · intro pins s σ H x y v u Q I rx ry ⟨L, hL, ha, hb, k⟩
    cases hb
    cases ha with
    | @tup a xs _ ha hs =>
      cases rx
      obtain ⟨t, rfl⟩ := ry
      have hx : xs ≠ [] := fun e => hne (by
        have := hs.length
        rw [e] at this
        exact List.length_eq_zero_iff.mp this.symm)
      have hj : j = 0 ∨ j = 1 := by omega
      refine tmul_road I (SqT.up same_off ha) fun items n dd sl hi ho => ?_
      rcases hj with rfl | rfl
      · refine call_meets F.slot_tuple_mul ⟨_, ho, rfl⟩ F.entry_tuple_mul (F.args_tuple_mul_2 _ _) (tmul_none a items n dd sl t (hi hx)) ⟨ho, ?_⟩
        have hn : H s.heap.objs.size = none := I.hok.fresh (Nat.le_refl _)
        refine ⟨.ref s.heap.objs.size, _, I.laid (t' := s.toks) (o := .tup []) (fun b ob q => Heap.get?_push_of_some _ q) (Nat.le_refl _) ⟨Nat.zero_le _, _, .nil, IsTup.new _ _⟩, rfl, ?_⟩
        exact k _ _ (same_new hn) (.tup (.inl (.inl (off_upd (new_out hL hn)))) .nil)
      · refine call_meets F.slot_tuple_mul ⟨_, ho, rfl⟩ F.entry_tuple_mul (F.args_tuple_mul_2 _ _) (tmul_one a items n dd sl t) ⟨ho, ?_⟩
        have e : (List.replicate (1 : Int).toNat ds).flatten = ds := by simp
        rw [e] at k
        exact ⟨.ref a, H, I, rfl, k _ _ (Same.refl _) (.tup ha hs)⟩
/-! ### {} as data -/
theorem ed_dict0 {X : Cx} {W : Wd} {Γ : List DV} {μ : Mu} {pos : Pos} : Ed X W Γ μ (.Dict [] [] pos) (.dict []) := fun σ H R Q q =>
  pe_dnewK.w fun l hl => q _ _ (R.same (same_new hl)) (XT.same (same_new hl)) (.dct (off_upd (new_out R.ne hl)))
/-! ### places found -/
theorem mapIdx_rangeG {α : Type} (l : List α) (d : α) : l.mapIdx Prod.mk = (List.range l.length).map fun i => (i, l.getD i d) := by
  apply List.ext_getElem (by simp)
  intro i h1 h2
  simp only [List.getElem_mapIdx, List.getElem_map, List.getElem_range]
  rw [List.getD_eq_getElem?_getD, List.getElem?_eq_getElem (by simpa using h1)]
  rfl
def idxL (ws : List (List Nat)) (p : List Nat → Bool) : List Nat := (List.range ws.length).filter fun i => p (ws.getD i [])
theorem enum_idx (ws : List (List Nat)) (p : List Nat → Bool) : ((ws.mapIdx Prod.mk).filter fun q => p q.2).map (fun q => nn q.1) = (idxL ws p).map nn := by
  rw [mapIdx_rangeG ws [], List.filter_map, List.map_map]
  rfl
theorem idx_low {ws : List (List Nat)} {p : List Nat → Bool} : (idxL ws p).length ≤ ws.length := Nat.le_trans (List.length_filter_le ..) (by simp)
theorem shp_nD (l : List Nat) : Shp 1 (nD l) := Shp.list fun x hx => by
  obtain ⟨i, _, rfl⟩ := List.mem_map.mp hx
  exact Shp.int
def R_find (ds : List PyData) (d : PyData) : Prop := ∃ l m t : List Nat, ds = [sD l, sD m, sD t] ∧ rowB l = true ∧ maskB m = true ∧ lookB m t = true ∧ d = nD (idxL (viewsL l m) fun v => decide (missN v t = 0))
def R_near (ds : List PyData) (d : PyData) : Prop := ∃ (l m t : List Nat) (q : Nat), ds = [sD l, sD m, sD t, nn q] ∧ rowB l = true ∧ maskB m = true ∧ lookB m t = true ∧ q ≤ 12 ∧ d = nD (idxL (viewsL l m) fun v => decide (missN v t ≤ q))
/-! ### law 5 -/
abbrev wFind : PyData := sD [102, 105, 110, 100]
def pre_odd (ds : List PyData) : Prop := ∃ m : List Nat, ds = [sD m] ∧ maskB m = true
def post_odd (ds : List PyData) (d : PyData) : Prop := ∃ m : List Nat, ds = [sD m] ∧ noLook m d
def R_refused5 (ds : List PyData) (d : PyData) : Prop := ∃ (l m : List Nat) (t u : PyData), ds = [sD l, sD m, t, u] ∧ rowB l = true ∧ maskB m = true ∧
  ((u = wFind ∧ noLook m t ∧ d = wView) ∨ (u = .none ∧ noLook m t ∧ d = wView) ∨ ∃ t' : List Nat, t = sD t' ∧ lookB m t' = true ∧ noNum 0 12 u ∧ PyData.eqv u wFind = false ∧ SeqAt.shaped u = true ∧ d = .list [u])
/-! ### what is no list, no tuple -/
theorem run_ok {X : Cx} {W : Wd} {Γ : List DV} {μ : Mu} {sts : List Stmt} {D : Ends} (h : WdOk X.K W → Run X W Γ μ sts D) : Run X W Γ μ sts D := fun σ H R => h R.wd σ H R
section
variable {X : Cx} {W : Wd} {Γ : List DV} {μ : Mu} {e : Expr} {d : PyData} {pos p q1 q2 pt : Pos} {kt : Nat}
theorem ed_isQ (ho : oddQ d) (he : Ed X W Γ μ e d) (hm : X.mg "isinstance" = none) (hm1 : X.mg "list" = none) (hm2 : X.mg "tuple" = none) (hg : Gl X "isinstance" := by rfl) (hg1 : Gl X "list" := by rfl) (hg2 : Gl X "tuple" := by rfl)
    (hs : starEach [e, .Tuple [.Name "list" q1, .Name "tuple" q2] kt pt] X.env = (false, eval e X.env) :: starEach [.Tuple [.Name "list" q1, .Name "tuple" q2] kt pt] X.env := by rfl) (hs2 : starEach [.Tuple [.Name "list" q1, .Name "tuple" q2] kt pt] X.env = (false, eval (.Tuple [.Name "list" q1, .Name "tuple" q2] kt pt) X.env) :: starEach [] X.env := by rfl) (hpl : (backTo pos (starEach [.Tuple [.Name "list" q1, .Name "tuple" q2] kt pt] X.env)).any (·.1) = false := by rfl)
    (hs3 : starEach [.Name "list" q1, .Name "tuple" q2] X.env = (false, eval (.Name "list" q1) X.env) :: starEach [.Name "tuple" q2] X.env := by rfl) (hs4 : starEach [.Name "tuple" q2] X.env = (false, eval (.Name "tuple" q2) X.env) :: starEach [] X.env := by rfl) :
    Ed X W Γ μ (.Call (.Name "isinstance" p) [e, .Tuple [.Name "list" q1, .Name "tuple" q2] kt pt] [] pos) (.bool false) := by
  rcases ho with rfl | ⟨_, rfl⟩ | ⟨_, rfl⟩ | ⟨_, rfl⟩ | rfl <;> exact ed_isi2 he hm hm1 boot_list hm2 boot_tuple (by intro K; rfl) rfl hg hg1 hg2 (by decide) (by decide) (by decide) (by decide) hs hs2 hpl hs3 hs4
end
/-! ### law 18 -/
abbrev wMany : PyData := sD [109, 97, 110, 121]
def R_refused18 (ds : List PyData) (d : PyData) : Prop := ∃ (q : Nat) (m : List Nat) (v : PyData), ds = [nn q, sD m, v] ∧ q < 4 ∧ maskB m = true ∧
  ((∃ i, X_need_views [sD m, v, nn 60] "BadViews" (some (("index" : Str), i)) ∧ d = .list [i]) ∨ (2 ≤ q ∧ ∃ vs : List (List Nat), v = wD vs ∧ 7 < vs.length ∧ vs.length ≤ 60 ∧ (∀ t ∈ vs, lookB m t = true) ∧ d = .list [wMany, nn 7]))
end HW
set_option maxHeartbeats 4000000
namespace HW
open PySem PySem.Spec PyProof.Rows L2
open SX (S)
open PySem.W (dataLt AlikeAll AllAlike Sortable EachIs dataLe alike)
/-! ### sorted(set(..)) over any keys -/
theorem each_pick {β : Type} {R : Value → β → Prop} {ks : List β} : ∀ {vs : List Value}, (∀ v ∈ vs, ∃ b ∈ ks, R v b) → ∃ bs, EachIs R vs bs ∧ ∀ b ∈ bs, b ∈ ks
  | [], _ => ⟨[], .nil, fun b h => nomatch h⟩
  | v :: vs, h => by
    obtain ⟨b, hb, e⟩ := h v List.mem_cons_self
    obtain ⟨bs, g1, g2⟩ := each_pick (vs := vs) fun u hu => h u (List.mem_cons_of_mem _ hu)
    exact ⟨b :: bs, .cons e g1, List.forall_mem_cons.mpr ⟨hb, g2⟩⟩
theorem each_has {β : Type} {R : Value → β → Prop} : ∀ {vs : List Value} {bs : List β}, EachIs R vs bs → ∀ v ∈ vs, ∃ b ∈ bs, R v b
  | _, _, .nil, v, h => nomatch h
  | _, _, .cons h t, v, hv => by
    rcases List.mem_cons.mp hv with e | hv
    · exact ⟨_, List.mem_cons_self, e ▸ h⟩
    · obtain ⟨b, hb, q⟩ := each_has t v hv
      exact ⟨b, List.mem_cons_of_mem _ hb, q⟩
theorem each_len {β : Type} {R : Value → β → Prop} : ∀ {vs : List Value} {bs : List β}, EachIs R vs bs → vs.length = bs.length
  | _, _, .nil => rfl
  | _, _, .cons _ t => congrArg (· + 1) (each_len t)
section
variable {prog : Program} {w : World} {A : Around} {E : Value → Shared → Prop} {s : Shared} {K : Type} [DecidableEq K] {knd : KeyKind prog w K}
/-- what the keys are as data -/
structure EncK (knd : KeyKind prog w K) (enc : K → PyData) : Prop where
  reads : ∀ (h : Heap) (v : Value) (k : K), knd.is k v = true → Reads h v (enc k) []
  depth : ∀ k, (enc k).depth = 0
  alike : ∀ l : List K, AllAlike (l.map enc)
  sortable : ∀ l : List K, Sortable (l.map enc)
  inj : ∀ a b : List K, a.map enc = b.map enc → a = b
theorem sorted_setX {enc : K → PyData} {ks zs : List K} {a : Addr} {Q : Value → Shared → Prop} (T : EncK knd enc) (G : SetG knd s.heap a (fun k => decide (k ∈ ks)) (uq ks).length) (hh : A.handled = none) (hu : A.units + 64 < cLine)
    (hp : zs.Perm (uq ks)) (hlt : zs.Pairwise fun x y => dataLt (enc x) (enc y) = true)
    (hQ : ∀ s2 p (out : List Value) (c : Nat), (∀ b o, s.heap.get? b = some o → s2.heap.get? b = some o) → s2.gens = s.gens → s2.os = s.os → s.heap.objs.size ≤ p → s2.heap.get? p = some (seqObj "list" out.toArray c) →
      EachIs (fun v k => knd.is k v = true) out zs → Q (.ref p) s2) : wpAny (model prog w) A (call (.builtin "sorted") [.ref a]) Q E s := by
  obtain ⟨oa, es, ep, tb, ga, gx, gd, H⟩ := G
  refine Calls.call_function_entry kind_sorted plain_sorted entry_sorted (args_sorted1 _) ?_
  unfold Builtin.«sorted»
  refine wpAny_bind (m := checkCount "sorted" 1 1 _) (wpAny_pure (wpAny_bind (collect_set (A := A.in1) hh ⟨oa, ga, gx.1, gd⟩ H.fits H.few H.walk.1 H.walk.2 fun s1 vs k1 z1 g1 o1 pm => ?_)))
  have lv : vs.length = (uq ks).length := by rw [pm.length_eq, List.length_map, Array.length_toList, H.num]
  obtain ⟨bs, b1, b2⟩ := each_pick (R := fun v k => knd.is k v = true) (ks := ks) (vs := vs) fun v hv => by
    obtain ⟨e, he, q⟩ := List.mem_map.mp (pm.mem_iff.mp hv)
    obtain ⟨⟨k, hk, _⟩, _⟩ := H.els e he
    exact ⟨k, of_decide_eq_true ((H.mem k).mpr ⟨e, he, hk⟩), q ▸ hk⟩
  have pb : bs.Perm (uq ks) := perm_of_len (nodup_uq ks) (fun b hb => by
    obtain ⟨e, he, hk⟩ := (H.mem b).mp (decide_eq_true (mem_uq.mp hb))
    obtain ⟨b', hb', q⟩ := each_has b1 e.2 (pm.mem_iff.mpr (List.mem_map.mpr ⟨e, he, rfl⟩))
    have e9 : b = b' := knd.inj _ _ _ hk q
    rw [e9]
    exact hb') ((each_len b1).symm.trans lv)
  have few : vs.length < scanBound := by rw [pm.length_eq, List.length_map, Array.length_toList]; exact H.few
  have fz := fits_of_scanBound few
  refine wpAny_bind (wpAny_newList ?_ fz)
  have gl : (s1.heap.push (seqObj "list" vs.toArray 0)).get? s1.heap.objs.size = some (seqObj "list" vs.toArray 0) := Heap.get?_push_size _ rfl
  refine wpAny_bind (wpAny_holding (PySem.W.list_sort_data (s := { s1 with heap := s1.heap.push (seqObj "list" vs.toArray 0) }) (bs := bs) (enc := enc) gl b1 (b1.mono fun v b q => ⟨[], T.reads _ v b q, by simp⟩) (T.alike _) (T.sortable _) (by rw [← each_len b1]; exact fz) (fun b hb => ?_) fun out hl eo => ?_))
  · rw [T.depth]
    show A.units + 1 + 1 + 0 < cLine
    omega
  obtain ⟨c, hc⟩ := sortedHeap_at (vs := vs) (out := out.toArray) gl
  have eb : bs.mergeSort (dataLe false enc) = zs := by
    have e1 : (bs.mergeSort (dataLe false enc)).map enc = sortD (bs.map enc) := by
      unfold sortD
      rw [List.map_mergeSort]
      intro _ _ _ _
      rfl
    rw [sortD_of ((pb.trans hp.symm).map enc) (List.pairwise_map.mpr hlt)] at e1
    exact T.inj _ _ e1
  rw [eb] at eo
  refine wpAny_pure ⟨_, rfl, hQ _ s1.heap.objs.size out c (fun b u e => ?_) g1 o1 z1 hc eo⟩
  have q := k1 b u e
  have hs := Heap.lt_size q
  show (sortedHeap (s1.heap.push (seqObj "list" vs.toArray 0)) s1.heap.objs.size vs out.toArray).get? b = some u
  rw [sortedHeap_old (Nat.ne_of_lt hs) (by rw [size_push']; exact Nat.lt_succ_of_lt hs)]
  exact Heap.get?_push_of_some _ q
end
theorem encInt {prog : Program} {w : World} : EncK (PySem.intKind prog w) PyData.int where
  reads := fun h v k q => by
    obtain ⟨t, rfl⟩ := Value.isInt_shape q
    exact .int _ _
  depth := fun _ => rfl
  alike := fun l x hx y hy => by
    obtain ⟨i, _, rfl⟩ := List.mem_map.mp hx
    obtain ⟨j, _, rfl⟩ := List.mem_map.mp hy
    rfl
  sortable := fun l => .inr fun d hd => by
    obtain ⟨i, _, rfl⟩ := List.mem_map.mp hd
    exact ⟨by nofun, fun xs => by nofun⟩
  inj := fun a => by
    induction a with
    | nil => intro b e; cases b with
      | nil => rfl
      | cons y b => cases e
    | cons x a ih => intro b e; cases b with
      | nil => cases e
      | cons y b => rw [List.map_cons, List.map_cons] at e; rw [PyData.int.inj (List.cons.inj e).1, ih b (List.cons.inj e).2]
theorem vals_isInt {P : Program} {w : World} : ∀ {out : List Value} {zs : List Int}, EachIs (fun v k => (PySem.intKind P w).is k v = true) out zs → Vals (zs.map V.int) out
  | _, _, .nil => .nil
  | _, _, .cons e t => by
    obtain ⟨u, rfl⟩ := Value.isInt_shape e
    exact .cons ⟨u, rfl⟩ (vals_isInt t)
/-- sorted(set(ints)), over a list -/
def tSortSetI (K : PySem.W.Frag) (zs : List Int) (ta : TE) : TE := fun σ H Q => ta σ H fun x H1 => ∃ (l : Addr) (ks : List Int), x = .ref l ∧ SqL K H1 l (ks.map V.int) ∧ ks.length ≤ 4000 ∧ zs.Perm (uq ks) ∧ ∀ p, H1 p = none → Q (.ref p) (upd H1 p (.lst (zs.map V.int)))
theorem pe_sortSetI {X : Cx} {a : Expr} {ta : TE} {zs : List Int} {p p2 q pos : Pos} (hlt : zs.Pairwise (· < ·)) (hg : Gl X "sorted") (hm : X.mg "sorted" = none) (hg2 : Gl X "set") (hm2 : X.mg "set" = none) (ha : PE X a ta) (hc : X.calm = true) (hu : X.A.units + 64 < cLine)
    (na : starEach [a] X.env = (false, eval a X.env) :: starEach [] X.env := by rfl) : PE X (.Call (.Name "sorted" p) [.Call (.Name "set" p2) [a] [] q] [] pos) (tSortSetI X.K zs ta) := by
  refine ⟨fun pins s σ H Q I h => Call_ (ld_blt I hg hm boot_sorted (PyProof.Rows.callWith_builtin1 (PyProof.Rows.args_cons ?_ rfl) rfl rfl))⟩
  refine Call_ (ld_blt I hg2 hm2 boot_set (PyProof.Rows.callWith_type1 (PyProof.Rows.args_cons (thn (ha.run pins s σ H _ I h) fun v s1 ⟨x, H1, I1, r1, l, ks, ex, hq, hl, hp, q1⟩ => PyProof.Rows.args_nil ?_) na) na rfl))
  subst ex
  cases r1
  obtain ⟨its, r, pl, hz⟩ := I1.list hq
  have hlen : ks.length = its.toArray.size := by rw [List.size_toArray, ← r.length, List.length_map]
  have hul := len_uq ks
  refine call_setG (knd := PySem.intKind X.prog X.w) (ks := ks) (I1.ok.hd hc) pl.isList hlen (fun i v hv => ?_) (by unfold scanBound; omega) fun h2 tk hS hk => ?_
  · have hv2 : its[i]? = some v := by simpa using hv
    have hi : i < ks.length := by rw [hlen, List.size_toArray]; exact (List.getElem?_eq_some_iff.mp hv2).1
    obtain ⟨u, hu, t, rfl⟩ := r.get (i := i) (x := .int ks[i]) (by rw [List.getElem?_map, List.getElem?_eq_getElem hi]; rfl)
    rw [hv2] at hu
    cases hu
    exact ⟨_, List.getElem?_eq_getElem hi, intKind_is _ _ _ _, rfl⟩
  have I2 : Inv X pins σ H1 { s1 with heap := h2, toks := tk } := I1.kept fun b o e => hk b o (Heap.lt_size e) e
  refine PyProof.Rows.args_nil (sorted_setX encInt hS (I1.ok.hd hc) hu hp (hlt.imp fun {x y} e => by rw [PySem.W.dataLt_int]; exact decide_eq_true e) fun s2 pp out c k g o sz hg he => ?_)
  have hn : H1 pp = none := I2.hok.fresh sz
  have hr : Vals (zs.map V.int) out := vals_isInt he
  have J : Inv X pins σ (upd H1 pp (.lst (zs.map V.int))) { { s1 with heap := h2, toks := tk } with heap := s2.heap, gens := s2.gens, drawn := s2.drawn, toks := s2.toks } :=
    I2.call (ch := []) (Un.laid k sz hn) (I2.hok.laid k sz ⟨by rw [List.length_map, hp.length_eq, sizeLine_eq]; omega, out, c, hr, hg⟩) (by rw [g]; exact I2.bare) (fun _ z => nomatch z)
  have e : s2 = { { s1 with heap := h2, toks := tk } with heap := s2.heap, gens := s2.gens, drawn := s2.drawn, toks := s2.toks } := by
    cases s2
    cases s1
    cases o
    rfl
  rw [e]
  exact ⟨.ref pp, _, J, rfl, q1 pp hn⟩
theorem uq_cast (ws : List Nat) : uq (ws.map fun x : Nat => (x : Int)) = (uq ws).map fun x : Nat => (x : Int) := by
  have key : ∀ (ws acc : List Nat), (ws.map fun x : Nat => (x : Int)).foldl uqS (acc.map fun x : Nat => (x : Int)) = (ws.foldl uqS acc).map fun x : Nat => (x : Int) := by
    intro ws
    induction ws with
    | nil => intro acc; rfl
    | cons x ws ih =>
      intro acc
      rw [List.map_cons, List.foldl_cons, List.foldl_cons, ← ih]
      congr 1
      unfold uqS
      by_cases h : x ∈ acc
      · rw [if_pos h, if_pos (List.mem_map.mpr ⟨x, h, rfl⟩)]
      · rw [if_neg h, if_neg (fun q => by
          obtain ⟨y, hy, e⟩ := List.mem_map.mp q
          have : y = x := by omega
          exact h (this ▸ hy)), List.map_append]
        rfl
  exact key ws []
section
variable {X : Cx} {W : Wd} {Γ : List DV} {μ : Mu} {a : Expr} {p p2 q pos : Pos} {ws zs : List Nat}
/-- sorted(set(numbers)): zs, ascending, the same numbers -/
theorem ed_sortSetN (ha : Ed X W Γ μ a (nD ws)) (hz : zs.Pairwise (· < ·)) (he : ∀ x, x ∈ zs ↔ x ∈ ws) (hm : X.mg "sorted" = none) (hm2 : X.mg "set" = none) (hu : X.A.units + 64 < cLine) (hl : ws.length ≤ 4000) (hc : X.calm = true := by rfl) (hg : Gl X "sorted" := by rfl) (hg2 : Gl X "set" := by rfl)
    (na : starEach [a] X.env = (false, eval a X.env) :: starEach [] X.env := by rfl) : Ed X W Γ μ (.Call (.Name "sorted" p) [.Call (.Name "set" p2) [a] [] q] [] pos) (nD zs) := fun σ H R Q k => by
  refine (pe_sortSetI (zs := zs.map fun x : Nat => (x : Int)) (List.pairwise_map.mpr (hz.imp fun {x y} h => by omega)) hg hm hg2 hm2 wE.pe hc hu na).w (ha σ H R _ fun v H2 R2 e2 r2 => ?_)
  cases r2 with
  | lst hl2 hv =>
    have ev := vaAll_n hv
    have hp : zs.Perm (uq ws) := (List.perm_ext_iff_of_nodup (hz.imp fun {x y} h => by omega) (nodup_uq ws)).mpr fun x => (he x).trans mem_uq.symm
    refine ⟨_, ws.map fun x : Nat => (x : Int), rfl, by rw [← ev]; exact SqL.of (off_some hl2).2, by simpa using hl, by rw [uq_cast]; exact hp.map _, fun pp hpp => ?_⟩
    have sm := same_new (o := .lst ((zs.map fun x : Nat => (x : Int)).map V.int)) hpp
    refine k _ _ (R2.same sm) (e2.trans (XT.same sm)) (.lst (off_upd (new_out R2.ne hpp)) ?_)
    have z := va_ints (K := X.K) (H := off (hd W μ) (upd H2 pp (.lst ((zs.map fun x : Nat => (x : Int)).map V.int)))) (zs.map fun x : Nat => (x : Int))
    rw [List.map_map (f := fun x : Nat => (x : Int)) (g := PyData.int)] at z
    exact z
end
/-! ### masks laid together -/
def togP (a b : List Nat) (q : Nat) : List Nat := seenL a ++ (seenL b).map (q + ·)
def maxP (l : List Nat) : Nat := l.foldl Nat.max 0
theorem maxP_spec (l : List Nat) : (∀ x ∈ l, x ≤ maxP l) ∧ (l ≠ [] → maxP l ∈ l) := by
  have key : ∀ (l : List Nat) (a : Nat), (a ≤ l.foldl Nat.max a ∧ ∀ x ∈ l, x ≤ l.foldl Nat.max a) ∧ (l.foldl Nat.max a = a ∨ l.foldl Nat.max a ∈ l) := by
    intro l
    induction l with
    | nil => intro a; exact ⟨⟨Nat.le_refl _, fun x h => nomatch h⟩, .inl rfl⟩
    | cons y l ih =>
      intro a
      rw [List.foldl_cons]
      obtain ⟨⟨h1, h2⟩, h3⟩ := ih (Nat.max a y)
      have e1 : a ≤ Nat.max a y := Nat.le_max_left _ _
      have e2 : y ≤ Nat.max a y := Nat.le_max_right _ _
      refine ⟨⟨Nat.le_trans e1 h1, fun x hx => ?_⟩, ?_⟩
      · rcases List.mem_cons.mp hx with e | hx
        · rw [e]; exact Nat.le_trans e2 h1
        · exact h2 x hx
      · rcases h3 with h3 | h3
        · rw [h3]
          rcases Nat.le_total a y with q | q
          · rw [show Nat.max a y = y from Nat.max_eq_right q]
            exact .inr List.mem_cons_self
          · rw [show Nat.max a y = a from Nat.max_eq_left q]
            exact .inl rfl
        · exact .inr (List.mem_cons_of_mem _ h3)
  obtain ⟨⟨_, h2⟩, h3⟩ := key l 0
  refine ⟨h2, fun hne => ?_⟩
  rcases h3 with h3 | h3
  · cases l with
    | nil => exact absurd rfl hne
    | cons y l =>
      have q := h2 y List.mem_cons_self
      rw [h3] at q
      have e : maxP (y :: l) = y := by
        show (y :: l).foldl Nat.max 0 = y
        omega
      rw [e]
      exact List.mem_cons_self
  · exact h3
def togL (a b : List Nat) (q : Nat) : List Nat := maskOf (togP a b q) (maxP (togP a b q))
def R_together (ds : List PyData) (d : PyData) : Prop := ∃ (a b : List Nat) (q : Nat), ds = [sD a, sD b, nn q] ∧ maskB a = true ∧ maskB b = true ∧ q + b.length ≤ 12 ∧ d = sD (togL a b q)
def R_seen (ds : List PyData) (d : PyData) : Prop := ∃ m : List Nat, ds = [sD m] ∧ maskB m = true ∧ d = nD (seenL m)
theorem togP_mem {a b : List Nat} {q x : Nat} (ha : maskB a = true) (hb : maskB b = true) (hq : q + b.length ≤ 12) (h : x ∈ togP a b q) : x < 12 := by
  have := maskB_len ha
  rcases List.mem_append.mp h with h | h
  · have := mem_seen h
    omega
  · obtain ⟨y, hy, rfl⟩ := List.mem_map.mp h
    have := mem_seen hy
    omega
theorem togP_len {a b : List Nat} {q : Nat} (ha : maskB a = true) (hb : maskB b = true) : (togP a b q).length ≤ 24 := by
  have := maskB_len ha
  have := maskB_len hb
  have := seenL_len a
  have := seenL_len b
  unfold togP
  rw [List.length_append, List.length_map]
  omega
theorem togP_ne {a b : List Nat} {q : Nat} (ha : maskB a = true) : togP a b q ≠ [] := fun e => by
  have := maskB_seen ha
  have h : (togP a b q).length = 0 := by rw [e]; rfl
  unfold togP at h
  rw [List.length_append] at h
  omega
/-- the places in order -/
def ascP (l : List Nat) : List Nat := (List.range (maxP l + 1)).filter fun i => decide (i ∈ l)
theorem ascP_mem {l : List Nat} {x : Nat} : x ∈ ascP l ↔ x ∈ l := by
  unfold ascP
  rw [List.mem_filter, List.mem_range, decide_eq_true_iff]
  exact ⟨fun h => h.2, fun h => ⟨by have := (maxP_spec l).1 x h; omega, h⟩⟩
theorem ascP_lt (l : List Nat) : (ascP l).Pairwise (· < ·) := (List.pairwise_lt_range).filter _
theorem ascP_last {l : List Nat} (h : l ≠ []) : (ascP l).getLast? = some (maxP l) := by
  have hm := (maxP_spec l).2 h
  unfold ascP
  rw [List.range_succ, List.filter_append, List.filter_cons, if_pos (decide_eq_true hm), List.filter_nil]
  simp
theorem tog_seen (a b : List Nat) (q : Nat) : openL (togL a b q) = ascP (togP a b q) := by
  unfold openL ascP togL
  rw [maskOf_len]
  refine List.filter_congr fun i hi => ?_
  have hi' := List.mem_range.mp hi
  unfold maskOf
  rw [List.getD_eq_getElem?_getD, List.getElem?_map, List.getElem?_range hi']
  have e : ∀ z : Nat, (Option.map (fun i => if i ∈ togP a b q then 120 else 46) (some z)).getD 0 = if z ∈ togP a b q then 120 else 46 := fun z => rfl
  rw [Bool.eq_iff_iff, decide_eq_true_iff, decide_eq_true_iff, e]
  by_cases h : i ∈ togP a b q
  · rw [if_pos h]
    exact ⟨fun _ => h, fun _ => rfl⟩
  · rw [if_neg h]
    exact ⟨fun z => by omega, fun z => absurd z h⟩
theorem tog_signs {a b : List Nat} {q c : Nat} (h : c ∈ togL a b q) : c = 46 ∨ c = 120 := by
  unfold togL maskOf at h
  obtain ⟨i, _, e⟩ := List.mem_map.mp h
  split at e
  · exact .inr e.symm
  · exact .inl e.symm
def X_together (ds : List PyData) (x : Str) (fo : Option (Str × PyData)) : Prop := ∃ (a : List Nat) (u v : PyData), ds = [sD a, u, v] ∧ maskB a = true ∧ ((noMask u ∧ x = "BadMask" ∧ fo = none) ∨ ∃ b : List Nat, u = sD b ∧ maskB b = true ∧ noNum 0 (12 - (b.length : Int)) v ∧ x = "BadNumber" ∧ fo = some (("n" : Str), v))
/-! ### law 2 -/
def post_oddM (ds : List PyData) (d : PyData) : Prop := ds = [] ∧ noMask d
def R_refused2 (ds : List PyData) (d : PyData) : Prop := ∃ (a : List Nat) (u v : PyData), ds = [sD a, u, v] ∧ maskB a = true ∧ ((noMask u ∧ d = .list [wMask]) ∨ ∃ b : List Nat, u = sD b ∧ maskB b = true ∧ noNum 0 (12 - (b.length : Int)) v ∧ d = .list [v])
end HW
set_option maxHeartbeats 4000000
namespace HW
open PySem PySem.Spec PyProof.Rows L2
open SX (S)
open PySem.W (dataLt AlikeAll AllAlike Sortable EachIs dataLe alike)
/-! ### a local dict becomes data: locked -/
abbrev fkD (kvs : List (Key × PyData)) : PyData := dkD (kvs.map fun p => (kD p.1, p.2))
theorem kv_vals {K : PySem.W.Frag} {H : Hp} {κ : Type} : ∀ {ks : List (κ × V)} {kvs : List (κ × PyData)}, KvR K H ks kvs → VaAll K H (ks.map (·.2)) (kvs.map (·.2)) ∧ ks.map (·.1) = kvs.map (·.1)
  | _, _, .nil => ⟨.nil, rfl⟩
  | _, _, .cons h t => by
    obtain ⟨h1, h2⟩ := kv_vals t
    exact ⟨.cons h.2 h1, by rw [List.map_cons, List.map_cons, h.1, h2]⟩
theorem zip_kv {α : Type} (f : α → PyData) : ∀ l : List (α × PyData), l.map (fun p => (f p.1, p.2)) = (l.map fun p => f p.1).zip (l.map (·.2))
  | [] => rfl
  | p :: l => by rw [List.map_cons, List.map_cons, List.map_cons, List.zip_cons_cons, zip_kv f l]
section
variable {X : Cx} {W : Wd} {Γ : List DV} {μ : Mu} {sts : List Stmt} {D : Ends} {l : Addr}
theorem Rep.lockK {K : PySem.W.Frag} {H : Hp} {σ : L2.St} {m : MO} {od : Obj} {u : HO} {d : PyData} {i : Nat} (R : Rep K W Γ ((l, m) :: μ) σ H) (hi : Γ[i]? = some (.r l)) (hd' : l ∉ hd W μ → Va K (off (hd W μ) (upd H l (.frz od u))) (.ref l) d) : Rep K W (Γ.set i (.d d)) μ σ (upd H l (.frz od u)) := by
  obtain ⟨h0, hm⟩ := R.mu _ List.mem_cons_self
  have nd := R.nd
  rw [List.map_cons] at nd
  obtain ⟨n1, n2⟩ := List.nodup_cons.mp nd
  have nl : l ∉ hd W μ := fun q => by
    rcases List.mem_append.mp q with z | z
    · exact R.wd.hid l z h0
    · exact n1 z
  have sub : Same (off (hd W ((l, m) :: μ)) H) (off (hd W μ) (upd H l (.frz od u))) := fun a o e => by
    obtain ⟨e1, e2⟩ := off_some e
    have na : a ≠ l := fun z => e1 (List.mem_append_right _ (by rw [z, List.map_cons]; exact List.mem_cons_self))
    rw [off_out (fun z => by
      rcases List.mem_append.mp z with z | z
      · exact e1 (List.mem_append_left _ z)
      · exact e1 (List.mem_append_right _ (by rw [List.map_cons]; exact List.mem_cons_of_mem _ z))), upd_ne na]
    exact e2
  obtain ⟨o, e1, e2⟩ := R.sl.at_ i _ hi
  obtain rfl : o = some (.ref l) := e2
  have s2 := (R.sl.up sub).set i (hd' nl)
  have es : σ.set i (some (.ref l)) = σ := by
    apply List.ext_getElem?
    intro k
    by_cases q : k = i
    · subst q
      rw [List.getElem?_set_self (List.getElem?_eq_some_iff.mp e1).1, e1]
    · rw [List.getElem?_set_ne (Ne.symm q)]
  rw [es] at s2
  refine ⟨R.wd, ⟨fun a o n e => ?_, fun r scr ns e => ?_⟩, s2, fun p hp => ⟨(R.mu p (List.mem_cons_of_mem _ hp)).1, (R.mu p (List.mem_cons_of_mem _ hp)).2.up sub fun o z => ?_⟩, n2⟩
  · have na : a ≠ l := fun z => by rw [z, h0] at e; cases e
    rw [upd_ne na]
    exact R.fr.keep a o n e
  · obtain ⟨i', s', q', z1, z2⟩ := R.fr.row r scr ns e
    have na : r ≠ l := fun z => R.wd.hid r (R.wd.row _ _ _ e).1 (z ▸ h0)
    exact ⟨i', s', q', by rw [upd_ne na]; exact z1, z2⟩
  · have na : p.1 ≠ l := fun e => n1 (by rw [← e]; exact List.mem_map.mpr ⟨p, hp, rfl⟩)
    rw [upd_ne na]
    exact z
/-- a local dict that is only read from now on -/
theorem run_frzK {kvs : List (Key × PyData)} (i : Nat) (h : Run X W (Γ.set i (.d (fkD kvs))) μ sts D) (hi : Γ[i]? = some (.r l) := by rfl) : Run X W Γ ((l, .dK kvs) :: μ) sts D := fun σ H R pins s I => by
  obtain ⟨h0, ks, hk, hv⟩ := R.mu _ List.mem_cons_self
  obtain ⟨od, I2⟩ := I.lock hk trivial
  refine h σ _ (R.lockK (od := od) (u := .dK ks) hi fun nl => ?_) pins s I2
  obtain ⟨v1, v2⟩ := kv_vals hv
  have sub : Same (off (hd W ((l, .dK kvs) :: μ)) H) (off (hd W μ) (upd H l (.frz od (.dK ks)))) := fun a o e => by
    obtain ⟨e1, e2⟩ := off_some e
    have na : a ≠ l := fun z => e1 (List.mem_append_right _ (by rw [z, List.map_cons]; exact List.mem_cons_self))
    rw [off_out (fun z => by
      rcases List.mem_append.mp z with z | z
      · exact e1 (List.mem_append_left _ z)
      · exact e1 (List.mem_append_right _ (by rw [List.map_cons]; exact List.mem_cons_of_mem _ z))), upd_ne na]
    exact e2
  refine .dcf (by rw [off_out nl, upd_same]) (v1.up sub) ?_
  rw [zip_kv kD kvs]
  congr 1
  have z := congrArg (List.map kD) v2
  rw [List.map_map, List.map_map] at z
  exact z.symm
end
section
variable {X : Cx} {W : Wd} {Γ : List DV} {μ : Mu} {tg e : Expr} {apos cpos : Pos} {kvs : List (Key × PyData)}
theorem fk_of {K : PySem.W.Frag} {H : Hp} {v : V} (h : Va K H v (fkD kvs)) : ∃ (a : Addr) (o : Obj) (ks : List (Key × V)), v = .ref a ∧ H a = some (.frz o (.dK ks)) ∧ VaAll K H (ks.map (·.2)) (kvs.map (·.2)) ∧ ks.map (fun p => kD p.1) = kvs.map (fun p => kD p.1) := by
  cases h with
  | @dcf a o ks ds kvs' h1 h2 h3 =>
    have hl : (ks.map fun p => kD p.1).length = ds.length := by rw [List.length_map, ← h2.length, List.length_map]
    rw [zip_kv kD kvs] at h3
    have hl2 : (kvs.map fun p => kD p.1).length = (kvs.map (·.2)).length := by rw [List.length_map, List.length_map]
    have e1 := congrArg (List.map Prod.fst) h3
    have e2 := congrArg (List.map Prod.snd) h3
    rw [List.map_fst_zip (by omega), List.map_fst_zip (by omega)] at e1
    rw [List.map_snd_zip (by omega), List.map_snd_zip (by omega)] at e2
    exact ⟨a, o, ks, rfl, h1, e2 ▸ h2, e1.symm⟩
/-- .values() of a locked dict -/
theorem it_fvals (he : Ed X W Γ μ e (fkD kvs)) (hbase : attributeBase e "values" X.env (eval e X.env) = eval e X.env := by rfl) (hline : (apos.endLine == cpos.line) = true := by rfl) : IterD X W Γ μ tg (.Call (.Attribute e "values" apos) [] [] cpos) (fun y => y) (kvs.map (·.2)) :=
  ⟨_, pi_values wE.pe hbase hline, fun σ H R R' k => he σ H R _ fun v H1 R1 e1 r1 => by
    obtain ⟨a, o, ks, rfl, h1, h2, h3⟩ := fk_of r1
    have hl : ks.length = kvs.length := by
      have := h2.length
      rw [List.length_map, List.length_map] at this
      exact this
    refine ⟨a, o, ks, rfl, (off_some h1).2, k _ _ H1 rfl R1 e1 ⟨fun i H hi s => ⟨s a _ h1, by rw [List.length_map, List.length_map] at hi; omega⟩, fun i d H v H' L hd _ s y => ?_, fun H s => ⟨s a _ h1, by rw [List.length_map, List.length_map]; omega⟩⟩⟩
    obtain ⟨rfl, key, hy⟩ := y
    refine ⟨Same.refl _, ?_⟩
    rw [List.map_id'] at hd
    obtain ⟨v2, z1, z2⟩ := h2.at hd
    rw [List.getElem?_map, hy] at z1
    cases z1
    exact z2.up s⟩
/-- the keys of a locked dict -/
theorem it_fkeys (he : Ed X W Γ μ e (fkD kvs)) : IterD X W Γ μ tg e (fun y => y) (kvs.map fun p => kD p.1) :=
  ⟨_, pi_keys wE.pe, fun σ H R R' k => he σ H R _ fun v H1 R1 e1 r1 => by
    obtain ⟨a, o, ks, rfl, h1, h2, h3⟩ := fk_of r1
    refine ⟨a, o, rfl, .inl ⟨ks, (off_some h1).2, k _ _ H1 rfl R1 e1 ⟨fun i H hi s => ⟨s a _ h1, ?_⟩, fun i d H v H' L hd _ s y => ?_, fun H s => ⟨s a _ h1, ?_⟩⟩⟩⟩
    · rw [List.map_id', ← h3, List.length_map] at hi
      exact hi
    · obtain ⟨rfl, key, u, hy, rfl⟩ := y
      refine ⟨Same.refl _, ?_⟩
      rw [List.map_id', ← h3, List.getElem?_map, hy] at hd
      cases hd
      cases key with
      | inl i => exact .int i
      | inr x => exact .str x
    · rw [List.map_id', ← h3, List.length_map]
      exact Nat.le_refl _⟩
end
/-! ### d.get(k, other) of a local dict -/
section
variable {X : Cx} {W : Wd} {Γ : List DV} {μ : Mu} {e f : Expr} {pos p apos : Pos} {n : Str} {l : Addr} {kvs : List (Key × PyData)} {k : Key} {d : PyData}
theorem ed_dget2 (i j : Nat) (hu : X.A.units + 64 < cLine) (he : Ed X W Γ μ e (kD k)) (hf : Ed X W Γ μ f d) (hi : Γ[i]? = some (.r l) := by rfl) (hj : μ[j]? = some (l, .dK kvs) := by rfl) (hN : X.N[i]? = some n := by rfl) (hv : Vis X.env.scope n := by first | exact Or.inl rfl | exact Or.inr (Or.inl rfl) | exact Or.inr (Or.inr rfl))
    (h1 : (n == ("__debug__" : Str)) = false := by decide) (h2 : (n == ("__classdict__" : Str)) = false := by decide) (m : M2 X (.Name n p) "get" apos e f pos := by exact ⟨rfl, rfl, rfl, rfl⟩) :
    Ed X W Γ μ (.Call (.Attribute (.Name n p) "get" apos) [e, f] [] pos) ((vK kvs k).getD d) := fun σ H R Q q => by
  refine (pe_dget2 (by omega) (pe_var hN hv h1 h2) wE.pe wE.pe m).w ?_
  obtain ⟨o, g1, g2⟩ := R.sl.at_ i _ hi
  obtain rfl : o = some (.ref l) := g2
  obtain ⟨ks0, hk0, _⟩ := (R.mu _ (List.mem_of_getElem? hj)).2
  refine ⟨_, g1, l, rfl, .inl ⟨ks0, .inl hk0⟩, he σ H R _ fun v H2 R2 e2 r2 => hf σ H2 R2 _ fun u H3 R3 e3 r3 => ?_⟩
  obtain ⟨ks, hk, hp⟩ := (R3.mu _ (List.mem_of_getElem? hj)).2
  obtain rfl := va_key r2
  refine ⟨valV ks k, DGet.k hk, ?_⟩
  rcases kv_val k hp with ⟨z1, z2⟩ | ⟨v', d', z1, z2, z3⟩
  · rw [z1]
    rw [z2] at q
    exact q _ H3 R3 (e2.trans e3) r3
  · rw [z1]
    rw [z2] at q
    exact q _ H3 R3 (e2.trans e3) z3
end
/-! ### list.index with a start -/
section
variable {X : Cx} {W : Wd} {Γ : List DV} {μ : Mu} {o e f : Expr} {apos pos : Pos} {ws : List (List Nat)} {w : List Nat} {j st : Nat}
def rIdxFrom (K : PySem.W.Frag) : V → List V → Hp → VK → Prop := fun x xs H Q => ∃ (a : Addr) (ys : List V) (y : V) (st j : Nat) (z : V), x = V.ref a ∧ xs = [y, V.int (st : Nat)] ∧ SqL K H a ys ∧ flatV y = true ∧ ys.all flatV = true ∧ st ≤ j ∧ ys[j]? = some z ∧ eqV z y = true ∧
  (∀ (m : Nat) (z' : V), st ≤ m → m < j → ys[m]? = some z' → eqV z' y = false) ∧ Q (.int (j : Nat)) H
theorem mt_idxFrom : MtR X "list.index" (rIdxFrom X.K) := fun pins s σ H x xs v us Q I rx rxs => by
  rintro ⟨a, ys, y, st, j, z, rfl, rfl, hs, fy, fys, hst, hz, hzj, hno, q⟩
  cases rx
  obtain ⟨its, rv, ⟨⟨cls, dd, data, sl⟩, n, ho, hc, _, hd⟩, hlen⟩ := I.list hs
  obtain rfl : cls = _ := hc
  obtain rfl : data = _ := hd
  cases rxs with
  | @cons _ uy _ ut ry rt =>
    cases rt with
    | @cons _ uz _ ut2 rz rt2 =>
      cases rt2
      obtain ⟨tk, rfl⟩ := rz
      obtain ⟨u, hu, ru⟩ := rv.get hz
      have hjl := (List.getElem?_eq_some_iff.mp hu).1
      have hvl := rv.length
      have hsl := sizeLine_eq
      have get (m : Nat) (hm : m < its.toArray.size) : ∃ z', ys[m]? = some z' ∧ eqU y its.toArray[m] = eqV z' y := by
        have hml : m < its.length := by simpa using hm
        have hy' : ys[m]? = some ys[m] := List.getElem?_eq_getElem (by omega)
        obtain ⟨u2, hu2, ru2⟩ := rv.get hy'
        have e1 : its.toArray[m] = u2 := by simpa using (List.getElem?_eq_some_iff.mp hu2).2
        exact ⟨_, hy', by rw [e1, eqU_of ru2 (flat_at fys hy')]⟩
      have hj : j < its.toArray.size := by simpa using hjl
      refine call_meets PySem.F.slot_list_index ⟨_, ho, rfl⟩ PySem.F.entry_list_index (PySem.F.args_list_index_3 _ _ _)
        (SeqAt.list_index3_found a its.toArray n dd sl uy (fun m => if h : m < its.toArray.size then eqU y its.toArray[m] else false) st tk j hj (by rw [SeqAt.searchFrom_nat]; exact hst) (by omega) ?_ ?_) ⟨ho, fun m hm => ?_, .int (j : Nat), H, I.tok _, ⟨_, rfl⟩, q⟩
      · obtain ⟨z', h1, h2⟩ := get j hj
        rw [hz] at h1
        cases h1
        show (if h : j < its.toArray.size then eqU y its.toArray[j] else false) = true
        rw [dif_pos hj, h2]
        exact hzj
      · intro m hm h1 h2
        rw [SeqAt.searchFrom_nat] at h1
        obtain ⟨z', h3, h4⟩ := get m hm
        show (if h : m < its.toArray.size then eqU y its.toArray[m] else false) = false
        rw [dif_pos hm, h4]
        exact hno m z' h1 h2 h3
      · show SeqAt.EqAt _ _ its.toArray[m] uy (if h : m < its.toArray.size then eqU y its.toArray[m] else false)
        rw [dif_pos hm]
        exact mem_eqAt ry fy rv fys _ (by simpa using List.getElem_mem (l := its) (by simpa using hm))
theorem ed_indexFrom (ho : Ed X W Γ μ o (wD ws)) (he : Ed X W Γ μ e (sD w)) (hf : Ed X W Γ μ f (nn st)) (hst : st ≤ j) (hj : ws[j]? = some w) (hno : ∀ m, st ≤ m → m < j → ws[m]? ≠ some w)
    (hbase : attributeBase o "index" X.env (eval o X.env) = eval o X.env := by rfl)
    (hfew : ((backTo pos (starEach [e, f] X.env)).all (fun x => !x.1) && (backToKw pos (keywordEach [] X.env)).all (fun x => x.1.isSome)
      && decide ([e, f].length + ([] : List Keyword).length + (if ([] : List Keyword).isEmpty then 0 else 1) < 30)) = true := by rfl)
    (hline : (apos.endLine == pos.line) = true := by rfl) (hs : starEach [e, f] X.env = (false, eval e X.env) :: starEach [f] X.env := by rfl) (hs2 : starEach [f] X.env = (false, eval f X.env) :: starEach [] X.env := by rfl) (hplain : (backTo pos (starEach [f] X.env)).any (·.1) = false := by rfl) :
    Ed X W Γ μ (.Call (.Attribute o "index" apos) [e, f] [] pos) (nn j) := fun σ H R Q q => by
  refine (pe_bm PySem.F.plainAttrs_list PySem.F.slot_list_index PySem.F.type_list_index mt_idxFrom wE.pe (pa_cons wE.pe (pa_cons wE.pe pa_nil hs2) hs) hbase hfew hline hs hplain).w (ho σ H R _ fun v H2 R2 e2 r2 => ?_)
  cases r2 with
  | lst ha hv =>
    refine ⟨.inl ⟨rfl, _, SqL.of (off_some ha).2⟩, he σ H2 R2 _ fun u H3 R3 e3 r3 => hf σ H3 R3 _ fun u4 H4 R4 e4 r4 => ?_⟩
    cases r3
    cases r4
    obtain rfl := vaAll_S hv
    have same {m : Nat} {z : V} (hz : ((ws.map S).map V.str)[m]? = some z) : ∃ u, ws[m]? = some u ∧ z = V.str (S u) := by
      rw [List.getElem?_map, List.getElem?_map] at hz
      cases em : ws[m]? with
      | none => rw [em] at hz; cases hz
      | some u => rw [em] at hz; cases hz; exact ⟨u, rfl, rfl⟩
    refine ⟨_, _, _, st, j, V.str (S w), rfl, rfl, SqL.of (off_some (e4 _ _ (e3 _ _ ha))).2, rfl, flat_S ws, hst, ?_, ?_, fun m z h1 h2 hz => ?_, q _ H4 R4 ((e2.trans e3).trans e4) (.int _)⟩
    · rw [List.getElem?_map, List.getElem?_map, hj]
      rfl
    · rw [eqV_S]
      exact decide_eq_true rfl
    · obtain ⟨u, hu, rfl⟩ := same hz
      rw [eqV_S]
      exact decide_eq_false fun eu => hno m h1 h2 (by rw [hu, eu])
end
/-! ### like views -/
section
variable (ws : List (List Nat))
abbrev wAt (i : Nat) : List Nat := ws.getD i []
def firstB (i : Nat) : Bool := (List.range i).all fun j => decide (wAt ws j ≠ wAt ws i)
def plcN (n : Nat) (v : List Nat) : List Nat := (List.range n).filter fun j => decide (wAt ws j = v)
abbrev tupN (l : List Nat) : PyData := .tuple (l.map nn)
def grpK (n : Nat) : List (Key × PyData) := ((List.range n).filter (firstB ws)).map fun i => (kS (wAt ws i), tupN (plcN ws n (wAt ws i)))
theorem plc_succ (n : Nat) (v : List Nat) : plcN ws (n + 1) v = plcN ws n v ++ (if wAt ws n = v then [n] else []) := by
  unfold plcN
  rw [List.range_succ, List.filter_append]
  congr 1
  by_cases h : wAt ws n = v
  · rw [if_pos h, List.filter_cons, if_pos (decide_eq_true h), List.filter_nil]
  · rw [if_neg h, List.filter_cons, if_neg (by simpa using h), List.filter_nil]
theorem first_iff {i : Nat} : firstB ws i = true ↔ ∀ j, j < i → wAt ws j ≠ wAt ws i := by
  unfold firstB
  rw [List.all_eq_true]
  exact ⟨fun h j hj => of_decide_eq_true (h j (List.mem_range.mpr hj)), fun h j hj => decide_eq_true (h j (List.mem_range.mp hj))⟩
theorem first_ex {n j : Nat} (hj : j < n) : ∃ i, i ≤ j ∧ firstB ws i = true ∧ wAt ws i = wAt ws j := by
  obtain ⟨i, h1, h2, h3⟩ := least_of (p := fun i => wAt ws i = wAt ws j) j rfl
  exact ⟨i, h1, (first_iff ws).mpr fun k hk e => h3 k hk (e.trans h2), h2⟩
theorem grp_mem {n : Nat} {kv : Key × PyData} (h : kv ∈ grpK ws n) : ∃ i, i < n ∧ firstB ws i = true ∧ kv = (kS (wAt ws i), tupN (plcN ws n (wAt ws i))) := by
  unfold grpK at h
  obtain ⟨i, hi, e⟩ := List.mem_map.mp h
  obtain ⟨h1, h2⟩ := List.mem_filter.mp hi
  exact ⟨i, List.mem_range.mp h1, h2, e.symm⟩
theorem grp_get (n : Nat) (v : List Nat) : (vK (grpK ws n) (kS v)).getD (.tuple []) = tupN (plcN ws n v) := by
  unfold vK
  cases e : (grpK ws n).find? fun kv => decide (kv.1 = kS v) with
  | some kv =>
    have h1 := List.find?_some e
    obtain ⟨i, hi, hf, rfl⟩ := grp_mem ws (List.mem_of_find?_eq_some e)
    have : wAt ws i = v := kS_inj (of_decide_eq_true h1)
    show tupN _ = tupN _
    rw [this]
  | none =>
    rw [List.find?_eq_none] at e
    have : plcN ws n v = [] := by
      unfold plcN
      rw [List.filter_eq_nil_iff]
      intro j hj hd
      have hj := List.mem_range.mp hj
      obtain ⟨i, h1, h2, h3⟩ := first_ex ws (n := n) hj
      have := e (kS (wAt ws i), tupN (plcN ws n (wAt ws i))) (List.mem_map.mpr ⟨i, List.mem_filter.mpr ⟨List.mem_range.mpr (by omega), h2⟩, rfl⟩)
      exact this (decide_eq_true (by rw [h3, of_decide_eq_true hd]))
    rw [this]
    rfl
theorem grp_put (n : Nat) : pK (grpK ws n) (kS (wAt ws n)) (tupN (plcN ws n (wAt ws n) ++ [n])) = grpK ws (n + 1) := by
  have hs : plcN ws (n + 1) (wAt ws n) = plcN ws n (wAt ws n) ++ [n] := by rw [plc_succ, if_pos rfl]
  have hne : ∀ i, wAt ws i ≠ wAt ws n → plcN ws (n + 1) (wAt ws i) = plcN ws n (wAt ws i) := fun i h => by rw [plc_succ, if_neg (fun e => h e.symm), List.append_nil]
  unfold pK
  by_cases hf : firstB ws n = true
  · rw [if_neg]
    · unfold grpK
      rw [List.range_succ, List.filter_append, List.filter_cons, if_pos hf, List.filter_nil, List.map_append]
      congr 1
      · refine List.map_congr_left fun i hi => ?_
        have hi := List.mem_range.mp (List.mem_filter.mp hi).1
        rw [hne i ((first_iff ws).mp hf i hi)]
      · rw [List.map_cons, List.map_nil, hs]
    · rw [List.any_eq_true]
      rintro ⟨kv, hkv, hd⟩
      obtain ⟨i, hi, _, rfl⟩ := grp_mem ws hkv
      exact (first_iff ws).mp hf i hi (kS_inj (of_decide_eq_true hd))
  · have hf' : firstB ws n = false := by simpa using hf
    obtain ⟨j, hj, hjn⟩ : ∃ j, j < n ∧ wAt ws j = wAt ws n := Classical.byContradiction fun q => hf ((first_iff ws).mpr fun j hj e => q ⟨j, hj, e⟩)
    obtain ⟨i, h1, h2, h3⟩ := first_ex ws (n := n) hj
    rw [if_pos]
    · unfold grpK
      rw [List.range_succ, List.filter_append, List.filter_cons, if_neg hf, List.filter_nil, List.append_nil, List.map_map]
      refine List.map_congr_left fun i hi => ?_
      show (if (kS (wAt ws i) : Key) = kS (wAt ws n) then _ else _) = _
      by_cases e : wAt ws i = wAt ws n
      · rw [if_pos (by rw [e]), e, hs]
        show ((kS (wAt ws i) : Key), _) = _
        rw [e]
      · rw [if_neg (fun q => e (kS_inj q)), hne i e]
    · rw [List.any_eq_true]
      exact ⟨_, List.mem_map.mpr ⟨i, List.mem_filter.mpr ⟨List.mem_range.mpr (by omega), h2⟩, rfl⟩, decide_eq_true (by rw [h3, hjn])⟩
theorem grp_len (n : Nat) : (grpK ws n).length ≤ n := by
  unfold grpK
  rw [List.length_map]
  exact Nat.le_trans (List.length_filter_le ..) (by simp)
theorem plc_len (n : Nat) (v : List Nat) : (plcN ws n v).length ≤ n := Nat.le_trans (List.length_filter_le ..) (by simp)
theorem plc_head {n i : Nat} (hi : i < n) (hf : firstB ws i = true) : ∃ r, plcN ws n (wAt ws i) = i :: r := by
  have e : List.range n = List.range i ++ i :: (List.range (n - i - 1)).map (i + 1 + ·) := by
    have e1 : n = i + (n - i - 1 + 1) := by omega
    have e2 := List.range_add (n := i) (m := n - i - 1 + 1)
    rw [← e1, List.range_succ_eq_map] at e2
    rw [e2, List.map_cons, List.map_map]
    congr 2
    refine List.map_congr_left fun x _ => ?_
    show i + (x + 1) = i + 1 + x
    omega
  unfold plcN
  rw [e, List.filter_append, List.filter_cons, if_pos (decide_eq_true rfl)]
  have : (List.range i).filter (fun j => decide (wAt ws j = wAt ws i)) = [] := by
    rw [List.filter_eq_nil_iff]
    intro j hj hd
    exact (first_iff ws).mp hf j (List.mem_range.mp hj) (of_decide_eq_true hd)
  rw [this]
  exact ⟨_, rfl⟩
/-- the groups -/
def isGrp (n i : Nat) : Bool := firstB ws i && decide (1 < (plcN ws n (wAt ws i)).length)
def grpsL (k : Nat) : List PyData := ((List.range k).filter (isGrp ws ws.length)).map fun i => tupN (plcN ws ws.length (wAt ws i))
theorem lt_tup {a b : Nat} {r q : List Nat} (h : a < b) : dataLt (tupN (a :: r)) (tupN (b :: q)) = true := by
  have e1 : tupN (a :: r) = .tuple (nn a :: r.map nn) := rfl
  have e2 : tupN (b :: q) = .tuple (nn b :: q.map nn) := rfl
  rw [e1, e2, PySem.W.dataLt_tuple, PySem.W.dataLt_cons (by simp [alike]), PySem.W.dataLt_int]
  have e : PyData.eqv (nn a) (nn b) = false := by
    show ((a : Int) == (b : Int)) = false
    rw [beq_eq_false_iff_ne]
    omega
  rw [e, if_neg Bool.false_ne_true]
  exact decide_eq_true (by omega)
theorem grps_sorted : sortD (grpsL ws ws.length) = grpsL ws ws.length := by
  refine sortD_of (List.Perm.refl _) ?_
  unfold grpsL
  rw [List.pairwise_map]
  refine (List.Pairwise.filter _ List.pairwise_lt_range).imp_of_mem fun {a b} ha hb h => ?_
  obtain ⟨a1, a2⟩ := List.mem_filter.mp ha
  obtain ⟨b1, b2⟩ := List.mem_filter.mp hb
  unfold isGrp at a2 b2
  rw [Bool.and_eq_true] at a2 b2
  obtain ⟨r, e1⟩ := plc_head ws (List.mem_range.mp a1) a2.1
  obtain ⟨q, e2⟩ := plc_head ws (List.mem_range.mp b1) b2.1
  rw [e1, e2]
  exact lt_tup h
theorem alike_ints : ∀ a b : List Nat, PySem.W.alikeAll (a.map nn) (b.map nn) = true
  | [], [] => by simp [PySem.W.alikeAll]
  | [], _ :: _ => by simp [PySem.W.alikeAll]
  | _ :: _, [] => by simp [PySem.W.alikeAll]
  | x :: a, y :: b => by
    rw [List.map_cons, List.map_cons, PySem.W.alikeAll, alike_ints a b]
    simp [alike]
theorem grps_alike (k : Nat) : AllAlike (grpsL ws k) := fun x hx y hy => by
  obtain ⟨i, _, rfl⟩ := List.mem_map.mp hx
  obtain ⟨j, _, rfl⟩ := List.mem_map.mp hy
  rw [alike]
  exact alike_ints _ _
theorem grps_sortable (k : Nat) (hk : k ≤ ws.length) : Sortable (grpsL ws k) := .inl fun d hd => by
  obtain ⟨i, hi, rfl⟩ := List.mem_map.mp hd
  obtain ⟨h1, h2⟩ := List.mem_filter.mp hi
  unfold isGrp at h2
  rw [Bool.and_eq_true] at h2
  obtain ⟨r, e⟩ := plc_head ws (n := ws.length) (by have := List.mem_range.mp h1; omega) h2.1
  rw [e]
  exact ⟨_, _, rfl⟩
/-! the first like ones -/
def likeJ (i : Nat) : List Nat := (List.range ws.length).filter fun j => decide (i < j) && decide (wAt ws i = wAt ws j)
def likeP : List (Nat × Nat) := (List.range ws.length).flatMap fun i => (likeJ ws i).map fun j => (i, j)
abbrev prN (q : Nat × Nat) : PyData := pr2 (nn q.1) (nn q.2)
def optP : Option (Nat × Nat) → PyData
  | none => .none
  | some q => prN q
/-- all pairs, by the other one -/
def allPr (n : Nat) : List (Nat × Nat) := (List.range n).flatMap fun o => (List.range o).map fun i => (i, o)
theorem mem_allPr {n : Nat} {q : Nat × Nat} : q ∈ allPr n ↔ q.1 < q.2 ∧ q.2 < n := by
  unfold allPr
  rw [List.mem_flatMap]
  constructor
  · rintro ⟨o, ho, h⟩
    obtain ⟨i, hi, rfl⟩ := List.mem_map.mp h
    exact ⟨List.mem_range.mp hi, List.mem_range.mp ho⟩
  · rintro ⟨h1, h2⟩
    exact ⟨q.2, List.mem_range.mpr h2, List.mem_map.mpr ⟨q.1, List.mem_range.mpr h1, rfl⟩⟩
theorem mem_likeP {q : Nat × Nat} : q ∈ likeP ws ↔ q.1 < q.2 ∧ q.2 < ws.length ∧ wAt ws q.1 = wAt ws q.2 := by
  unfold likeP likeJ
  rw [List.mem_flatMap]
  constructor
  · rintro ⟨i, hi, h⟩
    obtain ⟨j, hj, rfl⟩ := List.mem_map.mp h
    obtain ⟨h1, h2⟩ := List.mem_filter.mp hj
    rw [Bool.and_eq_true, decide_eq_true_eq, decide_eq_true_eq] at h2
    exact ⟨h2.1, List.mem_range.mp h1, h2.2⟩
  · rintro ⟨h1, h2, h3⟩
    exact ⟨q.1, List.mem_range.mpr (by omega), List.mem_map.mpr ⟨q.2, List.mem_filter.mpr ⟨List.mem_range.mpr h2, by rw [Bool.and_eq_true, decide_eq_true_eq, decide_eq_true_eq]; exact ⟨h1, h3⟩⟩, rfl⟩⟩
theorem likeP_lt : (likeP ws).Pairwise fun a b => a.1 < b.1 ∨ (a.1 = b.1 ∧ a.2 < b.2) := by
  unfold likeP
  rw [List.pairwise_flatMap]
  refine ⟨fun i _ => ?_, List.pairwise_lt_range.imp fun {i j} h x hx y hy => ?_⟩
  · rw [List.pairwise_map]
    exact (List.Pairwise.filter _ List.pairwise_lt_range).imp fun h => .inr ⟨rfl, h⟩
  · obtain ⟨_, _, rfl⟩ := List.mem_map.mp hx
    obtain ⟨_, _, rfl⟩ := List.mem_map.mp hy
    exact .inl h
theorem allPr_nodup (n : Nat) : (allPr n).Nodup := by
  have h : (allPr n).Pairwise fun a b => a.2 < b.2 ∨ (a.2 = b.2 ∧ a.1 < b.1) := by
    unfold allPr
    rw [List.pairwise_flatMap]
    refine ⟨fun i _ => ?_, List.pairwise_lt_range.imp fun {i j} h x hx y hy => ?_⟩
    · rw [List.pairwise_map]
      exact List.pairwise_lt_range.imp fun h => .inr ⟨rfl, h⟩
    · obtain ⟨_, _, rfl⟩ := List.mem_map.mp hx
      obtain ⟨_, _, rfl⟩ := List.mem_map.mp hy
      exact .inl h
  exact h.imp fun {a b} h e => by subst e; omega
theorem like_sorted : sortD (((allPr ws.length).filter fun q => decide (wAt ws q.1 = wAt ws q.2)).map prN) = (likeP ws).map prN := by
  refine sortD_of (List.Perm.map _ ?_) ?_
  · refine (List.perm_ext_iff_of_nodup ((allPr_nodup _).filter _) ((likeP_lt ws).imp fun {a b} h e => by subst e; omega)).mpr fun q => ?_
    rw [List.mem_filter, mem_allPr, mem_likeP, decide_eq_true_eq]
    exact ⟨fun h => ⟨h.1.1, h.1.2, h.2⟩, fun h => ⟨⟨h.1, h.2.1⟩, h.2.2⟩⟩
  · rw [List.pairwise_map]
    refine (likeP_lt ws).imp fun {a b} h => ?_
    show dataLt (.tuple [.int a.1, .int a.2]) (.tuple [.int b.1, .int b.2]) = true
    rw [PySem.W.dataLt_ii]
    exact decide_eq_true (by omega)
theorem like_head {i j : Nat} (hi : i < ws.length) (hb : ∀ i', i' < i → likeJ ws i' = []) (h : (likeJ ws i).head? = some j) : (likeP ws).head? = some (i, j) := by
  have e : List.range ws.length = List.range i ++ i :: (List.range (ws.length - i - 1)).map (i + 1 + ·) := by
    have e1 : ws.length = i + (ws.length - i - 1 + 1) := by omega
    have e2 := List.range_add (n := i) (m := ws.length - i - 1 + 1)
    rw [← e1, List.range_succ_eq_map] at e2
    rw [e2, List.map_cons, List.map_map]
    congr 2
    refine List.map_congr_left fun x _ => ?_
    show i + (x + 1) = i + 1 + x
    omega
  unfold likeP
  rw [e, List.flatMap_append, List.flatMap_cons]
  have : (List.range i).flatMap (fun i => (likeJ ws i).map fun j => (i, j)) = [] := by
    rw [List.flatMap_eq_nil_iff]
    intro i' hi'
    rw [hb i' (List.mem_range.mp hi')]
    rfl
  rw [this, List.nil_append]
  cases e3 : likeJ ws i with
  | nil => rw [e3] at h; cases h
  | cons a t =>
    rw [e3] at h
    cases h
    rfl
theorem like_none (h : ∀ i, i < ws.length → likeJ ws i = []) : likeP ws = [] := by
  unfold likeP
  rw [List.flatMap_eq_nil_iff]
  intro i hi
  rw [h i (List.mem_range.mp hi)]
  rfl
end
def R_alike (ds : List PyData) (d : PyData) : Prop := ∃ l m : List Nat, ds = [sD l, sD m] ∧ rowB l = true ∧ maskB m = true ∧ d = optP (likeP (viewsL l m)).head?
def R_groups (ds : List PyData) (d : PyData) : Prop := ∃ l m : List Nat, ds = [sD l, sD m] ∧ rowB l = true ∧ maskB m = true ∧ d = .list (grpsL (viewsL l m) (viewsL l m).length)
end HW
set_option maxHeartbeats 4000000
namespace HW
open PySem PySem.Spec PyProof.Rows L2
section
variable {ws : List (List Nat)} {z : List Nat} {i : Nat}
theorem wAt_of (h : ws[i]? = some z) : wAt ws i = z := by
  show ws.getD i [] = z
  rw [List.getD_eq_getElem?_getD, h]
  rfl
theorem like_hit (hz : ws[i]? = some z) (h : z ∈ ws.drop (i + 1)) : ∃ j, i + 1 ≤ j ∧ ws[j]? = some z ∧ (∀ m, i + 1 ≤ m → m < j → ws[m]? ≠ some z) ∧ (likeJ ws i).head? = some j := by
  obtain ⟨n, hn⟩ := List.mem_iff_getElem?.mp h
  rw [List.getElem?_drop] at hn
  obtain ⟨j, _, ⟨h1, h2⟩, h3⟩ := least_of (p := fun j => i + 1 ≤ j ∧ ws[j]? = some z) (i + 1 + n) ⟨by omega, hn⟩
  refine ⟨j, h1, h2, fun m g1 g2 g3 => h3 m g2 ⟨g1, g3⟩, ?_⟩
  have hj := (List.getElem?_eq_some_iff.mp h2).1
  unfold likeJ
  rw [List.head?_filter, List.find?_range_eq_some]
  refine ⟨?_, List.mem_range.mpr hj, fun m hm => ?_⟩
  · rw [wAt_of hz, wAt_of h2, decide_eq_true (by omega : i < j), decide_eq_true rfl]
    rfl
  · by_cases g : i < m
    · have hml : m < ws.length := by omega
      have e : ws[m]? = some ws[m] := List.getElem?_eq_getElem hml
      have : wAt ws i ≠ wAt ws m := by
        rw [wAt_of hz, wAt_of e]
        intro q
        exact h3 m hm ⟨by omega, by rw [e, ← q]⟩
      rw [decide_eq_false this, Bool.and_false]
      rfl
    · rw [decide_eq_false g]
      rfl
theorem like_miss (hz : ws[i]? = some z) (h : z ∉ ws.drop (i + 1)) : likeJ ws i = [] := by
  unfold likeJ
  rw [List.filter_eq_nil_iff]
  intro j hj hd
  have hj := List.mem_range.mp hj
  rw [Bool.and_eq_true, decide_eq_true_eq, decide_eq_true_eq, wAt_of hz] at hd
  have e : ws[j]? = some ws[j] := List.getElem?_eq_getElem hj
  rw [wAt_of e] at hd
  refine h (List.mem_iff_getElem?.mpr ⟨j - (i + 1), ?_⟩)
  rw [List.getElem?_drop, show i + 1 + (j - (i + 1)) = j by omega, e, hd.2]
theorem depth_nn : ∀ l : List Nat, PyData.depthAll (l.map nn) = 0
  | [] => rfl
  | a :: l => by
    rw [List.map_cons]
    show max (PyData.depth (nn a)) (PyData.depthAll (l.map nn)) = 0
    rw [depth_nn l]
    rfl
theorem dep_tupN (l : List Nat) : (tupN l).depth = 1 := by
  rw [PyData.depth, depth_nn]
theorem nod_tupN (l : List Nat) : nod (tupN l) = true := nodAll_map (f := nn) (fun _ => rfl) l
def isLot : PyData → Bool
  | .tuple xs => decide (1 < xs.length)
  | _ => false
theorem grp_vals (ws : List (List Nat)) : ((grpK ws ws.length).map (·.2)).filter isLot = grpsL ws ws.length := by
  unfold grpK grpsL
  rw [List.map_map, List.filter_map, List.filter_filter]
  congr 1
  refine List.filter_congr fun i hi => ?_
  show (decide (1 < ((plcN ws ws.length (wAt ws i)).map nn).length) && firstB ws i) = isGrp ws ws.length i
  unfold isGrp
  rw [List.length_map, Bool.and_comm]
theorem mem_grp {x : PyData} (h : x ∈ (grpK ws ws.length).map (·.2)) : ∃ t : List Nat, x = tupN t ∧ t.length ≤ ws.length := by
  obtain ⟨kv, h1, rfl⟩ := List.mem_map.mp h
  obtain ⟨i, _, _, rfl⟩ := grp_mem ws h1
  exact ⟨_, rfl, plc_len ..⟩
end
end HW
set_option maxHeartbeats 0
namespace Tx
open PySem PySem.Spec PyProof.Rows L2
def top (i : Nat) : Stmt := PySem.Challenge.pw_holedwindows_k03_whole_views.main.body.getD i (.Pass ⟨0, 0, 0, 0⟩)
abbrev s_is_mask : Stmt := top 10
abbrev s_need_mask : Stmt := top 11
abbrev s_is_row : Stmt := top 12
abbrev s_need_row : Stmt := top 13
abbrev s_seen_by : Stmt := top 14
abbrev s_view_by : Stmt := top 16
abbrev s_views_of : Stmt := top 17
abbrev s_views : Stmt := top 18
abbrev s_tells_by : Stmt := top 19
abbrev s_tells : Stmt := top 20
abbrev s_alike : Stmt := top 21
abbrev s_groups : Stmt := top 22
abbrev s_unlike : Stmt := top 23
abbrev s_distance_of : Stmt := top 24
abbrev s_distance : Stmt := top 25
abbrev s__law_taken : Stmt := top 27
abbrev s__law_mask : Stmt := top 28
abbrev s__law_line : Stmt := top 29
abbrev s__law_open : Stmt := top 30
abbrev s__law_views : Stmt := top 31
abbrev s__law_tells : Stmt := top 32
abbrev s__law_unlike : Stmt := top 33
abbrev s_law : Stmt := top 34
def d_is_mask : He.DefD := ⟨("is_mask", none), "is_mask", "is_mask", defArgs s_is_mask, defBody s_is_mask, defScope s_is_mask, [], []⟩
def d_need_mask : He.DefD := ⟨("need_mask", none), "need_mask", "need_mask", defArgs s_need_mask, defBody s_need_mask, defScope s_need_mask, [], []⟩
def d_is_row : He.DefD := ⟨("is_row", none), "is_row", "is_row", defArgs s_is_row, defBody s_is_row, defScope s_is_row, [], []⟩
def d_need_row : He.DefD := ⟨("need_row", none), "need_row", "need_row", defArgs s_need_row, defBody s_need_row, defScope s_need_row, [], []⟩
def d_seen_by : He.DefD := ⟨("seen_by", none), "seen_by", "seen_by", defArgs s_seen_by, defBody s_seen_by, defScope s_seen_by, [], []⟩
def d_view_by : He.DefD := ⟨("view_by", none), "view_by", "view_by", defArgs s_view_by, defBody s_view_by, defScope s_view_by, [], []⟩
def d_views_of : He.DefD := ⟨("views_of", none), "views_of", "views_of", defArgs s_views_of, defBody s_views_of, defScope s_views_of, [], []⟩
def d_views : He.DefD := ⟨("views", none), "views", "views", defArgs s_views, defBody s_views, defScope s_views, [], []⟩
def d_tells_by : He.DefD := ⟨("tells_by", none), "tells_by", "tells_by", defArgs s_tells_by, defBody s_tells_by, defScope s_tells_by, [], []⟩
def d_tells : He.DefD := ⟨("tells", none), "tells", "tells", defArgs s_tells, defBody s_tells, defScope s_tells, [], []⟩
def d_alike : He.DefD := ⟨("alike", none), "alike", "alike", defArgs s_alike, defBody s_alike, defScope s_alike, [], []⟩
def d_groups : He.DefD := ⟨("groups", none), "groups", "groups", defArgs s_groups, defBody s_groups, defScope s_groups, [], []⟩
def d_unlike : He.DefD := ⟨("unlike", none), "unlike", "unlike", defArgs s_unlike, defBody s_unlike, defScope s_unlike, [], []⟩
def d_distance_of : He.DefD := ⟨("distance_of", none), "distance_of", "distance_of", defArgs s_distance_of, defBody s_distance_of, defScope s_distance_of, [], []⟩
def d_distance : He.DefD := ⟨("distance", none), "distance", "distance", defArgs s_distance, defBody s_distance, defScope s_distance, [], []⟩
def d__law_taken : He.DefD := ⟨("_law_taken", none), "_law_taken", "_law_taken", defArgs s__law_taken, defBody s__law_taken, defScope s__law_taken, [], []⟩
def d__law_mask : He.DefD := ⟨("_law_mask", none), "_law_mask", "_law_mask", defArgs s__law_mask, defBody s__law_mask, defScope s__law_mask, [], []⟩
def d__law_line : He.DefD := ⟨("_law_line", none), "_law_line", "_law_line", defArgs s__law_line, defBody s__law_line, defScope s__law_line, [], []⟩
def d__law_open : He.DefD := ⟨("_law_open", none), "_law_open", "_law_open", defArgs s__law_open, defBody s__law_open, defScope s__law_open, [], []⟩
def d__law_views : He.DefD := ⟨("_law_views", none), "_law_views", "_law_views", defArgs s__law_views, defBody s__law_views, defScope s__law_views, [], []⟩
def d__law_tells : He.DefD := ⟨("_law_tells", none), "_law_tells", "_law_tells", defArgs s__law_tells, defBody s__law_tells, defScope s__law_tells, [], []⟩
def d__law_unlike : He.DefD := ⟨("_law_unlike", none), "_law_unlike", "_law_unlike", defArgs s__law_unlike, defBody s__law_unlike, defScope s__law_unlike, [], []⟩
def d_law : He.DefD := ⟨("law", none), "law", "law", defArgs s_law, defBody s_law, defScope s_law, [], []⟩
def fn0 : List He.DefD := [d_is_mask, d_need_mask, d_is_row, d_need_row, d_seen_by, d_view_by, d_views_of, d_views, d_tells_by, d_tells, d_alike, d_groups, d_unlike, d_distance_of, d_distance, d__law_taken, d__law_mask, d__law_line, d__law_open, d__law_views, d__law_tells, d__law_unlike, d_law]
def fn : List He.DefD := fn0
def fa0 : List He.Fa := [.glo "is_mask", .glo "need_mask", .glo "is_row", .glo "need_row", .glo "seen_by", .glo "view_by", .glo "views_of", .glo "views", .glo "tells_by", .glo "tells", .glo "alike", .glo "groups", .glo "unlike", .glo "distance_of", .glo "distance", .glo "_law_taken", .glo "_law_mask", .glo "_law_line", .glo "_law_open", .glo "_law_views", .glo "_law_tells", .glo "_law_unlike", .glo "law", .free "all", .free "enumerate"]
def fa1 : List He.Fa := [.free "int", .free "isinstance", .free "len", .free "min", .free "range", .free "set", .free "sorted", .free "str", .free "tuple", .free "zip", .free "max", .free "any", .free "list", .free "bool", .free "dict", .free "abs", .free "sum", .str "SEEN" "x", .str "HOLE" ".", .str "LETTERS" "abcd", .int "MOST_MASK" 12, .int "MOST_ROW" 60]
def fa : List He.Fa := fa0 ++ fa1
def names0 : List PySem.Str := ["__name__", "SEEN", "HOLE", "LETTERS", "MOST_MASK", "MOST_ROW", "WindowError", "BadMask", "BadRow", "is_mask", "need_mask", "is_row", "need_row", "seen_by", "view_by", "views_of", "views", "tells_by", "tells", "alike", "groups", "unlike", "distance_of", "distance", "_law_taken"]
def names1 : List PySem.Str := ["_law_mask", "_law_line", "_law_open", "_law_views", "_law_tells", "_law_unlike"]
def names : List PySem.Str := names0 ++ names1
abbrev R : PySem.W.OpenRow := PySem.W.OpenLaw.row PySem.Challenge.rw_holedwindows_k03_whole_views
def ex (K : PySem.W.Frag) : Bool := true
abbrev hk : PySem.W.Hook := HX.hookE 4 fa fn ex
def ob (s : PySem.W.SharedT) : HX.AlE := HX.obsE 4 fa fn ex (HandSHeadRun.getT s)
theorem ob_eq (s : PySem.W.SharedT) : ob s = hk.obs s.abs := HX.obsE_eq (HandSHeadRun.getT_eq s)
theorem run (w : World) : HandSHeadRun.RunEq R (PySem.W.view R.prog [34]) hk ob 3000 names w := by
  intro os
  kernel_rfl
end Tx
set_option maxHeartbeats 4000000
namespace HW
open PySem PySem.Spec PyProof.Rows L2 Tx
open SX (S)
section
variable {P : Program} {w : World} {K : PySem.W.Frag} {mg : Str → Option Value} {base : Heap} {f : Addr} {fd : FuncData} {k : Nat}
theorem fd_taken (F : FnP K "_law_taken" s__law_taken f fd) (hint : mg "int" = none) (hlen : mg "len" = none) : FnOk P w K mg base CX0 (k + 1) f fd ["_law_row", "_law_many"] (spW K R_taken_pre R_taken_post) := by
  have sc : FnScope ["_law_row", "_law_many", "_law_found", "_law_cell"] ["_law_row", "_law_many"] (defScope s__law_taken) := ⟨rfl, rfl, rfl, by decide +kernel, rfl, by decide +kernel, by decide +kernel⟩
  refine F.ok sc (fun vs H Q E ⟨M, r, scr, ns, ws, ds, e, _, _, _, _, _, _, hv, ⟨m, e2, _⟩, _⟩ => by rw [e, List.length_cons, hv.length, e2]; rfl) fun cdv A outer s H vs Q E hr ⟨M, r, scr, ns, ws, ds, e, hM, hrM, hR, hS, hne, hns, hv, ⟨m, e2, h0, h1⟩, q⟩ => ?_
  subst e
  subst e2
  cases hv with
  | cons hv1 hv2 =>
  cases hv2
  cases hv1
  obtain ⟨i, sd, rest, hrow, hi0⟩ := hR
  -- the end: r holds whatever it holds
  have fin : ∀ (k : Nat) (i' sd' q' : Int) (H' : Hp), (k : Int) < m → 0 ≤ i' → (∀ a o, a ≠ r → H a = some o → H' a = some o) → H' r = some (.lst [.ref scr, .int i', .int sd', .int q']) → Q (.int (k : Int)) H' := fun k i' sd' q' H' hk hi' keep hr' =>
    q _ H' (.int (k : Int)) ⟨m, k, rfl, rfl, hk⟩ keep ⟨i', sd', q', hr', hi'⟩ (.int _)
  have modk : ∀ z : Int, ∃ k : Nat, z % m = (k : Int) ∧ (k : Int) < m := fun z => ⟨(z % m).toNat, by rw [Int.toNat_of_nonneg (Int.emod_nonneg _ (by omega))], by rw [Int.toNat_of_nonneg (Int.emod_nonneg _ (by omega))]; exact Int.emod_lt_of_pos _ h0⟩
  have sq : ∀ {H' : Hp}, (∀ a o, a ≠ r → H a = some o → H' a = some o) → SqL K H' scr (ns.map V.int) := fun {H'} keep => SqL.up (fun o e => keep scr o hne e) hS
  refine ⟨_, PSs.nox wSs.ps, ?_⟩
  show wSs (cxOf CX0 P w K mg base ["_law_row", "_law_many", "_law_found", "_law_cell"] "_law_taken" (defScope s__law_taken) f cdv A outer s H E).nox _ _ (start _ _) H
  have nd := sc.nd
  have k1 : ∀ {o : HO} (a : Addr) (u : HO), a ≠ r → H a = some u → upd H r o a = some u := fun {o} a u n e => by rw [upd_ne n]; exact e
  refine wSs_cons ((ps_if wT.pt wSs.ps wSs.ps).w (at_cmp (k := decide (0 < rest)) op_gt (at_ix (at_var 0 rfl) at_int (SqL.of hrow) rfl) at_int (fun Q q => ⟨rest, 0, rfl, rfl, q⟩) ?_))
  by_cases hp : 0 < rest
  · rw [decide_eq_true hp]
    obtain ⟨k, ek, hk⟩ := modk rest
    refine iteT (wSs_cons ((ps_set (i := 2) nd rfl (.inl rfl) wE.pe).w (at_op (z := .int (rest % m)) op_mod (at_int1 (at_ix (at_var 0 rfl) at_int (SqL.of hrow) rfl) hint) (at_var 1 rfl) (fun Q q => ⟨rest, m, rfl, rfl, h0, q⟩) _ ?_)))
    refine wSs_cons ((ps_asg wE.pe (pg_sub wE.pe wE.pe set_list)).w (at_op (z := .int (rest / m)) op_fdiv (at_ix (at_var 0 rfl) at_int (SqL.of hrow) rfl) (at_var 1 rfl) (fun Q q => ⟨rest, m, rfl, rfl, ⟨h0, h1⟩, q⟩) _ ?_))
    refine at_k (at_var 0 rfl) (at_k at_int ⟨r, _, 3, 3, rfl, rfl, hrow, rfl, ?_⟩)
    refine wSs_cons ((ps_ret wE.pe).w (at_k (at_var 2 rfl) ?_))
    rw [ek]
    exact fin k i sd (rest / m) _ hk hi0 k1 upd_same
  · rw [decide_eq_false hp]
    refine iteF (pss_nil.w ?_)
    refine wSs_cons ((ps_asg wE.pe (pg_sub wE.pe wE.pe set_list)).w (at_op (z := .int (i + 1)) op_add (at_ix (at_var 0 rfl) at_int (SqL.of hrow) rfl) at_int (fun Q q => ⟨i, 1, rfl, rfl, q⟩) _ ?_))
    refine at_k (at_var 0 rfl) (at_k at_int ⟨r, _, 1, 1, rfl, rfl, hrow, rfl, ?_⟩)
    have hr1 : upd H r (.lst [.ref scr, .int (i + 1), .int sd, .int rest]) r = some (.lst [.ref scr, .int (i + 1), .int sd, .int rest]) := upd_same
    have keep1 : ∀ (a : Addr) (u : HO), a ≠ r → H a = some u → upd H r (.lst [.ref scr, .int (i + 1), .int sd, .int rest]) a = some u := k1
    revert hr1 keep1
    show _ → _ → wSs _ _ _ _ (upd H r (.lst [.ref scr, .int (i + 1), .int sd, .int rest]))
    generalize upd H r (.lst [.ref scr, .int (i + 1), .int sd, .int rest]) = H1
    intro hr1 keep1
    have k2 : ∀ {o : HO} (a : Addr) (u : HO), a ≠ r → H a = some u → upd H1 r o a = some u := fun {o} a u n e => by rw [upd_ne n]; exact keep1 a u n e
    refine wSs_cons ((ps_if wT.pt wSs.ps wSs.ps).w (at_cmp (k := decide (((ns.map V.int).length : Int) < i + 1)) op_gt (at_ix (at_var 0 rfl) at_int (SqL.of hr1) rfl) (at_len (at_ix (at_var 0 rfl) at_int (SqL.of hr1) rfl) (sq keep1) hlen) (fun Q q => ⟨i + 1, _, rfl, rfl, q⟩) ?_))
    by_cases hb : ((ns.map V.int).length : Int) < i + 1
    · rw [decide_eq_true hb]
      refine iteT (wSs_cons ((ps_asg wE.pe (pg_sub wE.pe wE.pe set_list)).w (at_op (z := .int ((sd * 48271 + 11) % 2147483647)) op_mod (at_int1 (at_op (z := .int (sd * 48271 + 11)) op_add (at_op (z := .int (sd * 48271)) op_mul (at_ix (at_var 0 rfl) at_int (SqL.of hr1) rfl) at_int (fun Q q => ⟨sd, 48271, rfl, rfl, .inr (by decide), q⟩)) at_int (fun Q q => ⟨_, 11, rfl, rfl, q⟩)) hint) at_int (fun Q q => ⟨_, 2147483647, rfl, rfl, (by decide : (0 : Int) < 2147483647), q⟩) _ ?_)))
      refine at_k (at_var 0 rfl) (at_k at_int ⟨r, _, 2, 2, rfl, rfl, hr1, rfl, ?_⟩)
      obtain ⟨k, ek, hk⟩ := modk ((sd * 48271 + 11) % 2147483647 / 7)
      refine wSs_cons ((ps_ret wE.pe).w (at_op (z := .int ((sd * 48271 + 11) % 2147483647 / 7 % m)) op_mod (at_int1 (at_op (z := .int ((sd * 48271 + 11) % 2147483647 / 7)) op_fdiv (at_ix (at_var 0 rfl) at_int (SqL.of upd_same) rfl) at_int (fun Q q => ⟨_, 7, rfl, rfl, ⟨by decide, by decide⟩, q⟩)) hint) (at_var 1 rfl) (fun Q q => ⟨_, m, rfl, rfl, h0, q⟩) _ ?_))
      rw [ek]
      exact fin k (i + 1) _ rest _ hk (by omega) k2 upd_same
    · rw [decide_eq_false hb]
      refine iteF (pss_nil.w ?_)
      obtain ⟨c, hc⟩ : ∃ c : Int, atI (ns.map V.int) (i + 1 - 1) = some (.int c) := by
        have hl : i.toNat < ns.length := by
          rw [List.length_map] at hb
          omega
        refine ⟨ns[i.toNat], at_nat (n := i.toNat) (by omega) ?_⟩
        rw [List.getElem?_map, List.getElem?_eq_getElem hl]
        rfl
      refine wSs_cons ((ps_set (i := 3) nd rfl (.inl rfl) wE.pe).w (at_ix (at_ix (at_var 0 rfl) at_int (SqL.of hr1) rfl) (at_op (z := .int (i + 1 - 1)) op_sub (at_ix (at_var 0 rfl) at_int (SqL.of hr1) rfl) at_int (fun Q q => ⟨i + 1, 1, rfl, rfl, q⟩)) (sq keep1) hc (by exact fun _ _ => rfl) _ ?_))
      refine wSs_cons ((ps_asg wE.pe (pg_sub wE.pe wE.pe set_list)).w (at_op (z := .int ((sd * 48271 + c + 11) % 2147483647)) op_mod (at_int1 (at_op (z := .int (sd * 48271 + c + 11)) op_add (at_op (z := .int (sd * 48271 + c)) op_add (at_op (z := .int (sd * 48271)) op_mul (at_ix (at_var 0 rfl) at_int (SqL.of hr1) rfl) at_int (fun Q q => ⟨sd, 48271, rfl, rfl, .inr (by decide), q⟩)) (at_var 3 rfl) (fun Q q => ⟨_, c, rfl, rfl, q⟩)) at_int (fun Q q => ⟨_, 11, rfl, rfl, q⟩)) hint) at_int (fun Q q => ⟨_, 2147483647, rfl, rfl, (by decide : (0 : Int) < 2147483647), q⟩) _ ?_))
      refine at_k (at_var 0 rfl) (at_k at_int ⟨r, _, 2, 2, rfl, rfl, hr1, rfl, ?_⟩)
      have hr2 : upd H1 r (.lst [.ref scr, .int (i + 1), .int ((sd * 48271 + c + 11) % 2147483647), .int rest]) r = some (.lst [.ref scr, .int (i + 1), .int ((sd * 48271 + c + 11) % 2147483647), .int rest]) := upd_same
      have keep2 : ∀ (a : Addr) (u : HO), a ≠ r → H a = some u → upd H1 r (.lst [.ref scr, .int (i + 1), .int ((sd * 48271 + c + 11) % 2147483647), .int rest]) a = some u := k2
      revert hr2 keep2
      show _ → _ → wSs _ _ _ _ (upd H1 r (.lst [.ref scr, .int (i + 1), .int ((sd * 48271 + c + 11) % 2147483647), .int rest]))
      generalize upd H1 r (.lst [.ref scr, .int (i + 1), .int ((sd * 48271 + c + 11) % 2147483647), .int rest]) = H2
      intro hr2 keep2
      have k3 : ∀ {o : HO} (a : Addr) (u : HO), a ≠ r → H a = some u → upd H2 r o a = some u := fun {o} a u n e => by rw [upd_ne n]; exact keep2 a u n e
      obtain ⟨k, ek, hk⟩ := modk c
      refine wSs_cons ((ps_if wT.pt wSs.ps wSs.ps).w (at_cmp (k := decide ((10 : Int) ^ (18 : Int).toNat ≤ c)) op_ge (at_var 3 rfl) (at_op (z := .int ((10 : Int) ^ (18 : Int).toNat)) op_pow at_int at_int (fun Q q => ⟨10, 18, rfl, rfl, ⟨by decide, by decide, by decide⟩, q⟩)) (fun Q q => ⟨c, _, rfl, rfl, q⟩) ?_))
      have out : ∀ (q' : Int) (H' : Hp), (∀ a o, a ≠ r → H a = some o → H' a = some o) → H' r = some (.lst [.ref scr, .int (i + 1), .int ((sd * 48271 + c + 11) % 2147483647), .int q']) →
          wSs (cxOf CX0 P w K mg base ["_law_row", "_law_many", "_law_found", "_law_cell"] "_law_taken" (defScope s__law_taken) f cdv A outer s H E).nox ((defBody s__law_taken).drop 6) { nx := fun x H' => Q .non H', rt := Q } [some (.ref r), some (.int m), none, some (.int c)] H' := fun q' H' keep hr' => by
        refine wSs_cons ((ps_ret wE.pe).w (at_op (z := .int (c % m)) op_mod (at_int1 (at_var 3 rfl) hint) (at_var 1 rfl) (fun Q q => ⟨c, m, rfl, rfl, h0, q⟩) _ ?_))
        rw [ek]
        exact fin k (i + 1) _ q' _ hk (by omega) keep hr'
      by_cases hg : (10 : Int) ^ (18 : Int).toNat ≤ c
      · rw [decide_eq_true hg]
        refine iteT (wSs_cons ((ps_asg wE.pe (pg_sub wE.pe wE.pe set_list)).w (at_op (z := .int (c / m)) op_fdiv (at_var 3 rfl) (at_var 1 rfl) (fun Q q => ⟨c, m, rfl, rfl, ⟨h0, h1⟩, q⟩) _ ?_)))
        refine at_k (at_var 0 rfl) (at_k at_int ⟨r, _, 3, 3, rfl, rfl, hr2, rfl, ?_⟩)
        exact pss_nil.w (out (c / m) _ k3 upd_same)
      · rw [decide_eq_false hg]
        exact iteF (pss_nil.w (out rest _ keep2 hr2))
theorem fd_law_mask (F : FnP K "_law_mask" s__law_mask f fd) (hrng : mg "range" = none) (F1 : DRAW P w K mg base k) : FnOk P w K mg base CX0 (k + 1) f fd ["_law_row", "_law_width"] (spW K pre_mask post_mask) := by
  have sc : FnScope ["_law_row", "_law_width", "_law_many", "_law_at"] ["_law_row", "_law_width"] (defScope s__law_mask) := ⟨rfl, rfl, rfl, by decide +kernel, rfl, by decide +kernel, by decide +kernel⟩
  refine fd_row F sc _ _ (fun ds ⟨m, e, _⟩ => by rw [e]; rfl) fun cdv A outer s H E hr W r scr ns ds hrow hR => ?_
  obtain ⟨wd, rfl, h1, h2⟩ := hR
  refine run_setP 2 (ev_takenN wd F1 hr hrow 0 (vr 1) rfl h1 (by omega)) (fun d ⟨mn, e, hm⟩ => ?_) sc.nd
  subst e
  refine run_if (k := decide (mn = 0)) (tc (vr 2) ed_int c_eqI |>.to (decide_eq_decide.mpr (by omega))) (fun q => run_ret (ed_S [120]) ⟨wd, [120], rfl, rfl, by decide, h1⟩) (fun q => run_skip ?_)
  have q' : mn ≠ 0 := of_decide_eq_false q
  have one : ∀ cs : List Nat, (∀ c ∈ cs, c = 120 ∨ c = 46) → cs.length = mn - 1 → maskB (120 :: cs ++ [120]) = true := fun cs hc hl => by
    unfold maskB
    simp only [Bool.and_eq_true, decide_eq_true_eq, List.all_eq_true]
    refine ⟨⟨⟨⟨by simp, by simp; omega⟩, fun c hcm => ?_⟩, rfl⟩, List.getLast?_concat⟩
    rw [List.mem_append, List.mem_cons] at hcm
    rcases hcm with (h | h) | h
    · subst h; simp
    · rcases hc c h with h | h <;> (subst h; simp)
    · rw [List.mem_singleton.mp h]; simp
  refine run_retV (ev_op (C := fun z => ∃ cs : List Nat, z = sD (120 :: cs ++ [120]) ∧ (∀ c ∈ cs, c = 120 ∨ c = 46) ∧ cs.length = mn - 1) (ev_op (C := fun z => ∃ cs : List Nat, z = sD (120 :: cs) ∧ (∀ c ∈ cs, c = 120 ∨ c = 46) ∧ cs.length = mn - 1) (ed_S [120]).ev (ev_joinC (Ws := fun cs => (∀ c ∈ cs, c = 120 ∨ c = 46) ∧ cs.length = mn - 1) (ed_S [])
    ((lcNV 3 (it_range (n := mn - 1) (ed_op (vr 2) ed_int o_sub) hrng) (fun xs e => by rw [e, List.length_range]; omega) (E := fun _ z => ∃ c, z = sg c ∧ (c = 120 ∨ c = 46)) (fun xs e x hx W1 lw s H C cl fp => (ev_ix (C := fun z => ∃ c, z = sg c ∧ (c = 120 ∨ c = 46)) (ed_S [46, 120]).ev (ev_takenN 2 F1 hr (lw.row.trans hrow) 0 ed_int rfl) (fun x y ex ⟨kk, ey, hk⟩ => by
      subst ex
      subst ey
      match kk, hk with
      | 0, _ => exact ⟨sg 46, ⟨46, rfl, .inr rfl⟩, i_str (n := 0) (by decide) rfl⟩
      | 1, _ => exact ⟨sg 120, ⟨120, rfl, .inl rfl⟩, i_str (n := 1) (by decide) rfl⟩))) sc.nd).ev sc.nd |>.imp fun d ⟨ys, e, xs, ex, hp⟩ => by
        subst ex
        obtain ⟨cs, e2, h3⟩ := paired_sg hp
        refine ⟨cs, by rw [e, e2], h3, ?_⟩
        have := plen hp
        rw [e2, List.length_map, List.length_range] at this
        exact this.symm) (fun cs h => by omega)) (fun x y ex ⟨cs, ey, hc⟩ => by
          subst ex
          subst ey
          exact ⟨sD (120 :: cs), ⟨cs, rfl, hc⟩, o_adds (l := [120]) (by simp; omega)⟩)) (ed_S [120]).ev (fun x y ⟨cs, ex, hc⟩ ey => by
          subst ex
          subst ey
          exact ⟨sD (120 :: cs ++ [120]), ⟨cs, rfl, hc⟩, o_adds (by simp; omega)⟩)) fun d ⟨cs, e, h3, h4⟩ => ⟨wd, 120 :: cs ++ [120], rfl, e, one cs h3 h4, by simp; omega⟩
theorem fd_law_line (F : FnP K "_law_line" s__law_line f fd) (hrng : mg "range" = none) (F1 : DRAW P w K mg base k) : FnOk P w K mg base CX0 (k + 1) f fd ["_law_row", "_law_most", "_law_letters"] (spW K pre_line post_line) := by
  have sc : FnScope ["_law_row", "_law_most", "_law_letters", "_law_at"] ["_law_row", "_law_most", "_law_letters"] (defScope s__law_line) := ⟨rfl, rfl, rfl, by decide +kernel, rfl, by decide +kernel, by decide +kernel⟩
  refine fd_row F sc _ _ (fun ds ⟨m, n, e, _⟩ => by rw [e]; rfl) fun cdv A outer s H E hr W r scr ns ds hrow hR => ?_
  obtain ⟨a, n, rfl, h1, h2, h3⟩ := hR
  refine run_retV (ev_joinC (Ws := fun cs => lowL n cs ∧ cs.length ≤ a) (ed_S [])
    ((lcNV 3 (it_rangeV (P := fun m => m ≤ a) (eva_cons (ev_takenN (a + 1) F1 hr hrow 0 (ed_op (vr 1) ed_int o_add) rfl (by omega) (by omega)) eva_nil |>.imp fun ds ⟨x, r, e, ⟨q, eq, hq⟩, er⟩ => ⟨(q : Int), by rw [e, er, eq], by omega, by omega, by omega⟩) hrng) (fun xs ⟨m, e, hm⟩ => by rw [e, List.length_range]; omega) (E := fun _ z => ∃ c, z = sg c ∧ (97 ≤ c ∧ c < 97 + n)) (fun xs e x hx W1 lw s H C cl fp => (ev_ix (C := fun z => ∃ c, z = sg c ∧ (97 ≤ c ∧ c < 97 + n)) (ed_S [97, 98, 99, 100]).ev (ev_takenN n F1 hr (lw.row.trans hrow) 0 (vr 2) rfl (by omega) (by omega)) (fun x y ex ⟨kk, ey, hk⟩ => by
      subst ex
      subst ey
      have hk4 : kk < 4 := by omega
      match kk, hk4, hk with
      | 0, _, hk => exact ⟨sg 97, ⟨97, rfl, by omega⟩, i_str (n := 0) (by decide) rfl⟩
      | 1, _, hk => exact ⟨sg 98, ⟨98, rfl, by omega⟩, i_str (n := 1) (by decide) rfl⟩
      | 2, _, hk => exact ⟨sg 99, ⟨99, rfl, by omega⟩, i_str (n := 2) (by decide) rfl⟩
      | 3, _, hk => exact ⟨sg 100, ⟨100, rfl, by omega⟩, i_str (n := 3) (by decide) rfl⟩))) sc.nd).ev sc.nd |>.imp fun d ⟨ys, e, xs, ⟨m, ex, hm⟩, hp⟩ => by
        subst ex
        obtain ⟨cs, e2, h3⟩ := paired_sg hp
        refine ⟨cs, by rw [e, e2], h3, ?_⟩
        have := plen hp
        rw [e2, List.length_map, List.length_range] at this
        omega) (fun cs h => by omega)) fun d ⟨cs, e, h3, h4⟩ => ⟨a, n, cs, rfl, e, h4, h3⟩
theorem fd_law_open (F : FnP K "_law_open" s__law_open f fd) (G : Gs mg) : FnOk P w K mg base CX0 (k + 1) f fd ["_law_mask_here"] (spR K R_open) := by
  have sc : FnScope ["_law_mask_here", "_law_at"] ["_law_mask_here"] (defScope s__law_open) := ⟨rfl, rfl, rfl, by decide +kernel, rfl, by decide +kernel, by decide +kernel⟩
  refine fd_pure F sc _ (fun ds d ⟨m, e, _⟩ => by rw [e]; rfl) fun cdv A outer s H E hr W ds d hrow hR => ?_
  obtain ⟨m, rfl, h1, rfl⟩ := hR
  refine run_ret (lcN1 1 (it_range (n := m.length) (ed_callB G.len boot_len (ea_cons (vr 0) ea_nil) (c_lenS (by omega))) G.range) (by simp; omega) (fun i => decide (m.getD i 0 = 120)) nn (fun i hi W1 lw s H C cl fp => tc (ed_ix (vr 0) (vr 1) (i_str (c := m.getD i 0) (n := i) (by omega) (by
      have : i < m.length := by simpa using hi
      rw [List.getD_eq_getElem?_getD, List.getElem?_eq_getElem this]
      rfl))) (ed_S [120]) (c_eqS (l := [m.getD i 0]) (m := [120])) |>.to (by simp)) (fun i hi hc W1 lw s H C cl fp => vr 1) sc.nd |>.ed sc.nd) rfl
theorem fd_law_views (F : FnP K "_law_views" s__law_views f fd) (G : Gs mg) (F1 : Fd P w K mg base k "_law_open" ["_law_mask_here"] (spR K R_open)) : FnOk P w K mg base CX0 (k + 1) f fd ["_law_line_here", "_law_mask_here"] (spR K R_lviews) := by
  have sc : FnScope ["_law_line_here", "_law_mask_here", "_law_found", "_law_place", "_law_at"] ["_law_line_here", "_law_mask_here"] (defScope s__law_views) := ⟨rfl, rfl, rfl, by decide +kernel, rfl, by decide +kernel, by decide +kernel⟩
  refine fd_pure F sc _ (fun ds d ⟨m, n, e, _⟩ => by rw [e]; rfl) fun cdv A outer s H E hr W ds d hrow hR => ?_
  obtain ⟨l, m, rfl, h1, h2, h3, rfl⟩ := hR
  have ho : (openL m).length ≤ m.length := by
    unfold openL
    refine Nat.le_trans (List.length_filter_le ..) ?_
    simp
  have hll : (lawV l m).length = l.length + 1 - m.length := by simp [lawV]
  refine run_newL 2 (fun a => ?_) sc.nd
  refine run_for 3 (it_range (n := l.length + 1 - m.length) (ed_op (ed_op (ed_callB G.len boot_len (ea_cons (vr 0) ea_nil) (c_lenS (by omega))) (ed_callB G.len boot_len (ea_cons (vr 1) ea_nil) (c_lenS (by omega))) o_sub) ed_int o_add) G.range)
    (fun i Γ μ => Γ = [.d (sD l), .d (sD m), .r a, .no, .no] ∧ μ = [(a, .lst (((lawV l m).take i).map sD))]) ⟨rfl, rfl⟩ (fun W1 lw i x Γ' μ' hx ⟨e1, e2⟩ => ?_) (fun Γ' μ' ⟨e1, e2⟩ => ?_) sc.nd
  · subst e1
    subst e2
    have hi : i < l.length + 1 - m.length := by
      have := (List.getElem?_eq_some_iff.mp hx).1
      simpa using this
    have hxi : x = i := by
      rw [List.getElem?_range hi] at hx
      exact (Option.some.inj hx).symm
    subst hxi
    have hv : (lawV l m)[x]? = some ((openL m).map fun a => l.getD (x + a) 0) := by
      unfold lawV
      rw [List.getElem?_map, List.getElem?_range hi]
      rfl
    refine run_app (ys := ((lawV l m).take x).map sD) 2 0 (ed_joinC ((openL m).map fun a => l.getD (x + a) 0) (ed_S []) (lcN0 4 (it_list (enc := nn) (xs := openL m) (ed_call F1 hr (ea_cons (vr 1) ea_nil) ⟨m, rfl, h3, rfl⟩)) (by omega) (fun a => sg (l.getD (x + a) 0)) (fun a ha W2 lw2 s2 H2 C2 cl2 fp2 => ed_ix (vr 0) (ed_op (vr 3) (vr 4) o_add) (i_str (n := x + a) (by omega) (by
        have h4 : a < m.length := by
          have := (List.mem_filter.mp ha).1
          simpa using this
        have : x + a < l.length := by omega
        rw [List.getD_eq_getElem?_getD, List.getElem?_eq_getElem this]
        rfl) (by push_cast; rfl))) sc.nd |>.ed sc.nd) (by rw [List.map_map]; rfl) (by simp; omega)) (by rw [List.length_map, List.length_take]; omega) ?_
    refine run_go [.d (sD l), .d (sD m), .r a, .no, .no] ⟨.inr rfl, .inr rfl, .inr rfl, .inl rfl, .inr rfl, trivial⟩ ?_
    refine ⟨rfl, ?_⟩
    show [(a, MO.lst (((lawV l m).take x).map sD ++ [sD ((openL m).map fun a => l.getD (x + a) 0)]))] = _
    rw [List.take_add_one, hv, List.map_append]
    rfl
  · subst e1
    subst e2
    refine run_retL 2 (hl := by simp) ?_
    rw [List.length_range, ← hll, List.take_length]
theorem fd_law_tells (F : FnP K "_law_tells" s__law_tells f fd) (G : Gs mg) (F3 : Fd P w K mg base k "_law_views" ["_law_line_here", "_law_mask_here"] (spR K R_lviews)) : FnOk P w K mg base CX0 (k + 1) f fd ["_law_line_here", "_law_mask_here"] (spR K R_ltells) := by
  have sc : FnScope ["_law_line_here", "_law_mask_here", "_law_told"] ["_law_line_here", "_law_mask_here"] (defScope s__law_tells) := ⟨rfl, rfl, rfl, by decide +kernel, rfl, by decide +kernel, by decide +kernel⟩
  refine fd_pure F sc _ (fun ds d ⟨l, m, e, _⟩ => by rw [e]; rfl) fun cdv A outer s H E hr W ds d hrow hR => ?_
  obtain ⟨l, m, rfl, h1, h2, h3, rfl⟩ := hR
  have hl := viewsL_len l m
  refine run_set 2 (ed_call F3 hr (ea_cons (vr 0) (ea_cons (vr 1) ea_nil)) ⟨l, m, rfl, by omega, by omega, by omega, rfl⟩) (run_ret (ed_cmp (ed_lenSet (ws := viewsL l m) (vr 2) G.len G.set rfl (by rw [lawV_eq]) (by omega)) (ed_callB G.len boot_len (ea_cons (vr 2) ea_nil) c_lenL) c_eqI) ?_) sc.nd
  refine congrArg PyData.bool (decide_eq_decide.mpr ?_)
  rw [List.length_map, lawV_eq, ← uq_len_iff]
  omega
theorem fd_law_unlike (F : FnP K "_law_unlike" s__law_unlike f fd) (G : Gs mg) : FnOk P w K mg base CX0 (k + 1) f fd ["_law_one", "_law_other"] (spR K R_lunlike) := by
  have sc : FnScope ["_law_one", "_law_other", "_law_at"] ["_law_one", "_law_other"] (defScope s__law_unlike) := ⟨rfl, rfl, rfl, by decide +kernel, rfl, by decide +kernel, by decide +kernel⟩
  refine fd_pure F sc _ (fun ds d ⟨a, b, e, _⟩ => by rw [e]; rfl) fun cdv A outer s H E hr W ds d hrow hR => ?_
  obtain ⟨a, b, rfl, h1, h2, rfl⟩ := hR
  refine run_ret ((ed_callB G.len boot_len (ea_cons (lcN1 2 (it_range (n := a.length) (ed_callB G.len boot_len (ea_cons (vr 0) ea_nil) (c_lenS (by omega))) G.range) (by simp; omega) (fun i => decide (a.getD i 0 ≠ b.getD i 0)) nn (fun i hi W1 lw s H C cl fp => ?_) (fun q hq hc W1 lw s H C cl fp => vr 2) sc.nd |>.ed sc.nd) ea_nil) c_lenL).to (by rw [List.length_map, unlike_law a b h2])) rfl
  have hi' := List.mem_range.mp hi
  have ga : a[i]? = some (a.getD i 0) := by
    rw [List.getD_eq_getElem?_getD, List.getElem?_eq_getElem hi']
    rfl
  have hb' : i < b.length := by omega
  have gb : b[i]? = some (b.getD i 0) := by
    rw [List.getD_eq_getElem?_getD, List.getElem?_eq_getElem hb']
    rfl
  exact tc (ed_ix (vr 0) (vr 2) (i_str (n := i) (by omega) ga)) (ed_ix (vr 1) (vr 2) (i_str (n := i) (by omega) gb)) (c_neS (l := [a.getD i 0]) (m := [b.getD i 0])) |>.to (by simp)
theorem fd_is_row (F : FnP K "is_row" s_is_row f fd) (G : Gs mg) (gL : gLETTERS mg) (gR : gMOST_ROW mg) : FnOk P w K mg base CX0 (k + 1) f fd ["value"] (spR K R_is_row) := by
  have sc : FnScope ["value", "sign"] ["value"] (defScope s_is_row) := ⟨rfl, rfl, rfl, by decide +kernel, rfl, by decide +kernel, by decide +kernel⟩
  refine fd_pure F sc _ (fun ds d ⟨m, e, _⟩ => by rw [e]; rfl) fun cdv A outer s H E hr W ds d hrow hR => ?_
  obtain ⟨l, rfl, hm, rfl⟩ := hR
  unfold rowB at hm
  simp only [Bool.and_eq_true, decide_eq_true_eq] at hm
  obtain ⟨h1, h2⟩ := hm
  refine run_ret (ed_and (k := true) (l := true) (ed_isi (T := "str") (vr 0) G.isinstance G.str (by decide +kernel)) fun _ => ed_and (k := true) (l := true) ((ed_cmp (ed_callB G.len boot_len (ea_cons (vr 0) ea_nil) (c_lenS (by omega))) (ed_gint gR) c_le).to ?_) fun _ => ed_one ((ed_callB G.all boot_all (ea_cons (lcN0 1 (it_str (vr 0)) (by omega) (fun c => .bool (decide (c ∈ [97, 98, 99, 100]))) (fun c hc W1 l s H C cl fp => ed_cmp (vr 1) (ed_gS [97, 98, 99, 100] gL) c_inS) sc.nd |>.ed sc.nd) ea_nil) (c_all (bs := l.map fun c => decide (c ∈ [97, 98, 99, 100])) rfl |> fun z => by rw [List.map_map] at z; exact z)).to ?_)) rfl
  · exact congrArg PyData.bool (decide_eq_true (by omega))
  · rw [List.all_map]
    exact congrArg PyData.bool h2
theorem fd_need_row (F : FnP K "need_row" s_need_row f fd) (F1 : Fd P w K mg base k "is_row" ["value"] (spR K R_is_row)) : FnOk P w K mg base CX0 (k + 1) f fd ["row"] (spR K R_need_row) := by
  have sc : FnScope ["row"] ["row"] (defScope s_need_row) := ⟨rfl, rfl, rfl, by decide +kernel, rfl, by decide +kernel, by decide +kernel⟩
  refine fd_pure F sc _ (fun ds d ⟨m, e, _⟩ => by rw [e]; rfl) fun cdv A outer s H E hr W ds d hrow hR => ?_
  obtain ⟨m, rfl, hm, rfl⟩ := hR
  exact run_if (k := false) (t_not (k := true) (et_val (ed_call F1 hr (ea_cons (vr 0) ea_nil) ⟨m, rfl, hm, rfl⟩))) (fun q => nomatch q) (fun _ => run_skip (run_end rfl))
theorem fd_is_mask (F : FnP K "is_mask" s_is_mask f fd) (G : Gs mg) (gS : gSEEN mg) (gH : gHOLE mg) (gM : gMOST_MASK mg) : FnOk P w K mg base CX0 (k + 1) f fd ["value"] (spR K R_is_mask) := by
  have sc : FnScope ["value", "sign"] ["value"] (defScope s_is_mask) := ⟨rfl, rfl, rfl, by decide +kernel, rfl, by decide +kernel, by decide +kernel⟩
  refine fd_pure F sc _ (fun ds d ⟨m, e, _⟩ => by rw [e]; rfl) fun cdv A outer s H E hr W ds d hrow hR => ?_
  obtain ⟨m, rfl, hm, rfl⟩ := hR
  unfold maskB at hm
  simp only [Bool.and_eq_true, decide_eq_true_eq] at hm
  obtain ⟨⟨⟨⟨h1, h2⟩, h3⟩, h4⟩, h5⟩ := hm
  refine run_if (k := false) ((t_or (t_not (et_val (ed_isi (T := "str") (vr 0) G.isinstance G.str (by decide +kernel)))) fun _ => t_not (tc_chain ed_int (ed_callB G.len boot_len (ea_cons (vr 0) ea_nil) (c_lenS (by omega))) (fun _ => ed_gint gM) c_le c_le)).to ?_) (fun q => nomatch q) (fun _ => run_skip ?_)
  · have e1 : decide ((1 : Int) ≤ ((m.length : Nat) : Int)) = true := decide_eq_true (by omega)
    have e2 : decide (((m.length : Nat) : Int) ≤ (12 : Int)) = true := decide_eq_true (by omega)
    rw [e1, e2]
    rfl
  · refine run_ret ((ed_and (k := true) (l := true) ((ed_callB G.all boot_all (ea_cons (lcN0 1 (it_str (vr 0)) (by omega) (fun c => .bool (decide (c ∈ [120, 46]))) (fun c hc W1 l s H C cl fp => ed_cmp (vr 1) (ed_op (ed_gS [120] gS) (ed_gS [46] gH) (o_adds (by decide))) c_inS) sc.nd |>.ed sc.nd) ea_nil) (c_all (bs := m.map fun c => decide (c ∈ [120, 46])) rfl |> fun z => by rw [List.map_map] at z; exact z)).to ?_)
      (fun _ => ed_and (k := true) (l := true) ((ed_cmp (ed_ix (vr 0) ed_int (i_str (n := 0) (by omega) h4)) (ed_gS [120] gS) (c_eqS (l := [120]))).to ?_) fun _ => ed_one ((ed_cmp (ed_ix (vr 0) (ed_neg ed_int) (i_strL (by omega) h5)) (ed_gS [120] gS) (c_eqS (l := [120]))).to ?_)))) rfl
    · rw [List.all_map]
      exact congrArg PyData.bool h3
    · rfl
    · rfl
theorem fd_need_mask (F : FnP K "need_mask" s_need_mask f fd) (F1 : Fd P w K mg base k "is_mask" ["value"] (spR K R_is_mask)) : FnOk P w K mg base CX0 (k + 1) f fd ["mask"] (spR K R_need_mask) := by
  have sc : FnScope ["mask"] ["mask"] (defScope s_need_mask) := ⟨rfl, rfl, rfl, by decide +kernel, rfl, by decide +kernel, by decide +kernel⟩
  refine fd_pure F sc _ (fun ds d ⟨m, e, _⟩ => by rw [e]; rfl) fun cdv A outer s H E hr W ds d hrow hR => ?_
  obtain ⟨m, rfl, hm, rfl⟩ := hR
  exact run_if (k := false) (t_not (k := true) (et_val (ed_call F1 hr (ea_cons (vr 0) ea_nil) ⟨m, rfl, hm, rfl⟩))) (fun q => nomatch q) (fun _ => run_skip (run_end rfl))
theorem fd_seen_by (F : FnP K "seen_by" s_seen_by f fd) (G : Gs mg) (gS : gSEEN mg) : FnOk P w K mg base CX0 (k + 1) f fd ["mask"] (spR K R_seen_by) := by
  have sc : FnScope ["mask", "at", "sign"] ["mask"] (defScope s_seen_by) := ⟨rfl, rfl, rfl, by decide +kernel, rfl, by decide +kernel, by decide +kernel⟩
  refine fd_pure F sc _ (fun ds d ⟨m, e, _⟩ => by rw [e]; rfl) fun cdv A outer s H E hr W ds d hrow hR => ?_
  obtain ⟨m, rfl, hl, rfl⟩ := hR
  refine run_ret (lcP1 1 2 (it_enum (vr 0) G.enumerate rfl) (by simpa using hl) (fun q => decide (q.2 = 120)) (fun q => nn q.1) (fun q hq W1 l s H C cl fp => tc (vr 2) (ed_gS [120] gS) (c_eqS (m := [120])) |>.to ?_) (fun q hq hc W1 l s H C cl fp => vr 1) sc.nd |>.ed sc.nd) ?_
  · simp
  · show PyData.list _ = PyData.list _
    unfold seenL
    rw [List.map_map]
    rfl
theorem fd_view_by (F : FnP K "view_by" s_view_by f fd) (G : Gs mg) (F1 : Fd P w K mg base k "seen_by" ["mask"] (spR K R_seen_by)) : FnOk P w K mg base CX0 (k + 1) f fd ["row", "mask", "place"] (spR K R_view_by) := by
  have sc : FnScope ["row", "mask", "place", "at"] ["row", "mask", "place"] (defScope s_view_by) := ⟨rfl, rfl, rfl, by decide +kernel, rfl, by decide +kernel, by decide +kernel⟩
  refine fd_pure F sc _ (fun ds d ⟨l, m, p, e, _⟩ => by rw [e]; rfl) fun cdv A outer s H E hr W ds d hrow hR => ?_
  obtain ⟨l, m, p, rfl, h1, h2, h3, rfl⟩ := hR
  have h4 := seenL_len m
  refine run_ret (ed_joinC (viewL l m p) (ed_S []) (lcN0 3 (it_list (enc := nn) (xs := seenL m) (ed_call F1 hr (ea_cons (vr 1) ea_nil) ⟨m, rfl, by omega, rfl⟩)) (by omega) (fun a => sg (l.getD (p + a) 0)) (fun a ha W2 lw2 s2 H2 C2 cl2 fp2 => ed_ix (vr 0) (ed_op (vr 2) (vr 3) o_add) (i_str (n := p + a) (by omega) (by
        have h5 := mem_seen ha
        have : p + a < l.length := by omega
        rw [List.getD_eq_getElem?_getD, List.getElem?_eq_getElem this]
        rfl) (by push_cast; rfl))) sc.nd |>.ed sc.nd) (by unfold viewL; rw [List.map_map]; rfl) (by unfold viewL; simp; omega)) rfl
theorem fd_views_of (F : FnP K "views_of" s_views_of f fd) (G : Gs mg) (F1 : Fd P w K mg base k "view_by" ["row", "mask", "place"] (spR K R_view_by)) : FnOk P w K mg base CX0 (k + 1) f fd ["row", "mask"] (spR K R_views_of) := by
  have sc : FnScope ["row", "mask", "place"] ["row", "mask"] (defScope s_views_of) := ⟨rfl, rfl, rfl, by decide +kernel, rfl, by decide +kernel, by decide +kernel⟩
  refine fd_pure F sc _ (fun ds d ⟨l, m, e, _⟩ => by rw [e]; rfl) fun cdv A outer s H E hr W ds d hrow hR => ?_
  obtain ⟨l, m, rfl, h1, h2, h3, rfl⟩ := hR
  refine run_ret (lcN0 2 (it_range (n := l.length + 1 - m.length) (ed_op (ed_op (ed_callB G.len boot_len (ea_cons (vr 0) ea_nil) (c_lenS (by omega))) (ed_callB G.len boot_len (ea_cons (vr 1) ea_nil) (c_lenS (by omega))) o_sub) ed_int o_add) G.range) (by simp; omega) (fun p => sD (viewL l m p)) (fun p hp W2 lw2 s2 H2 C2 cl2 fp2 => ed_call F1 hr (ea_cons (vr 0) (ea_cons (vr 1) (ea_cons (vr 2) ea_nil))) ⟨l, m, p, rfl, by omega, by omega, by
    have := List.mem_range.mp hp
    omega, rfl⟩) sc.nd |>.ed sc.nd) ?_
  show PyData.list _ = PyData.list _
  unfold viewsL
  rw [List.map_map]
  rfl
theorem fd_views (F : FnP K "views" s_views f fd) (F1 : Fd P w K mg base k "need_row" ["row"] (spR K R_need_row)) (F2 : Fd P w K mg base k "need_mask" ["mask"] (spR K R_need_mask)) (F3 : Fd P w K mg base k "views_of" ["row", "mask"] (spR K R_views_of)) : FnOk P w K mg base CX0 (k + 1) f fd ["row", "mask"] (spR K R_views) := by
  have sc : FnScope ["row", "mask"] ["row", "mask"] (defScope s_views) := ⟨rfl, rfl, rfl, by decide +kernel, rfl, by decide +kernel, by decide +kernel⟩
  refine fd_pure F sc _ (fun ds d ⟨l, m, e, _⟩ => by rw [e]; rfl) fun cdv A outer s H E hr W ds d hrow hR => ?_
  obtain ⟨l, m, rfl, h1, h3, rfl⟩ := hR
  have := rowB_len h1
  have := maskB_len h3
  have := maskB_pos h3
  exact run_expr (ed_call F1 hr (ea_cons (vr 0) ea_nil) ⟨l, rfl, h1, rfl⟩) (run_expr (ed_call F2 hr (ea_cons (vr 1) ea_nil) ⟨m, rfl, h3, rfl⟩) (run_ret (ed_call F3 hr (ea_cons (vr 0) (ea_cons (vr 1) ea_nil)) ⟨l, m, rfl, by omega, by omega, by omega, rfl⟩) rfl))
theorem fd_tells_by (F : FnP K "tells_by" s_tells_by f fd) (G : Gs mg) (F3 : Fd P w K mg base k "views_of" ["row", "mask"] (spR K R_views_of)) : FnOk P w K mg base CX0 (k + 1) f fd ["row", "mask"] (spR K R_tells_by) := by
  have sc : FnScope ["row", "mask", "told"] ["row", "mask"] (defScope s_tells_by) := ⟨rfl, rfl, rfl, by decide +kernel, rfl, by decide +kernel, by decide +kernel⟩
  refine fd_pure F sc _ (fun ds d ⟨l, m, e, _⟩ => by rw [e]; rfl) fun cdv A outer s H E hr W ds d hrow hR => ?_
  obtain ⟨l, m, rfl, h1, h2, h3, rfl⟩ := hR
  have hl := viewsL_len l m
  refine run_set 2 (ed_call F3 hr (ea_cons (vr 0) (ea_cons (vr 1) ea_nil)) ⟨l, m, rfl, by omega, by omega, by omega, rfl⟩) (run_ret (ed_cmp (ed_lenSet (ws := viewsL l m) (vr 2) G.len G.set rfl rfl (by omega)) (ed_callB G.len boot_len (ea_cons (vr 2) ea_nil) c_lenL) c_eqI) ?_) sc.nd
  refine congrArg PyData.bool (decide_eq_decide.mpr ?_)
  rw [List.length_map, ← uq_len_iff]
  omega
theorem fd_tells (F : FnP K "tells" s_tells f fd) (F1 : Fd P w K mg base k "need_row" ["row"] (spR K R_need_row)) (F2 : Fd P w K mg base k "need_mask" ["mask"] (spR K R_need_mask)) (F3 : Fd P w K mg base k "tells_by" ["row", "mask"] (spR K R_tells_by)) : FnOk P w K mg base CX0 (k + 1) f fd ["row", "mask"] (spR K R_tells) := by
  have sc : FnScope ["row", "mask"] ["row", "mask"] (defScope s_tells) := ⟨rfl, rfl, rfl, by decide +kernel, rfl, by decide +kernel, by decide +kernel⟩
  refine fd_pure F sc _ (fun ds d ⟨l, m, e, _⟩ => by rw [e]; rfl) fun cdv A outer s H E hr W ds d hrow hR => ?_
  obtain ⟨l, m, rfl, h1, h3, rfl⟩ := hR
  have := rowB_len h1
  have := maskB_len h3
  have := maskB_pos h3
  exact run_expr (ed_call F1 hr (ea_cons (vr 0) ea_nil) ⟨l, rfl, h1, rfl⟩) (run_expr (ed_call F2 hr (ea_cons (vr 1) ea_nil) ⟨m, rfl, h3, rfl⟩) (run_ret (ed_call F3 hr (ea_cons (vr 0) (ea_cons (vr 1) ea_nil)) ⟨l, m, rfl, by omega, by omega, by omega, rfl⟩) rfl))
theorem fd_alike (F : FnP K "alike" s_alike f fd) (G : Gs mg) (F1 : Fd P w K mg base k "need_row" ["row"] (spR K R_need_row)) (F2 : Fd P w K mg base k "need_mask" ["mask"] (spR K R_need_mask)) (F3 : Fd P w K mg base k "views_of" ["row", "mask"] (spR K R_views_of)) : FnOk P w K mg base CX0 (k + 1) f fd ["row", "mask"] (spR K R_alike) := by
  have sc : FnScope ["row", "mask", "told", "one", "view"] ["row", "mask"] (defScope s_alike) := ⟨rfl, rfl, rfl, by decide +kernel, rfl, by decide +kernel, by decide +kernel⟩
  refine fd_pure F sc _ (fun ds d ⟨l, m, e, _⟩ => by rw [e]; rfl) fun cdv A outer s H E hr W ds d hrow hR => ?_
  obtain ⟨l, m, rfl, h1, h3, rfl⟩ := hR
  have := rowB_len h1
  have := maskB_len h3
  have := maskB_pos h3
  refine run_expr (ed_call F1 hr (ea_cons (vr 0) ea_nil) ⟨l, rfl, h1, rfl⟩) (run_expr (ed_call F2 hr (ea_cons (vr 1) ea_nil) ⟨m, rfl, h3, rfl⟩) ?_)
  obtain ⟨ws, hws⟩ : ∃ ws, ws = viewsL l m := ⟨_, rfl⟩
  refine run_set (d := wD ws) 2 ((ed_call F3 hr (ea_cons (vr 0) (ea_cons (vr 1) ea_nil)) ⟨l, m, rfl, by omega, by omega, by omega, rfl⟩).to (by rw [hws])) ?_ sc.nd
  rw [← hws]
  refine run_for2P (e1 := fun q : Nat × List Nat => nn q.1) (e2 := fun q => sD q.2) 3 4 (it_enum (xs := ws) (enc := sD) (vr 2) G.enumerate rfl) (fun _ => [.no, .no, .d (wD ws), .no, .no]) (fun _ => []) (fun i => ∀ j, j < i → likeJ ws j = []) (fun j hj => by omega) (fun W1 lw i q hq h0 => ?_) (fun h0 => ?_) sc.nd
  · rw [List.getElem?_mapIdx] at hq
    obtain ⟨z, hz, rfl⟩ := Option.map_eq_some_iff.mp hq
    have hi := (List.getElem?_eq_some_iff.mp hz).1
    refine run_if (k := decide (z ∈ ws.drop (i + 1))) (tc (vr 4) ((ed_sl (vr 2) (so_some (ed_op (vr 3) ed_int o_add)) so_none (s_listD (i + 1))).to (by show PyData.list _ = PyData.list _; rw [List.map_drop])) c_inLS) (fun q => ?_) (fun q => run_skip ?_)
    · obtain ⟨j, g1, g2, g3, g4⟩ := like_hit hz (of_decide_eq_true q)
      have ha := like_head ws hi h0 g4
      refine run_ret (ed_tup (ea_cons (vr 3) (ea_cons (ed_indexFrom (st := i + 1) (vr 2) (vr 4) (ed_op (vr 3) ed_int o_add) g1 g2 g3) ea_nil)) (by simp)) ?_ lw
      rw [ha]
      rfl
    · refine run_eP fun j hj => ?_
      by_cases e : j = i
      · subst e
        exact like_miss hz (of_decide_eq_false q)
      · exact h0 j (by omega)
  · rw [List.length_mapIdx] at h0
    refine run_ret ed_non ?_
    rw [like_none ws h0]
    rfl
theorem fd_groups (F : FnP K "groups" s_groups f fd) (G : Gs mg) (F1 : Fd P w K mg base k "need_row" ["row"] (spR K R_need_row)) (F2 : Fd P w K mg base k "need_mask" ["mask"] (spR K R_need_mask)) (F3 : Fd P w K mg base k "views_of" ["row", "mask"] (spR K R_views_of)) : FnOk P w K mg base CX0 (k + 1) f fd ["row", "mask"] (spR K R_groups) := by
  have sc : FnScope ["row", "mask", "told", "found", "place", "view", "places"] ["row", "mask"] (defScope s_groups) := ⟨rfl, rfl, rfl, by decide +kernel, rfl, by decide +kernel, by decide +kernel⟩
  refine fd_pure F sc _ (fun ds d ⟨l, m, e, _⟩ => by rw [e]; rfl) fun cdv A outer s H E hr W ds d hrow hR => ?_
  obtain ⟨l, m, rfl, h1, h3, rfl⟩ := hR
  have := rowB_len h1
  have := maskB_len h3
  have := maskB_pos h3
  have hvl := viewsL_len l m
  have hu := hr.units
  refine run_expr (ed_call F1 hr (ea_cons (vr 0) ea_nil) ⟨l, rfl, h1, rfl⟩) (run_expr (ed_call F2 hr (ea_cons (vr 1) ea_nil) ⟨m, rfl, h3, rfl⟩) ?_)
  obtain ⟨ws, hws⟩ : ∃ ws, ws = viewsL l m := ⟨_, rfl⟩
  refine run_set (d := wD ws) 2 ((ed_call F3 hr (ea_cons (vr 0) (ea_cons (vr 1) ea_nil)) ⟨l, m, rfl, by omega, by omega, by omega, rfl⟩).to (by rw [hws])) ?_ sc.nd
  rw [← hws]
  rw [← hws] at hvl
  refine run_newD 3 (fun a => ?_) sc.nd
  refine run_for2S (e1 := fun q : Nat × List Nat => nn q.1) (e2 := fun q => sD q.2) 4 5 (it_enum (xs := ws) (enc := sD) (vr 2) G.enumerate rfl) (fun _ => [.no, .no, .d (wD ws), .r a, .no, .no, .no]) (fun i => [(a, .dK (grpK ws i))]) (fun W1 lw i q hq => ?_) ?_ sc.nd
  · rw [List.getElem?_mapIdx] at hq
    obtain ⟨z, hz, rfl⟩ := Option.map_eq_some_iff.mp hq
    have hi := (List.getElem?_eq_some_iff.mp hz).1
    have hw := wAt_of hz
    have hgl := grp_len ws i
    have hpl := plc_len ws i z
    have hp := grp_put ws i
    rw [hw] at hp
    refine run_dput (l := a) (kvs := grpK ws i) (k := kS z) (d := tupN (plcN ws i z ++ [i])) 3 0 hu ?hv (vr 5) (by omega) ?_
    case hv =>
      have e : PyData.tuple ((plcN ws i z).map nn ++ [nn i]) = tupN (plcN ws i z ++ [i]) := by rw [tupN, List.map_append]; rfl
      rw [← e]
      refine ed_op (ed_dget2 (l := a) (kvs := grpK ws i) (k := kS z) (d := .tuple []) 3 0 hu (vr 5) (ed_tup ea_nil (by simp))) (ed_tup (ea_cons (vr 4) ea_nil) (by simp)) ?_
      rw [grp_get]
      exact o_catT (by simp; omega)
    show Run _ _ _ [(a, .dK (pK (grpK ws i) (kS z) (tupN (plcN ws i z ++ [i]))))] _ _
    rw [hp]
    exact run_e
  · rw [List.length_mapIdx]
    refine run_frzK 3 ?_
    have hgl := grp_len ws ws.length
    refine run_ret (d := .list (sortD (grpsL ws ws.length))) (ed_callB G.sorted boot_sorted (ea_cons (lcN1 (xs := (grpK ws ws.length).map (·.2)) (enc := fun y => y) 6 (it_fvals (vr 3)) (by rw [List.length_map]; omega) isLot (fun y => y) (fun x hx W1 lw s H C cl fp => ?_) (fun x hx hc W1 lw s H C cl fp => vr 6) sc.nd |>.ed sc.nd) ea_nil) ?hs) ?_
    · obtain ⟨t, rfl, ht⟩ := mem_grp hx
      exact tc (lenT G (vr 6)) ed_int c_gt |>.to (decide_eq_decide.mpr (by rw [List.length_map]; omega))
    · rw [List.map_id', grp_vals]
      refine c_sortedD hu (grps_alike ws _) (grps_sortable ws _ (Nat.le_refl _)) ?_ ?_ ?_
      · unfold grpsL
        rw [List.length_map]
        exact Nat.le_trans (List.length_filter_le ..) (by simp; omega)
      · intro d hd
        obtain ⟨i, _, rfl⟩ := List.mem_map.mp hd
        rw [dep_tupN]
        omega
      · exact nodAll_map (f := fun i => tupN (plcN ws ws.length (wAt ws i))) (fun i => nod_tupN _) _
    · rw [grps_sorted]
theorem fd_unlike (F : FnP K "unlike" s_unlike f fd) (G : Gs mg) : FnOk P w K mg base CX0 (k + 1) f fd ["one", "other"] (spR K R_unlike) := by
  have sc : FnScope ["one", "other", "left", "right"] ["one", "other"] (defScope s_unlike) := ⟨rfl, rfl, rfl, by decide +kernel, rfl, by decide +kernel, by decide +kernel⟩
  refine fd_pure F sc _ (fun ds d ⟨a, b, e, _⟩ => by rw [e]; rfl) fun cdv A outer s H E hr W ds d hrow hR => ?_
  obtain ⟨a, b, rfl, h1, h2, rfl⟩ := hR
  refine run_ret ((ed_callB G.len boot_len (ea_cons (lcP1 2 3 (it_zip (xs := a) (ys := b) (enc := sg) (enc2 := sg) (vr 0) (vr 1) G.zip rfl rfl) (by simp; omega) (fun q => decide (q.1 ≠ q.2)) (fun _ => .int 1) (fun q hq W1 lw s H C cl fp => tc (vr 2) (vr 3) (c_neS (l := [q.1]) (m := [q.2])) |>.to (by simp)) (fun q hq hc W1 lw s H C cl fp => ed_int) sc.nd |>.ed sc.nd) ea_nil) c_lenL).to (by rw [List.length_map]; rfl)) rfl
theorem fd_distance_of (F : FnP K "distance_of" s_distance_of f fd) (G : Gs mg) (F1 : Fd P w K mg base k "unlike" ["one", "other"] (spR K R_unlike)) : FnOk P w K mg base CX0 (k + 1) f fd ["told"] (spR K R_distance_of) := by
  have sc : FnScope ["told", "found", "other", "one"] ["told"] (defScope s_distance_of) := ⟨rfl, rfl, rfl, by decide +kernel, rfl, by decide +kernel, by decide +kernel⟩
  refine fd_pure F sc _ (fun ds d ⟨ws, e, _⟩ => by rw [e]; rfl) fun cdv A outer s H E hr W ds d hrow hR => ?_
  obtain ⟨ws, rfl, h1, h2, rfl⟩ := hR
  have hu := hr.units
  have hdl := distL_len ws
  have hsz : ws.length * ws.length ≤ 16000000 := Nat.mul_le_mul h1 h1
  have hg : ∀ i, i < ws.length → (ws.map sD)[i]? = some (sD (ws.getD i [])) := fun i hi => by
    rw [List.getElem?_map, List.getD_eq_getElem?_getD, List.getElem?_eq_getElem hi]
    rfl
  have hl : ∀ i, i < ws.length → (ws.getD i []).length ≤ 4000 := fun i hi => by
    rw [List.getD_eq_getElem?_getD, List.getElem?_eq_getElem hi]
    exact h2 _ (List.getElem_mem hi)
  have e : ((List.range ws.length).flatMap fun o => (List.range o).map fun i => nn (unlikeN (ws.getD i []) (ws.getD o []))) = (distL ws).map nn := by
    unfold distL
    rw [List.map_flatMap]
    congr 1
    funext o
    rw [List.map_map]
    rfl
  refine run_setLc2 1 2 3 (it_range (n := ws.length) (lenLw G (vr 0)) G.range) (fun o => List.range o) (fun o i => nn (unlikeN (ws.getD i []) (ws.getD o []))) (by rw [e, List.length_map]; omega) (fun o ho W2 lw2 s2 H2 C2 cl2 fp2 => it_range (n := o) (vr 2) G.range (by omega) (by have := List.mem_range.mp ho; omega)) (fun o ho i hi W2 lw2 s2 H2 C2 cl2 fp2 => ?_) ?_ sc.nd
  · have ho' := List.mem_range.mp ho
    have hi' := List.mem_range.mp hi
    exact ed_call F1 hr (ea_cons (ed_ix (vr 0) (vr 3) (i_list (hg i (by omega)))) (ea_cons (ed_ix (vr 0) (vr 2) (i_list (hg o ho'))) ea_nil)) ⟨_, _, rfl, hl _ (by omega), hl _ ho', rfl⟩
  · rw [e]
    refine run_ret (ed_if (x := optN (distL ws).min?) (y := .none) (k := !((distL ws).map nn).isEmpty) (tc (vr 1) (ed_lst ea_nil (by simp)) (c_neNil hu (Shp.list (n := 0) fun x hx => by
      obtain ⟨y, _, rfl⟩ := List.mem_map.mp hx
      exact Shp.int))) (fun q => ?_) (fun q => ed_non)) ?_
    · cases em : (distL ws).min? with
      | none =>
        have : distL ws = [] := List.min?_eq_none_iff.mp em
        rw [this] at q
        cases q
      | some z =>
        obtain ⟨g1, g2⟩ := List.min?_eq_some_iff.mp em
        have em2 : (distL ws).map nn = ((distL ws).map fun x : Nat => (x : Int)).map PyData.int := by rw [List.map_map]; rfl
        rw [em2]
        refine ed_callB G.min boot_min (ea_cons (vr 1) ea_nil) (c_min (ns := (distL ws).map fun x : Nat => (x : Int)) rfl (List.mem_map.mpr ⟨z, g1, rfl⟩) fun y hy => ?_)
        obtain ⟨x, hx, rfl⟩ := List.mem_map.mp hy
        have := g2 x hx
        omega
    · show (if _ then _ else _) = _
      cases em : (distL ws).min? with
      | none => split <;> rfl
      | some z =>
        rw [if_pos]
        obtain ⟨g1, g2⟩ := List.min?_eq_some_iff.mp em
        cases ed : distL ws with
        | nil => rw [ed] at g1; cases g1
        | cons a l => rfl
theorem fd_distance (F : FnP K "distance" s_distance f fd) (F1 : Fd P w K mg base k "need_row" ["row"] (spR K R_need_row)) (F2 : Fd P w K mg base k "need_mask" ["mask"] (spR K R_need_mask)) (F3 : Fd P w K mg base k "views_of" ["row", "mask"] (spR K R_views_of)) (F4 : Fd P w K mg base k "distance_of" ["told"] (spR K R_distance_of)) : FnOk P w K mg base CX0 (k + 1) f fd ["row", "mask"] (spR K R_distance) := by
  have sc : FnScope ["row", "mask"] ["row", "mask"] (defScope s_distance) := ⟨rfl, rfl, rfl, by decide +kernel, rfl, by decide +kernel, by decide +kernel⟩
  refine fd_pure F sc _ (fun ds d ⟨l, m, e, _⟩ => by rw [e]; rfl) fun cdv A outer s H E hr W ds d hrow hR => ?_
  obtain ⟨l, m, rfl, h1, h3, rfl⟩ := hR
  have := rowB_len h1
  have := maskB_len h3
  have := maskB_pos h3
  have hvl := viewsL_len l m
  have hv := views_small l m
  exact run_expr (ed_call F1 hr (ea_cons (vr 0) ea_nil) ⟨l, rfl, h1, rfl⟩) (run_expr (ed_call F2 hr (ea_cons (vr 1) ea_nil) ⟨m, rfl, h3, rfl⟩) (run_ret (ed_call F4 hr (ea_cons (ed_call F3 hr (ea_cons (vr 0) (ea_cons (vr 1) ea_nil)) ⟨l, m, rfl, by omega, by omega, by omega, rfl⟩) ea_nil) ⟨viewsL l m, rfl, by omega, fun w hw => by have := hv w hw; omega, rfl⟩) rfl))
end
end HW
set_option maxHeartbeats 4000000
namespace HW
open PySem PySem.Spec PyProof.Rows L2 Tx
open SX (S)
section
variable {P : Program} {w : World} {K : PySem.W.Frag} {mg : Str → Option Value} {base : Heap} {f : Addr} {fd : FuncData} {k : Nat}
theorem allPr_succ (n : Nat) : allPr (n + 1) = allPr n ++ (List.range n).map fun i => (i, n) := by
  unfold allPr
  rw [List.range_succ, List.flatMap_append, List.flatMap_singleton]
theorem allPr_len : ∀ n, (allPr n).length ≤ n * n
  | 0 => Nat.le_refl _
  | n + 1 => by
    rw [allPr_succ, List.length_append, List.length_map, List.length_range]
    have := allPr_len n
    rw [Nat.add_mul, Nat.mul_add]
    omega
theorem dist_pr (ws : List (List Nat)) : distL ws = (allPr ws.length).map fun q => unlikeN (wAt ws q.1) (wAt ws q.2) := by
  unfold distL allPr
  rw [List.map_flatMap]
  congr 1
  funext o
  rw [List.map_map]
  rfl
theorem shp_optP (q : Option (Nat × Nat)) : Shp 1 (optP q) := by
  cases q with
  | none => exact Shp.non.up (by decide)
  | some q =>
    refine Shp.tup fun x hx => ?_
    simp only [List.mem_cons, List.not_mem_nil, or_false] at hx
    rcases hx with e | e <;> rw [e] <;> exact Shp.int
theorem shp_prs (l : List (Nat × Nat)) : Shp 2 (.list (l.map prN)) := Shp.list fun x hx => by
  obtain ⟨q, _, rfl⟩ := List.mem_map.mp hx
  exact shp_optP (some q)
theorem shp_grps (ws : List (List Nat)) (n : Nat) : Shp 2 (.list (grpsL ws n)) := Shp.list fun x hx => by
  obtain ⟨i, _, rfl⟩ := List.mem_map.mp hx
  exact Shp.tup fun y hy => by
    obtain ⟨j, _, rfl⟩ := List.mem_map.mp hy
    exact Shp.int
theorem grps_succ (ws : List (List Nat)) (n : Nat) : grpsL ws (n + 1) = grpsL ws n ++ (if isGrp ws ws.length n = true then [tupN (plcN ws ws.length (wAt ws n))] else []) := by
  unfold grpsL
  rw [List.range_succ, List.filter_append, List.map_append]
  congr 1
  by_cases h : isGrp ws ws.length n = true
  · rw [if_pos h, List.filter_cons, if_pos h]
    rfl
  · rw [if_neg h, List.filter_cons, if_neg h]
    rfl
theorem lot_head {ws : List (List Nat)} {i : Nat} (hi : i < ws.length) : ∃ a r, plcN ws ws.length (wAt ws i) = a :: r ∧ isGrp ws ws.length i = (decide (1 < (a :: r).length) && decide (a = i)) := by
  obtain ⟨a, h1, h2, h3⟩ := first_ex ws (n := ws.length) hi
  obtain ⟨r, e⟩ := plc_head ws (n := ws.length) (i := a) (by omega) h2
  rw [h3] at e
  refine ⟨a, r, e, ?_⟩
  unfold isGrp
  rw [e, Bool.and_comm]
  congr 1
  by_cases q : a = i
  · rw [decide_eq_true q, ← q, h2]
  · rw [decide_eq_false q]
    cases f : firstB ws i with
    | false => rfl
    | true => exact absurd h3 ((first_iff ws).mp f a (by omega))
theorem fd_the_law (F : FnP K "law" s_law f fd) (G : Gs mg) (F0 : DRAW P w K mg base k) (F1 : Fd P w K mg base k "_law_mask" ["_law_row", "_law_width"] (spW K pre_mask post_mask)) (F2 : Fd P w K mg base k "_law_line" ["_law_row", "_law_most", "_law_letters"] (spW K pre_line post_line)) (F3 : Fd P w K mg base k "_law_views" ["_law_line_here", "_law_mask_here"] (spR K R_lviews))
    (F4 : Fd P w K mg base k "_law_tells" ["_law_line_here", "_law_mask_here"] (spR K R_ltells)) (F5 : Fd P w K mg base k "_law_unlike" ["_law_one", "_law_other"] (spR K R_lunlike)) (F6 : Fd P w K mg base k "views" ["row", "mask"] (spR K R_views)) (F7 : Fd P w K mg base k "tells" ["row", "mask"] (spR K R_tells)) (F8 : Fd P w K mg base k "alike" ["row", "mask"] (spR K R_alike))
    (F9 : Fd P w K mg base k "groups" ["row", "mask"] (spR K R_groups)) (F10 : Fd P w K mg base k "distance" ["row", "mask"] (spR K R_distance)) : FnOk P w K mg base CX0 (k + 1) f fd ["_law_script"] (spLaw K) := by
  have sc : FnScope ["_law_script", "_law_row", "_law_turn", "_law_mask_here", "_law_line_here", "_law_told", "_law_pairs", "_law_other", "_law_one", "_law_same", "_law_lots", "_law_at", "_law_lot", "_law_sizes"] ["_law_script"] (defScope s_law) := ⟨rfl, rfl, rfl, by decide +kernel, rfl, by decide +kernel, by decide +kernel⟩
  refine fd_law (rest := (defBody s_law).drop 1) F sc rfl rfl (h := fun cdv A outer s H E hr W r scr ns hrow => ?_)
  have hu := hr.units
  refine run_forS 2 (it_range (n := 4) ed_int G.range) (fun i => [.no, .r r, .no, .no, .no, .no, .no, .no, .no, .no, .no, .no, .no, .no]) (fun _ => []) (fun W1 lw i x hx => ?_) (run_ret ed_bl rfl) sc.nd
  have hrow1 := lw.row.trans hrow
  refine run_setP 3 (ev_lmask 12 F1 hr hrow1 1 (ed_int.evP ⟨12, rfl, by decide, by decide⟩)) (fun d ⟨m, e, hm, _⟩ => ?_) sc.nd
  subst e
  have hml := maskB_len hm
  have hm1 := maskB_pos hm
  refine run_setP 4 (ev_lline 60 4 F2 hr hrow1 1 ((ev_pick [nn 8, nn 30, nn 60] (ed_lst (ea_cons ed_int (ea_cons ed_int (ea_cons ed_int ea_nil))) (by show 3 ≤ 1000; decide)) (ev_takenN 3 F0 hr hrow1 1 ed_int rfl)).imp ?_) (ev_1up (ev_takenN 4 F0 hr hrow1 1 ed_int rfl))) (fun d ⟨l, e, hl, hlow⟩ => ?_) sc.nd
  · intro z hz
    simp only [List.mem_cons, List.not_mem_nil, or_false] at hz
    rcases hz with e | e | e
    · exact ⟨8, e, by decide⟩
    · exact ⟨30, e, by decide⟩
    · exact ⟨60, e, by decide⟩
  subst e
  have hlr : rowB l = true := rowB_of (by omega) fun c hc => by have := hlow c hc; omega
  have hvl := viewsL_len l m
  have hvs := views_small l m
  obtain ⟨ws, hws⟩ : ∃ ws, ws = viewsL l m := ⟨_, rfl⟩
  refine run_set (d := wD ws) 5 ((ed_call F3 hr (ea_cons (vr 4) (ea_cons (vr 3) ea_nil)) ⟨l, m, rfl, by omega, hm1, by omega, rfl⟩).to (by rw [hws, lawV_eq])) ?_ sc.nd
  refine run_if (k := false) (t_or (k := false) (l := false) (tc ((ed_call F6 hr (ea_cons (vr 4) (ea_cons (vr 3) ea_nil)) ⟨l, m, rfl, hlr, hm, rfl⟩).to (by rw [← hws])) (vr 5) (c_neSame hu (shp_w ?hsh))) fun _ => tc (ed_call F7 hr (ea_cons (vr 4) (ea_cons (vr 3) ea_nil)) ⟨l, m, rfl, hlr, hm, rfl⟩) (ed_call F4 hr (ea_cons (vr 4) (ea_cons (vr 3) ea_nil)) ⟨l, m, rfl, by omega, hm1, by omega, rfl⟩) (c_neSame hu Shp.bl)) (fun e => nomatch e) (fun _ => run_skip ?_)
  case hsh => first | (rw [hws]; exact views_128 (rowB_low hlr)) | exact views_128 (rowB_low hlr)
  rw [← hws] at hvl hvs
  have hwl : ws.length ≤ 60 := by omega
  have hsq : ws.length * ws.length ≤ 3600 := Nat.mul_le_mul hwl hwl
  have hap := allPr_len ws.length
  have hg : ∀ i, i < ws.length → (ws.map sD)[i]? = some (sD (wAt ws i)) := fun i hi => by
    rw [List.getElem?_map, List.getElem?_eq_getElem hi, wAt_of (List.getElem?_eq_getElem hi)]
    rfl
  have hgl : ∀ i, i < ws.length → (wAt ws i).length = (seenL m).length := fun i hi => by
    have hmem : wAt ws i ∈ viewsL l m := by
      rw [← hws]
      show ws.getD i [] ∈ ws
      rw [List.getD_eq_getElem?_getD, List.getElem?_eq_getElem hi]
      exact List.getElem_mem hi
    unfold viewsL at hmem
    obtain ⟨p, _, e⟩ := List.mem_map.mp hmem
    rw [← e]
    exact viewL_len l m p
  refine run_set (d := .list ((allPr 0).map prN)) 6 (ed_lst ea_nil (by simp [allPr])) ?_ sc.nd
  refine run_forS 7 (it_range (n := ws.length) (lenLw G (vr 5)) G.range) (fun i => [.no, .r r, .no, .d (sD m), .d (sD l), .d (wD ws), .d (.list ((allPr i).map prN)), .no, .no, .no, .no, .no, .no, .no]) (fun _ => []) (fun W2 lw2 i x hx => ?_) ?_ sc.nd
  · have hi := (List.getElem?_eq_some_iff.mp hx).1
    rw [List.length_range] at hi
    obtain rfl : x = i := by
      rw [List.getElem?_range hi] at hx
      exact (Option.some.inj hx).symm
    have hpl := allPr_len x
    have hx60 : x ≤ 60 := by omega
    have hxx : x * x ≤ 60 * 60 := Nat.mul_le_mul hx60 hx60
    refine run_set (d := .list ((allPr (x + 1)).map prN)) 6 ((ed_op (vr 6) (lcN0 8 (it_range (n := x) (vr 7) G.range) (by rw [List.length_range]; omega) (fun i => prN (i, x)) (fun i hi W3 lw3 s3 H3 C3 cl3 fp3 => ed_tup (ea_cons (vr 8) (ea_cons (vr 7) ea_nil)) (by simp)) sc.nd |>.ed sc.nd) (o_cat (by rw [List.length_map, List.length_map, List.length_range]; omega))).to ?_) run_e sc.nd
    show PyData.list _ = PyData.list _
    rw [allPr_succ, List.map_append, List.map_map]
    rfl
  rw [List.length_range]
  refine run_set (d := .list ((likeP ws).map prN)) 9 (ed_callB G.sorted boot_sorted (ea_cons (lcP1 (e1 := fun q : Nat × Nat => nn q.1) (e2 := fun q => nn q.2) 8 7 (it_list (xs := allPr ws.length) (enc := prN) (vr 6) rfl) (by omega) (fun q => decide (wAt ws q.1 = wAt ws q.2)) prN (fun q hq W2 lw2 s2 H2 C2 cl2 fp2 => ?_) (fun q hq hc W2 lw2 s2 H2 C2 cl2 fp2 => ed_tup (ea_cons (vr 8) (ea_cons (vr 7) ea_nil)) (by simp)) sc.nd |>.ed sc.nd) ea_nil) ?hsort) ?_ sc.nd
  · obtain ⟨q1, q2⟩ := mem_allPr.mp hq
    exact tc (ed_ix (vr 5) (vr 8) (i_list (hg _ (by omega)))) (ed_ix (vr 5) (vr 7) (i_list (hg _ q2))) c_eqS
  case hsort =>
    rw [← like_sorted]
    refine c_sortedD hu (fun x hx y hy => ?_) (.inl fun x hx => ?_) ?_ (fun x hx => ?_) ?_
    · obtain ⟨z, _, rfl⟩ := List.mem_map.mp hx
      obtain ⟨y, _, rfl⟩ := List.mem_map.mp hy
      simp [PySem.W.alike, PySem.W.alikeAll]
    · obtain ⟨z, _, rfl⟩ := List.mem_map.mp hx
      exact ⟨_, _, rfl⟩
    · rw [List.length_map]
      exact Nat.le_trans (List.length_filter_le ..) (by omega)
    · obtain ⟨z, _, rfl⟩ := List.mem_map.mp hx
      simp [PyData.depth, PyData.depthAll]
    · exact nodAll_map (f := prN) (fun _ => rfl) _
  refine run_if (k := false) (tc ((ed_call F8 hr (ea_cons (vr 4) (ea_cons (vr 3) ea_nil)) ⟨l, m, rfl, hlr, hm, rfl⟩).to (by rw [← hws])) ((ed_if (x := optP (likeP ws).head?) (y := .none) (k := !((likeP ws).map prN).isEmpty) (tc (vr 9) (ed_lst ea_nil (by simp)) (c_neNil hu (shp_prs _))) (fun q => ?hx) (fun q => ed_non)).to ?hy) (c_neSame hu (shp_optP _))) (fun e => nomatch e) (fun _ => run_skip ?_)
  case hx =>
    cases e : likeP ws with
    | nil => rw [e] at q; cases q
    | cons a t => exact ed_ix (vr 9) ed_int (i_list (n := 0) rfl)
  case hy =>
    cases likeP ws <;> rfl
  refine run_newL 10 (fun a => ?_) sc.nd
  refine run_forS 11 (it_range (n := ws.length) (lenLw G (vr 5)) G.range) (fun i => [.no, .r r, .no, .d (sD m), .d (sD l), .d (wD ws), .d (.list ((allPr ws.length).map prN)), .no, .no, .no, .r a, .no, .no, .no]) (fun i => [(a, .lst (grpsL ws i))]) (fun W2 lw2 i x hx => ?_) ?_ sc.nd
  · have hi := (List.getElem?_eq_some_iff.mp hx).1
    rw [List.length_range] at hi
    obtain rfl : x = i := by
      rw [List.getElem?_range hi] at hx
      exact (Option.some.inj hx).symm
    obtain ⟨z, t, e1, e2⟩ := lot_head hi
    have hz : z :: t = plcN ws ws.length (wAt ws x) := e1.symm
    have hzl := plc_len ws ws.length (wAt ws x)
    rw [← hz] at hzl
    refine run_set (d := tupN (z :: t)) 12 ((ed_callT G.tuple boot_tuple (ea_cons (lcN1 7 (it_range (n := ws.length) (lenLw G (vr 5)) G.range) (by rw [List.length_range]; omega) (fun j => decide (wAt ws j = wAt ws x)) nn (fun j hj W3 lw3 s3 H3 C3 cl3 fp3 => tc (ed_ix (vr 5) (vr 7) (i_list (hg j (List.mem_range.mp hj)))) (ed_ix (vr 5) (vr 11) (i_list (hg x hi))) c_eqS) (fun j hj hc W3 lw3 s3 H3 C3 cl3 fp3 => vr 7) sc.nd |>.ed sc.nd) ea_nil) c_tupL).to (by rw [hz]; rfl)) ?_ sc.nd
    have hgs := grps_succ ws x
    have hgl2 : (grpsL ws x).length ≤ x := by
      unfold grpsL
      rw [List.length_map]
      exact Nat.le_trans (List.length_filter_le ..) (by simp)
    refine run_if (k := isGrp ws ws.length x) ((t_and (tc (lenT G (vr 12)) ed_int c_gt) (fun _ => tc (ed_ix (vr 12) ed_int (i_tup (n := 0) rfl)) (vr 11) c_eqI)).to ?_) (fun q => ?_) (fun q => run_skip ?_)
    · rw [e2]
      congr 1
      · rw [List.length_map]
        exact decide_eq_decide.mpr (by omega)
      · exact decide_eq_decide.mpr (by omega)
    · rw [q, if_pos rfl, ← hz] at hgs
      refine run_app (ys := grpsL ws x) 10 0 (vr 12) (by omega) ?_
      rw [hgs]
      exact run_skip run_e
    · rw [q, if_neg (by simp), List.append_nil] at hgs
      rw [hgs]
      exact run_e
  rw [List.length_range]
  refine run_fix 10 (ys := grpsL ws ws.length) ?_
  refine run_if (k := false) (tc ((ed_call F9 hr (ea_cons (vr 4) (ea_cons (vr 3) ea_nil)) ⟨l, m, rfl, hlr, hm, rfl⟩).to (by rw [← hws])) (vr 10) (c_neSame hu (shp_grps ..))) (fun e => nomatch e) (fun _ => run_skip ?_)
  refine run_setLcP 13 (lcP0 (e1 := fun q : Nat × Nat => nn q.1) (e2 := fun q => nn q.2) 8 7 (it_list (xs := allPr ws.length) (enc := prN) (vr 6) rfl) (by omega) (fun q => nn (unlikeN (wAt ws q.1) (wAt ws q.2))) (fun q hq W2 lw2 s2 H2 C2 cl2 fp2 => ?_) sc.nd) (fun ys ey => ?_) sc.nd
  · obtain ⟨q1, q2⟩ := mem_allPr.mp hq
    have g1 := hgl q.1 (by omega)
    have g2 := hgl q.2 q2
    have := seenL_len m
    exact ed_call F5 hr (ea_cons (ed_ix (vr 5) (vr 8) (i_list (hg _ (by omega)))) (ea_cons (ed_ix (vr 5) (vr 7) (i_list (hg _ q2))) ea_nil)) ⟨_, _, rfl, by omega, by omega, rfl⟩
  obtain rfl : ys = (distL ws).map nn := by
    rw [ey, dist_pr, List.map_map]
    rfl
  have hde : (distL ws).isEmpty = ((allPr ws.length).map prN).isEmpty := by
    rw [dist_pr]
    cases allPr ws.length <;> rfl
  refine run_if (k := false) (tc ((ed_call F10 hr (ea_cons (vr 4) (ea_cons (vr 3) ea_nil)) ⟨l, m, rfl, hlr, hm, rfl⟩).to (by rw [← hws])) ((ed_if (x := optN (distL ws).min?) (y := .none) (k := !((allPr ws.length).map prN).isEmpty) (tc (vr 6) (ed_lst ea_nil (by simp)) (c_neNil hu (shp_prs _))) (fun q => ?hx2) (fun q => ed_non)).to ?hy2) (c_neSame hu (shp_optN _))) (fun e => nomatch e) (fun _ => run_skip run_e)
  case hx2 =>
    rw [← hde] at q
    cases em : (distL ws).min? with
    | none =>
      rw [List.min?_eq_none_iff.mp em] at q
      cases q
    | some z =>
      obtain ⟨g1, g2⟩ := List.min?_eq_some_iff.mp em
      have em2 : (distL ws).map nn = ((distL ws).map fun x : Nat => (x : Int)).map PyData.int := by rw [List.map_map]; rfl
      refine ed_callB G.min boot_min (ea_cons ((vr 13).to (y := .list (((distL ws).map fun x : Nat => (x : Int)).map PyData.int)) (by rw [← em2])) ea_nil) (c_min (ns := (distL ws).map fun x : Nat => (x : Int)) rfl (List.mem_map.mpr ⟨z, g1, rfl⟩) fun y hy => ?_)
      obtain ⟨x, hx, rfl⟩ := List.mem_map.mp hy
      have := g2 x hx
      omega
  case hy2 =>
    rw [← hde]
    cases ed : distL ws <;> rfl
end
end HW
set_option maxHeartbeats 4000000
namespace HW
open PySem PySem.Spec PyProof.Rows L2 Tx
open SX (S)
theorem facts {P : Program} {w : World} {K : PySem.W.Frag} {h : Heap} {mg : Str → Option Value} {f : Addr} (X : K.In h) (G0 : h.Ns mainGlobals mg) (hfa : mg ("law" : Str) = some (.ref f)) (c : He.SaysD Tx.fa Tx.fn K) (cx : Tx.ex K = true) :
    ∃ fd : FuncData, (∀ (s : Shared) (v : Value), BindsTo s fd ⟨[v], []⟩ [("_law_script", v)]) ∧ ∀ base : Heap, K.In base → base.Ns mainGlobals mg → FnOk P w K mg base CX0 6 f fd ["_law_script"] (spLaw K) := by
  obtain ⟨q__law_taken, F__law_taken⟩ := c.def_ 15 (d := d__law_taken) rfl
  have g__law_taken := He.glo_ok X G0 (c.fact 15 (f := .glo "_law_taken") rfl)
  obtain ⟨q__law_mask, F__law_mask⟩ := c.def_ 16 (d := d__law_mask) rfl
  have g__law_mask := He.glo_ok X G0 (c.fact 16 (f := .glo "_law_mask") rfl)
  obtain ⟨q__law_line, F__law_line⟩ := c.def_ 17 (d := d__law_line) rfl
  have g__law_line := He.glo_ok X G0 (c.fact 17 (f := .glo "_law_line") rfl)
  obtain ⟨q__law_open, F__law_open⟩ := c.def_ 18 (d := d__law_open) rfl
  have g__law_open := He.glo_ok X G0 (c.fact 18 (f := .glo "_law_open") rfl)
  obtain ⟨q__law_views, F__law_views⟩ := c.def_ 19 (d := d__law_views) rfl
  have g__law_views := He.glo_ok X G0 (c.fact 19 (f := .glo "_law_views") rfl)
  obtain ⟨q__law_tells, F__law_tells⟩ := c.def_ 20 (d := d__law_tells) rfl
  have g__law_tells := He.glo_ok X G0 (c.fact 20 (f := .glo "_law_tells") rfl)
  obtain ⟨q__law_unlike, F__law_unlike⟩ := c.def_ 21 (d := d__law_unlike) rfl
  have g__law_unlike := He.glo_ok X G0 (c.fact 21 (f := .glo "_law_unlike") rfl)
  obtain ⟨q_is_row, F_is_row⟩ := c.def_ 2 (d := d_is_row) rfl
  have g_is_row := He.glo_ok X G0 (c.fact 2 (f := .glo "is_row") rfl)
  obtain ⟨q_need_row, F_need_row⟩ := c.def_ 3 (d := d_need_row) rfl
  have g_need_row := He.glo_ok X G0 (c.fact 3 (f := .glo "need_row") rfl)
  obtain ⟨q_is_mask, F_is_mask⟩ := c.def_ 0 (d := d_is_mask) rfl
  have g_is_mask := He.glo_ok X G0 (c.fact 0 (f := .glo "is_mask") rfl)
  obtain ⟨q_need_mask, F_need_mask⟩ := c.def_ 1 (d := d_need_mask) rfl
  have g_need_mask := He.glo_ok X G0 (c.fact 1 (f := .glo "need_mask") rfl)
  obtain ⟨q_seen_by, F_seen_by⟩ := c.def_ 4 (d := d_seen_by) rfl
  have g_seen_by := He.glo_ok X G0 (c.fact 4 (f := .glo "seen_by") rfl)
  obtain ⟨q_view_by, F_view_by⟩ := c.def_ 5 (d := d_view_by) rfl
  have g_view_by := He.glo_ok X G0 (c.fact 5 (f := .glo "view_by") rfl)
  obtain ⟨q_views_of, F_views_of⟩ := c.def_ 6 (d := d_views_of) rfl
  have g_views_of := He.glo_ok X G0 (c.fact 6 (f := .glo "views_of") rfl)
  obtain ⟨q_views, F_views⟩ := c.def_ 7 (d := d_views) rfl
  have g_views := He.glo_ok X G0 (c.fact 7 (f := .glo "views") rfl)
  obtain ⟨q_tells_by, F_tells_by⟩ := c.def_ 8 (d := d_tells_by) rfl
  have g_tells_by := He.glo_ok X G0 (c.fact 8 (f := .glo "tells_by") rfl)
  obtain ⟨q_tells, F_tells⟩ := c.def_ 9 (d := d_tells) rfl
  have g_tells := He.glo_ok X G0 (c.fact 9 (f := .glo "tells") rfl)
  obtain ⟨q_alike, F_alike⟩ := c.def_ 10 (d := d_alike) rfl
  have g_alike := He.glo_ok X G0 (c.fact 10 (f := .glo "alike") rfl)
  obtain ⟨q_groups, F_groups⟩ := c.def_ 11 (d := d_groups) rfl
  have g_groups := He.glo_ok X G0 (c.fact 11 (f := .glo "groups") rfl)
  obtain ⟨q_unlike, F_unlike⟩ := c.def_ 12 (d := d_unlike) rfl
  have g_unlike := He.glo_ok X G0 (c.fact 12 (f := .glo "unlike") rfl)
  obtain ⟨q_distance_of, F_distance_of⟩ := c.def_ 13 (d := d_distance_of) rfl
  have g_distance_of := He.glo_ok X G0 (c.fact 13 (f := .glo "distance_of") rfl)
  obtain ⟨q_distance, F_distance⟩ := c.def_ 14 (d := d_distance) rfl
  have g_distance := He.glo_ok X G0 (c.fact 14 (f := .glo "distance") rfl)
  obtain ⟨q_law, F_law⟩ := c.def_ 22 (d := d_law) rfl
  have g_law := He.glo_ok X G0 (c.fact 22 (f := .glo "law") rfl)
  have e := hfa.symm.trans g_law
  cases e
  have n_isinstance := He.free_ok X G0 (c.fact 26 (f := .free "isinstance") rfl)
  have n_str := He.free_ok X G0 (c.fact 32 (f := .free "str") rfl)
  have n_int := He.free_ok X G0 (c.fact 25 (f := .free "int") rfl)
  have n_len := He.free_ok X G0 (c.fact 27 (f := .free "len") rfl)
  have n_all := He.free_ok X G0 (c.fact 23 (f := .free "all") rfl)
  have n_range := He.free_ok X G0 (c.fact 29 (f := .free "range") rfl)
  have n_set := He.free_ok X G0 (c.fact 30 (f := .free "set") rfl)
  have n_enumerate := He.free_ok X G0 (c.fact 24 (f := .free "enumerate") rfl)
  have n_zip := He.free_ok X G0 (c.fact 34 (f := .free "zip") rfl)
  have n_min := He.free_ok X G0 (c.fact 28 (f := .free "min") rfl)
  have n_max := He.free_ok X G0 (c.fact 35 (f := .free "max") rfl)
  have n_sorted := He.free_ok X G0 (c.fact 31 (f := .free "sorted") rfl)
  have n_any := He.free_ok X G0 (c.fact 36 (f := .free "any") rfl)
  have n_tuple := He.free_ok X G0 (c.fact 33 (f := .free "tuple") rfl)
  have n_list := He.free_ok X G0 (c.fact 37 (f := .free "list") rfl)
  have n_bool := He.free_ok X G0 (c.fact 38 (f := .free "bool") rfl)
  have n_dict := He.free_ok X G0 (c.fact 39 (f := .free "dict") rfl)
  have n_abs := He.free_ok X G0 (c.fact 40 (f := .free "abs") rfl)
  have n_sum := He.free_ok X G0 (c.fact 41 (f := .free "sum") rfl)
  have k_SEEN := He.str_ok X G0 (c.fact 42 (f := .str "SEEN" "x") rfl)
  have k_HOLE := He.str_ok X G0 (c.fact 43 (f := .str "HOLE" ".") rfl)
  have k_LETTERS := He.str_ok X G0 (c.fact 44 (f := .str "LETTERS" "abcd") rfl)
  have k_MOST_MASK := He.int_ok X G0 (c.fact 45 (f := .int "MOST_MASK" 12) rfl)
  have k_MOST_ROW := He.int_ok X G0 (c.fact 46 (f := .int "MOST_ROW" 60) rfl)
  have G : Gs mg := ⟨n_isinstance, n_str, n_int, n_len, n_all, n_range, n_set, n_enumerate, n_zip, n_min, n_max, n_sorted, n_any, n_tuple, n_list, n_bool, n_dict, n_abs, n_sum⟩
  have b := FunD.bindsA (ps := ["_law_script"]) F_law fun _ _ _ _ _ _ us hl => match us, hl with | [_], _ => rfl
  refine ⟨q_law, fun s v => b s [v] rfl, fun base _ _ => ?_⟩
  have A__law_taken : Fd P w K mg base 1 "_law_taken" ["_law_row", "_law_many"] (spW K R_taken_pre R_taken_post) := ⟨_, _, fd_taken (k := 0) F__law_taken n_int n_len, g__law_taken, FunD.kp F__law_taken, FunD.bindsN F__law_taken fun _ _ _ _ _ _ us hl => match us, hl with | [_, _], _ => rfl⟩
  have A__law_mask : Fd P w K mg base 2 "_law_mask" ["_law_row", "_law_width"] (spW K pre_mask post_mask) := ⟨_, _, fd_law_mask (k := 1) F__law_mask n_range (A__law_taken.mono (by decide)), g__law_mask, FunD.kp F__law_mask, FunD.bindsN F__law_mask fun _ _ _ _ _ _ us hl => match us, hl with | [_, _], _ => rfl⟩
  have A__law_line : Fd P w K mg base 2 "_law_line" ["_law_row", "_law_most", "_law_letters"] (spW K pre_line post_line) := ⟨_, _, fd_law_line (k := 1) F__law_line n_range (A__law_taken.mono (by decide)), g__law_line, FunD.kp F__law_line, FunD.bindsN F__law_line fun _ _ _ _ _ _ us hl => match us, hl with | [_, _, _], _ => rfl⟩
  have A__law_open : Fd P w K mg base 1 "_law_open" ["_law_mask_here"] (spR K R_open) := ⟨_, _, fd_law_open (k := 0) F__law_open G, g__law_open, FunD.kp F__law_open, FunD.bindsN F__law_open fun _ _ _ _ _ _ us hl => match us, hl with | [_], _ => rfl⟩
  have A__law_views : Fd P w K mg base 2 "_law_views" ["_law_line_here", "_law_mask_here"] (spR K R_lviews) := ⟨_, _, fd_law_views (k := 1) F__law_views G (A__law_open.mono (by decide)), g__law_views, FunD.kp F__law_views, FunD.bindsN F__law_views fun _ _ _ _ _ _ us hl => match us, hl with | [_, _], _ => rfl⟩
  have A__law_tells : Fd P w K mg base 3 "_law_tells" ["_law_line_here", "_law_mask_here"] (spR K R_ltells) := ⟨_, _, fd_law_tells (k := 2) F__law_tells G (A__law_views.mono (by decide)), g__law_tells, FunD.kp F__law_tells, FunD.bindsN F__law_tells fun _ _ _ _ _ _ us hl => match us, hl with | [_, _], _ => rfl⟩
  have A__law_unlike : Fd P w K mg base 1 "_law_unlike" ["_law_one", "_law_other"] (spR K R_lunlike) := ⟨_, _, fd_law_unlike (k := 0) F__law_unlike G, g__law_unlike, FunD.kp F__law_unlike, FunD.bindsN F__law_unlike fun _ _ _ _ _ _ us hl => match us, hl with | [_, _], _ => rfl⟩
  have A_is_row : Fd P w K mg base 1 "is_row" ["value"] (spR K R_is_row) := ⟨_, _, fd_is_row (k := 0) F_is_row G k_LETTERS k_MOST_ROW, g_is_row, FunD.kp F_is_row, FunD.bindsN F_is_row fun _ _ _ _ _ _ us hl => match us, hl with | [_], _ => rfl⟩
  have A_need_row : Fd P w K mg base 2 "need_row" ["row"] (spR K R_need_row) := ⟨_, _, fd_need_row (k := 1) F_need_row (A_is_row.mono (by decide)), g_need_row, FunD.kp F_need_row, FunD.bindsN F_need_row fun _ _ _ _ _ _ us hl => match us, hl with | [_], _ => rfl⟩
  have A_is_mask : Fd P w K mg base 1 "is_mask" ["value"] (spR K R_is_mask) := ⟨_, _, fd_is_mask (k := 0) F_is_mask G k_SEEN k_HOLE k_MOST_MASK, g_is_mask, FunD.kp F_is_mask, FunD.bindsN F_is_mask fun _ _ _ _ _ _ us hl => match us, hl with | [_], _ => rfl⟩
  have A_need_mask : Fd P w K mg base 2 "need_mask" ["mask"] (spR K R_need_mask) := ⟨_, _, fd_need_mask (k := 1) F_need_mask (A_is_mask.mono (by decide)), g_need_mask, FunD.kp F_need_mask, FunD.bindsN F_need_mask fun _ _ _ _ _ _ us hl => match us, hl with | [_], _ => rfl⟩
  have A_seen_by : Fd P w K mg base 1 "seen_by" ["mask"] (spR K R_seen_by) := ⟨_, _, fd_seen_by (k := 0) F_seen_by G k_SEEN, g_seen_by, FunD.kp F_seen_by, FunD.bindsN F_seen_by fun _ _ _ _ _ _ us hl => match us, hl with | [_], _ => rfl⟩
  have A_view_by : Fd P w K mg base 2 "view_by" ["row", "mask", "place"] (spR K R_view_by) := ⟨_, _, fd_view_by (k := 1) F_view_by G (A_seen_by.mono (by decide)), g_view_by, FunD.kp F_view_by, FunD.bindsN F_view_by fun _ _ _ _ _ _ us hl => match us, hl with | [_, _, _], _ => rfl⟩
  have A_views_of : Fd P w K mg base 3 "views_of" ["row", "mask"] (spR K R_views_of) := ⟨_, _, fd_views_of (k := 2) F_views_of G (A_view_by.mono (by decide)), g_views_of, FunD.kp F_views_of, FunD.bindsN F_views_of fun _ _ _ _ _ _ us hl => match us, hl with | [_, _], _ => rfl⟩
  have A_views : Fd P w K mg base 4 "views" ["row", "mask"] (spR K R_views) := ⟨_, _, fd_views (k := 3) F_views (A_need_row.mono (by decide)) (A_need_mask.mono (by decide)) (A_views_of.mono (by decide)), g_views, FunD.kp F_views, FunD.bindsN F_views fun _ _ _ _ _ _ us hl => match us, hl with | [_, _], _ => rfl⟩
  have A_tells_by : Fd P w K mg base 4 "tells_by" ["row", "mask"] (spR K R_tells_by) := ⟨_, _, fd_tells_by (k := 3) F_tells_by G (A_views_of.mono (by decide)), g_tells_by, FunD.kp F_tells_by, FunD.bindsN F_tells_by fun _ _ _ _ _ _ us hl => match us, hl with | [_, _], _ => rfl⟩
  have A_tells : Fd P w K mg base 5 "tells" ["row", "mask"] (spR K R_tells) := ⟨_, _, fd_tells (k := 4) F_tells (A_need_row.mono (by decide)) (A_need_mask.mono (by decide)) (A_tells_by.mono (by decide)), g_tells, FunD.kp F_tells, FunD.bindsN F_tells fun _ _ _ _ _ _ us hl => match us, hl with | [_, _], _ => rfl⟩
  have A_alike : Fd P w K mg base 4 "alike" ["row", "mask"] (spR K R_alike) := ⟨_, _, fd_alike (k := 3) F_alike G (A_need_row.mono (by decide)) (A_need_mask.mono (by decide)) (A_views_of.mono (by decide)), g_alike, FunD.kp F_alike, FunD.bindsN F_alike fun _ _ _ _ _ _ us hl => match us, hl with | [_, _], _ => rfl⟩
  have A_groups : Fd P w K mg base 4 "groups" ["row", "mask"] (spR K R_groups) := ⟨_, _, fd_groups (k := 3) F_groups G (A_need_row.mono (by decide)) (A_need_mask.mono (by decide)) (A_views_of.mono (by decide)), g_groups, FunD.kp F_groups, FunD.bindsN F_groups fun _ _ _ _ _ _ us hl => match us, hl with | [_, _], _ => rfl⟩
  have A_unlike : Fd P w K mg base 1 "unlike" ["one", "other"] (spR K R_unlike) := ⟨_, _, fd_unlike (k := 0) F_unlike G, g_unlike, FunD.kp F_unlike, FunD.bindsN F_unlike fun _ _ _ _ _ _ us hl => match us, hl with | [_, _], _ => rfl⟩
  have A_distance_of : Fd P w K mg base 2 "distance_of" ["told"] (spR K R_distance_of) := ⟨_, _, fd_distance_of (k := 1) F_distance_of G (A_unlike.mono (by decide)), g_distance_of, FunD.kp F_distance_of, FunD.bindsN F_distance_of fun _ _ _ _ _ _ us hl => match us, hl with | [_], _ => rfl⟩
  have A_distance : Fd P w K mg base 4 "distance" ["row", "mask"] (spR K R_distance) := ⟨_, _, fd_distance (k := 3) F_distance (A_need_row.mono (by decide)) (A_need_mask.mono (by decide)) (A_views_of.mono (by decide)) (A_distance_of.mono (by decide)), g_distance, FunD.kp F_distance, FunD.bindsN F_distance fun _ _ _ _ _ _ us hl => match us, hl with | [_, _], _ => rfl⟩
  exact fd_the_law (k := 5) F_law G (A__law_taken.mono (by decide)) (A__law_mask.mono (by decide)) (A__law_line.mono (by decide)) (A__law_views.mono (by decide)) (A__law_tells.mono (by decide)) (A__law_unlike.mono (by decide)) (A_views.mono (by decide)) (A_tells.mono (by decide)) (A_alike.mono (by decide)) (A_groups.mono (by decide)) (A_distance.mono (by decide))
end HW
open PySem PySem.W PySem.Calls PyProof.Rows
theorem PySem.Challenge.cw_holedwindows_k03_whole_views_holds : PySem.Challenge.rw_holedwindows_k03_whole_views.Holds := by
  w_on; o_law
  refine HandSHeadRun.head_any (r := OpenLaw.row PySem.Challenge.rw_holedwindows_k03_whole_views) (q := view (OpenLaw.row PySem.Challenge.rw_holedwindows_k03_whole_views).prog [34]) (H := Tx.hk) (ob := Tx.ob) (M := 3000) (loose := Tx.names) (d := HandSHeadRun.topDef (OpenLaw.row PySem.Challenge.rw_holedwindows_k03_whole_views).prog 34) (kwd := []) Tx.ob_eq
    (by kernel_rfl) (fun s => by kernel_rfl) Tx.run (by kernel_rfl) (by kernel_rfl) (by kernel_rfl) (by rfl) (by first | assumption | decide +kernel) (by decide +kernel) ⟨rfl, rfl, rfl, rfl, rfl, by decide +kernel⟩ ?hw ?hc
  case hw => w_witness2
  case hc =>
    refine L2.walk_ofE (l := PySem.Challenge.rw_holedwindows_k03_whole_views) (n := 63) (k := 6) (x := "_law_script") (CX := L2.CX0) rfl (by decide) (by kernel_rfl) ⟨rfl, by decide, by decide⟩ ?F (fun _ _ _ _ z => z)
    intro w mg fa h Y G hmg0
    obtain ⟨K, KX, c, cx⟩ := Y
    have hmg : mg ("law" : PySem.Str) = some (.ref fa) := by
      have e : (HandSHeadRun.topDef (OpenLaw.row PySem.Challenge.rw_holedwindows_k03_whole_views).prog 34).name = ("law" : PySem.Str) := by kernel_rfl
      rw [← e]
      exact hmg0
    obtain ⟨fd, hb, hF⟩ := HW.facts (P := (PySem.Challenge.rw_holedwindows_k03_whole_views).prog) (w := w) KX G hmg c cx
    exact ⟨K, fd, HW.spLaw K, KX, hb, fun H a ns hl _ hS => ⟨a, ns, rfl, hl, hS, fun _ => rfl⟩, hF⟩
