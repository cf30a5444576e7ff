import PyProof.Rows.All
import Wide.All
import OpenK.AllK
import Wide.FinOn
import KE.KStateDown
import HandS.ForMost
import HandS.Head0
import HandS.Head1
import HandS.Head2
import HandS.HeadEnd
import HandS.HeadHook1
import HandS.HeadHook2
import HandS.Defaults
import HandS.Codes
import HandS.IsInst
import KE.GoesEnum
import HandS.Strs
import HandS.Zip
import HandS.TupAny
import HandS.TupMul
import PyProof.StrOps2
import HandS.NoneIn
import HandS.Style
import KE.KRevSl
import HandS.Replace
import KE.DataMinMax
import KE.SortData
import KE.DataCmp
import HandS.Flow
import HandS.Wide
import HandS.Set
import HandS.SetFor
import HandS.ExcInit
import HandS.ExcField
import HandS.TryOnly
import HandS.TryMany
import HandS.WordsExc
import HandS.ClsMeth
import HandS.Iter
import PyProof.SeqIndex
import HandS.TupSets
import PyProof.StrLawsChain
import HandS.Property
import KE.KAssignIn
import OpenK.KOps
import HandS.Conv
import PySem.Challenge.RW_holedwindows_k22_whole_trackers
set_option Elab.async false
set_option linter.all false
set_option maxRecDepth 100000
set_option maxHeartbeats 4000000
namespace HX
open PySem PySem.Spec PyProof.Rows L2 He
/-! the head's Hook with one more question ex -/
abbrev AlE : Type := AlD × Bool
abbrev gTup (K : PySem.W.Frag) (mg : Str → Option Value) (x : Str) (ns : List Int) : Prop := ∃ a, mg x = some (.ref a) ∧ ∀ H : Hp, SqT K H a (ns.map V.int)
end HX
set_option maxHeartbeats 4000000
/-! A layer of my own over HandS: expressions that evaluate to plain data, statements over a state of data. -/
namespace HW
open PySem PySem.Spec PyProof.Rows L2
/-! ### heaps -/
/-- the heap without the addresses of L -/
def off (L : List Addr) (H : Hp) : Hp := fun a => if a ∈ L then none else H a
theorem off_in {L : List Addr} {H : Hp} {a : Addr} (h : a ∈ L) : off L H a = none := if_pos h
theorem off_out {L : List Addr} {H : Hp} {a : Addr} (h : a ∉ L) : off L H a = H a := if_neg h
theorem off_some {L : List Addr} {H : Hp} {a : Addr} {o : HO} (h : off L H a = some o) : a ∉ L ∧ H a = some o := by
  by_cases q : a ∈ L
  · rw [off_in q] at h; cases h
  · rw [off_out q] at h; exact ⟨q, h⟩
/-- H' keeps all that H has but at L -/
def XT (L : List Addr) (H H' : Hp) : Prop := ∀ a o, off L H a = some o → off L H' a = some o
theorem XT.refl {L : List Addr} {H : Hp} : XT L H H := fun _ _ h => h
theorem XT.trans {L : List Addr} {H H1 H2 : Hp} (a : XT L H H1) (b : XT L H1 H2) : XT L H H2 := fun x o h => b x o (a x o h)
theorem XT.same {L : List Addr} {H H' : Hp} (e : Same H H') : XT L H H' := fun a o h => by
  obtain ⟨h1, h2⟩ := off_some h
  rw [off_out h1]
  exact e a o h2
theorem same_off {L : List Addr} {H : Hp} : Same (off L H) H := fun _ _ h => (off_some h).2
theorem same_offs {L L' : List Addr} {H : Hp} (h : ∀ a ∈ L', a ∈ L) : Same (off L H) (off L' H) := fun a o e => by
  obtain ⟨h1, h2⟩ := off_some e
  rw [off_out (fun q => h1 (h a q))]
  exact h2

/-! ### data -/
mutual
/-- no dict within -/
def nod : PyData → Bool
  | .dict _ => false
  | .list xs => nodAll xs
  | .tuple xs => nodAll xs
  | _ => true
def nodAll : List PyData → Bool
  | [] => true
  | x :: xs => nod x && nodAll xs
end
mutual
theorem nod_of_lay : ∀ {d : PyData}, d.canLay0 = true → nod d = true
  | .none, _ => rfl
  | .bool _, _ => rfl
  | .int _, _ => rfl
  | .str _, _ => rfl
  | .list xs, h => nodAll_of_lay (xs := xs) h
  | .tuple xs, h => nodAll_of_lay (xs := xs) h
  | .dict _, h => nomatch h
theorem nodAll_of_lay : ∀ {xs : List PyData}, PyData.canLayAll0 xs = true → nodAll xs = true
  | [], _ => rfl
  | x :: xs, h => by
    have q : x.canLay0 = true ∧ PyData.canLayAll0 xs = true := by simpa [PyData.canLayAll0] using h
    show (nod x && nodAll xs) = true
    rw [nod_of_lay q.1, nodAll_of_lay q.2]
    rfl
end
/-- an object of which only the place is told -/
abbrev ptD (a : Addr) : PyData := .dict [(.int a, .none)]
/-- a key as data -/
def kD : L2.Key → PyData
  | .inl i => .int i
  | .inr x => .str x
/-- a locked dict as data: its keys are numbers and texts, or tuples of them -/
abbrev dkD (kvs : List (PyData × PyData)) : PyData := .dict ((.none, .none) :: kvs)
abbrev dtD (kvs : List (PyData × PyData)) : PyData := .dict ((.bool true, .none) :: kvs)
mutual
/-- the value v is the data d -/
inductive Va (K : PySem.W.Frag) (H : Hp) : V → PyData → Prop
  | non : Va K H .non .none
  | bl (b : Bool) : Va K H (.bl b) (.bool b)
  | int (i : Int) : Va K H (.int i) (.int i)
  | str (x : Str) : Va K H (.str x) (.str x)
  | lst {a : Addr} {xs : List V} {ds : List PyData} : H a = some (.lst xs) → VaAll K H xs ds → Va K H (.ref a) (.list ds)
  | tup {a : Addr} {xs : List V} {ds : List PyData} : SqT K H a xs → VaAll K H xs ds → Va K H (.ref a) (.tuple ds)
  | dct {a : Addr} : H a = some (.dK []) → Va K H (.ref a) (.dict [])
  | ptr (a : Addr) : Va K H (.ref a) (.dict [(.int a, .none)])
  | dcf {a : Addr} {o : Obj} {ks : List (Key × V)} {ds : List PyData} {kvs : List (PyData × PyData)} : H a = some (.frz o (.dK ks)) → VaAll K H (ks.map (·.2)) ds → kvs = (ks.map fun p => kD p.1).zip ds → Va K H (.ref a) (dkD kvs)
  | dtf {a : Addr} {o : Obj} {ks : List (List Key × V)} {ds : List PyData} {kvs : List (PyData × PyData)} : H a = some (.frz o (.dT ks)) → VaAll K H (ks.map (·.2)) ds → kvs = (ks.map fun p => PyData.tuple (p.1.map kD)).zip ds → Va K H (.ref a) (dtD kvs)
inductive VaAll (K : PySem.W.Frag) (H : Hp) : List V → List PyData → Prop
  | nil : VaAll K H [] []
  | cons {v : V} {vs : List V} {d : PyData} {ds : List PyData} : Va K H v d → VaAll K H vs ds → VaAll K H (v :: vs) (d :: ds)
end
section
variable {K : PySem.W.Frag} {H H' : Hp}
theorem SqT.up {a : Addr} {xs : List V} (e : Same H H') (h : SqT K H a xs) : SqT K H' a xs := by
  rcases h with (h | ⟨o, h⟩) | h
  · exact .inl (.inl (e _ _ h))
  · exact .inl (.inr ⟨o, e _ _ h⟩)
  · exact .inr h
mutual
theorem Va.up (e : Same H H') : ∀ {v : V} {d : PyData}, Va K H v d → Va K H' v d
  | _, _, .non => .non
  | _, _, .bl b => .bl b
  | _, _, .int i => .int i
  | _, _, .str x => .str x
  | _, _, .lst h hs => .lst (e _ _ h) (VaAll.up e hs)
  | _, _, .tup h hs => .tup (SqT.up e h) (VaAll.up e hs)
  | _, _, .dct h => .dct (e _ _ h)
  | _, _, .ptr a => .ptr a
  | _, _, .dcf h hs q => .dcf (e _ _ h) (VaAll.up e hs) q
  | _, _, .dtf h hs q => .dtf (e _ _ h) (VaAll.up e hs) q
theorem VaAll.up (e : Same H H') : ∀ {vs : List V} {ds : List PyData}, VaAll K H vs ds → VaAll K H' vs ds
  | _, _, .nil => .nil
  | _, _, .cons h hs => .cons (Va.up e h) (VaAll.up e hs)
end
mutual
theorem Va.dp : ∀ {v : V} {d : PyData}, Va K H v d → nod d = true → Dp K H v d
  | _, _, .non, _ => .non
  | _, _, .bl b, _ => .bl b
  | _, _, .int i, _ => .int i
  | _, _, .str x, _ => .str x
  | _, _, .lst h hs, n => .lst (SqL.of h) (VaAll.dp hs n)
  | _, _, .tup h hs, n => .tup h (VaAll.dp hs n)
  | _, _, .dct _, n => nomatch n
  | _, _, .ptr _, n => nomatch n
  | _, _, .dcf _ _ _, n => nomatch n
  | _, _, .dtf _ _ _, n => nomatch n
theorem VaAll.dp : ∀ {vs : List V} {ds : List PyData}, VaAll K H vs ds → nodAll ds = true → DpAll K H vs ds
  | _, _, .nil, _ => .nil
  | _, _, .cons h hs, n => by
    obtain ⟨n1, n2⟩ := Bool.and_eq_true_iff.mp n
    exact .cons (Va.dp h n1) (VaAll.dp hs n2)
end
theorem VaAll.length : ∀ {vs : List V} {ds : List PyData}, VaAll K H vs ds → vs.length = ds.length
  | _, _, .nil => rfl
  | _, _, .cons _ hs => by rw [List.length_cons, List.length_cons, VaAll.length hs]
theorem VaAll.get : ∀ {vs : List V} {ds : List PyData} {i : Nat} {v : V}, VaAll K H vs ds → vs[i]? = some v → ∃ d, ds[i]? = some d ∧ Va K H v d
  | _, _, i, _, .nil, e => by simp at e
  | _, _, 0, _, .cons h _, e => by
    have e : _ = _ := Option.some.inj e
    subst e
    exact ⟨_, rfl, h⟩
  | _, _, i + 1, v, .cons _ hs, e => by
    obtain ⟨d, h1, h2⟩ := VaAll.get (i := i) (v := v) hs (by simpa using e)
    exact ⟨d, by simpa using h1, h2⟩
theorem VaAll.at : ∀ {vs : List V} {ds : List PyData} {i : Nat} {d : PyData}, VaAll K H vs ds → ds[i]? = some d → ∃ v, vs[i]? = some v ∧ Va K H v d
  | _, _, i, _, .nil, e => by simp at e
  | _, _, 0, _, .cons h _, e => by
    have e : _ = _ := Option.some.inj e
    subst e
    exact ⟨_, rfl, h⟩
  | _, _, i + 1, d, .cons _ hs, e => by
    obtain ⟨v, h1, h2⟩ := VaAll.at (i := i) (d := d) hs (by simpa using e)
    exact ⟨v, by simpa using h1, h2⟩
theorem VaAll.app : ∀ {vs ws : List V} {ds es : List PyData}, VaAll K H vs ds → VaAll K H ws es → VaAll K H (vs ++ ws) (ds ++ es)
  | _, _, _, _, .nil, s => s
  | _, _, _, _, .cons h hs, s => .cons h (VaAll.app hs s)
theorem VaAll.take : ∀ {vs : List V} {ds : List PyData} (n : Nat), VaAll K H vs ds → VaAll K H (vs.take n) (ds.take n)
  | _, _, 0, _ => .nil
  | _, _, _ + 1, .nil => .nil
  | _, _, n + 1, .cons h hs => .cons h (VaAll.take n hs)
theorem VaAll.drop : ∀ {vs : List V} {ds : List PyData} (n : Nat), VaAll K H vs ds → VaAll K H (vs.drop n) (ds.drop n)
  | _, _, 0, r => r
  | _, _, _ + 1, .nil => .nil
  | _, _, n + 1, .cons _ hs => VaAll.drop n hs
theorem VaAll.bls : ∀ {vs : List V} {bs : List Bool}, VaAll K H vs (bs.map PyData.bool) → vs = bs.map V.bl
  | _, [], h => by cases h; rfl
  | _, n :: ns, h => by
    cases h with
    | cons h hs => cases h; rw [VaAll.bls hs]; rfl
theorem VaAll.strs : ∀ {vs : List V} {xs : List Str}, VaAll K H vs (xs.map PyData.str) → vs = xs.map V.str
  | _, [], h => by cases h; rfl
  | _, n :: ns, h => by
    cases h with
    | cons h hs => cases h; rw [VaAll.strs hs]; rfl
end
/-! ### the state: slots of data, local mutable objects, the world around -/
inductive DV where
  | no | d (x : PyData) | r (a : Addr)
inductive MO where
  | lst (ds : List PyData) | dK (kvs : List (Key × PyData)) | dT (kvs : List (List Key × PyData)) | ins (C : Addr) (fs : List (Str × PyData))
abbrev Mu := List (Addr × MO)
/-- H0: all that must stay; M: hidden objects (the callers' mutable ones); row: the draws' row, its script -/
structure Wd where
  H0 : Hp
  M : List Addr
  row : Option (Addr × Addr × List Int)
def RowC (H : Hp) (r scr : Addr) : Prop := ∃ i s q : Int, H r = some (.lst [.ref scr, .int i, .int s, .int q]) ∧ 0 ≤ i
def Wd.isRow (W : Wd) (a : Addr) : Prop := ∃ scr ns, W.row = some (a, scr, ns)
structure Fr (W : Wd) (H : Hp) : Prop where
  keep : ∀ a o, ¬ W.isRow a → W.H0 a = some o → H a = some o
  row : ∀ r scr ns, W.row = some (r, scr, ns) → RowC H r scr
structure WdOk (K : PySem.W.Frag) (W : Wd) : Prop where
  hid : ∀ a ∈ W.M, W.H0 a ≠ none
  row : ∀ r scr ns, W.row = some (r, scr, ns) → r ∈ W.M ∧ SqL K W.H0 scr (ns.map V.int) ∧ scr ≠ r ∧ ns.length ≤ 63
def SltR (K : PySem.W.Frag) (H : Hp) : Option V → DV → Prop
  | _, .no => True
  | o, .d d => ∃ v, o = some v ∧ Va K H v d
  | o, .r a => o = some (.ref a)
structure Slots (K : PySem.W.Frag) (H : Hp) (σ : L2.St) (Γ : List DV) : Prop where
  len : σ.length = Γ.length
  at_ : ∀ (i : Nat) (dv : DV), Γ[i]? = some dv → ∃ o, σ[i]? = some o ∧ SltR K H o dv
def MOk (K : PySem.W.Frag) (Ho H : Hp) (a : Addr) : MO → Prop
  | .lst ds => ∃ xs, H a = some (.lst xs) ∧ VaAll K Ho xs ds
  | .dK kvs => ∃ ks : List (Key × V), H a = some (.dK ks) ∧ Paired (fun (p : Key × V) (q : Key × PyData) => p.1 = q.1 ∧ Va K Ho p.2 q.2) ks kvs
  | .dT kvs => ∃ ks : List (List Key × V), H a = some (.dT ks) ∧ Paired (fun (p : List Key × V) (q : List Key × PyData) => p.1 = q.1 ∧ Va K Ho p.2 q.2) ks kvs
  | .ins C fs => ∃ dx, ∃ gs : List (Str × V), H a = some (.ins C dx gs) ∧ Paired (fun (p : Str × V) (q : Str × PyData) => p.1 = q.1 ∧ Va K Ho p.2 q.2) gs fs
abbrev hd (W : Wd) (μ : Mu) : List Addr := W.M ++ μ.map (·.1)
structure Rep (K : PySem.W.Frag) (W : Wd) (Γ : List DV) (μ : Mu) (σ : L2.St) (H : Hp) : Prop where
  wd : WdOk K W
  fr : Fr W H
  sl : Slots K (off (hd W μ) H) σ Γ
  mu : ∀ p ∈ μ, W.H0 p.1 = none ∧ MOk K (off (hd W μ) H) H p.1 p.2
  nd : (μ.map (·.1)).Nodup
section
variable {K : PySem.W.Frag} {H H' Ho Ho' : Hp} {W : Wd} {Γ : List DV} {μ : Mu} {σ : L2.St}
theorem SltR.up (e : Same H H') {o : Option V} {dv : DV} (h : SltR K H o dv) : SltR K H' o dv := by
  cases dv with
  | no => trivial
  | d x => obtain ⟨v, e1, e2⟩ := h; exact ⟨v, e1, e2.up e⟩
  | r a => exact h
theorem Slots.up (e : Same H H') (h : Slots K H σ Γ) : Slots K H' σ Γ := ⟨h.len, fun i dv q => by
  obtain ⟨o, h1, h2⟩ := h.at_ i dv q
  exact ⟨o, h1, h2.up e⟩⟩
theorem Slots.set (h : Slots K H σ Γ) (i : Nat) {v : V} {d : PyData} (r : Va K H v d) : Slots K H (σ.set i (some v)) (Γ.set i (.d d)) := ⟨by rw [List.length_set, List.length_set, h.len], fun j dv q => by
  by_cases hj : j = i
  · subst hj
    have hl : j < Γ.length := by
      have := (List.getElem?_eq_some_iff.mp q).1
      simpa using this
    rw [List.getElem?_set_self hl] at q
    cases q
    exact ⟨_, List.getElem?_set_self (by rw [h.len]; exact hl), v, rfl, r⟩
  · rw [List.getElem?_set_ne (Ne.symm hj)] at q ⊢
    exact h.at_ j dv q⟩
theorem Slots.setr (h : Slots K H σ Γ) (i : Nat) {a : Addr} : Slots K H (σ.set i (some (.ref a))) (Γ.set i (.r a)) := ⟨by rw [List.length_set, List.length_set, h.len], fun j dv q => by
  by_cases hj : j = i
  · subst hj
    have hl : j < Γ.length := by
      have := (List.getElem?_eq_some_iff.mp q).1
      simpa using this
    rw [List.getElem?_set_self hl] at q
    cases q
    exact ⟨_, List.getElem?_set_self (by rw [h.len]; exact hl), rfl⟩
  · rw [List.getElem?_set_ne (Ne.symm hj)] at q ⊢
    exact h.at_ j dv q⟩
theorem Slots.no (h : Slots K H σ Γ) (i : Nat) {x : Option V} : Slots K H (σ.set i x) (Γ.set i .no) := ⟨by rw [List.length_set, List.length_set, h.len], fun j dv q => by
  by_cases hj : j = i
  · subst hj
    have hl : j < Γ.length := by
      have := (List.getElem?_eq_some_iff.mp q).1
      simpa using this
    rw [List.getElem?_set_self hl] at q
    cases q
    exact ⟨_, List.getElem?_set_self (by rw [h.len]; exact hl), trivial⟩
  · rw [List.getElem?_set_ne (Ne.symm hj)] at q ⊢
    exact h.at_ j dv q⟩
theorem pmp {α β : Type} {F G : α → β → Prop} : ∀ {l₁ : List α} {l₂ : List β}, Paired F l₁ l₂ → (∀ a b, F a b → G a b) → Paired G l₁ l₂
  | _, _, .nil, _ => .nil
  | _, _, .cons r t, f => .cons (f _ _ r) (pmp t f)
theorem MOk.up (e : Same Ho Ho') {a : Addr} (e2 : ∀ o, H a = some o → H' a = some o) {m : MO} (h : MOk K Ho H a m) : MOk K Ho' H' a m := by
  cases m with
  | lst ds => obtain ⟨xs, h1, h2⟩ := h; exact ⟨xs, e2 _ h1, h2.up e⟩
  | dK kvs => obtain ⟨xs, h1, h2⟩ := h; exact ⟨xs, e2 _ h1, pmp h2 fun _ _ z => ⟨z.1, z.2.up e⟩⟩
  | dT kvs => obtain ⟨xs, h1, h2⟩ := h; exact ⟨xs, e2 _ h1, pmp h2 fun _ _ z => ⟨z.1, z.2.up e⟩⟩
  | ins C fs => obtain ⟨dx, gs, h1, h2⟩ := h; exact ⟨dx, gs, e2 _ h1, pmp h2 fun _ _ z => ⟨z.1, z.2.up e⟩⟩
theorem MOk.ne {a : Addr} {m : MO} (h : MOk K Ho H a m) : H a ≠ none := by
  cases m with
  | lst ds => obtain ⟨xs, h1, h2⟩ := h; rw [h1]; simp
  | dK kvs => obtain ⟨xs, h1, h2⟩ := h; rw [h1]; simp
  | dT kvs => obtain ⟨xs, h1, h2⟩ := h; rw [h1]; simp
  | ins C fs => obtain ⟨dx, gs, h1, h2⟩ := h; rw [h1]; simp
theorem Fr.dom (h : Fr W H) {a : Addr} (q : W.H0 a ≠ none) : H a ≠ none := by
  by_cases hr : W.isRow a
  · obtain ⟨scr, ns, e⟩ := hr
    obtain ⟨i, s, q, e1, _⟩ := h.row _ _ _ e
    rw [e1]; simp
  · cases e : W.H0 a with
    | none => exact absurd e q
    | some o => rw [h.keep a o hr e]; simp
theorem Fr.same (h : Fr W H) (e : Same H H') : Fr W H' := ⟨fun a o n q => e a o (h.keep a o n q), fun r scr ns q => by
  obtain ⟨i, s, z, e1, e2⟩ := h.row r scr ns q
  exact ⟨i, s, z, e _ _ e1, e2⟩⟩
theorem Rep.ne (R : Rep K W Γ μ σ H) : ∀ a ∈ hd W μ, H a ≠ none := fun a ha => by
  rcases List.mem_append.mp ha with h | h
  · exact R.fr.dom (R.wd.hid a h)
  · obtain ⟨p, hp, rfl⟩ := List.mem_map.mp h
    exact (R.mu p hp).2.ne
/-- all is kept -/
theorem Rep.same (R : Rep K W Γ μ σ H) (e : Same H H') : Rep K W Γ μ σ H' :=
  ⟨R.wd, R.fr.same e, R.sl.up (XT.same e), fun p hp => ⟨(R.mu p hp).1, (R.mu p hp).2.up (XT.same e) (e _)⟩, R.nd⟩
/-- a new object is no hidden one -/
theorem new_out {L : List Addr} (hL : ∀ a ∈ L, H a ≠ none) {p : Addr} (hp : H p = none) : p ∉ L := fun q => hL p q hp
theorem same_new {p : Addr} {o : HO} (hp : H p = none) : Same H (upd H p o) := fun b u e => by
  rw [upd_ne (ne_of_none e hp)]
  exact e
theorem off_upd {L : List Addr} {p : Addr} {o : HO} (h : p ∉ L) : off L (upd H p o) p = some o := by rw [off_out h, upd_same]

/-- the world grows: what stands now must stay -/
structure Wle (W W' : Wd) : Prop where
  m : ∀ a ∈ W.M, a ∈ W'.M
  row : W'.row = W.row
  keep : ∀ a o, ¬ W.isRow a → W.H0 a = some o → W'.H0 a = some o
theorem Wle.refl {W : Wd} : Wle W W := ⟨fun _ h => h, rfl, fun _ _ _ h => h⟩
theorem Wle.isRow {W W' : Wd} (l : Wle W W') (a : Addr) : W'.isRow a ↔ W.isRow a := by
  unfold Wd.isRow
  rw [l.row]
theorem Wle.trans {W W1 W2 : Wd} (a : Wle W W1) (b : Wle W1 W2) : Wle W W2 :=
  ⟨fun x h => b.m x (a.m x h), b.row.trans a.row, fun x o n h => b.keep x o (fun q => n ((a.isRow x).mp q)) (a.keep x o n h)⟩
theorem Fr.down {W W' : Wd} (l : Wle W W') (h : Fr W' H) : Fr W H :=
  ⟨fun a o n q => h.keep a o (fun z => n ((l.isRow a).mp z)) (l.keep a o n q), fun r scr ns q => h.row r scr ns (l.row.trans q)⟩
/-- from the grown world back, where the local objects are new to the smaller one -/
theorem Rep.down {W W' : Wd} (l : Wle W W') (ok : WdOk K W) (hm : ∀ p ∈ μ, W.H0 p.1 = none) (R : Rep K W' Γ μ σ H) : Rep K W Γ μ σ H := by
  have e : Same (off (hd W' μ) H) (off (hd W μ) H) := same_offs fun a ha => by
    rcases List.mem_append.mp ha with h | h
    · exact List.mem_append_left _ (l.m a h)
    · exact List.mem_append_right _ h
  exact ⟨ok, R.fr.down l, R.sl.up e, fun p hp => ⟨hm p hp, (R.mu p hp).2.up e fun _ z => z⟩, R.nd⟩
/-- the world as it stands: everything but the local objects and the row must stay -/
def Wd.now (W : Wd) (μ : Mu) (H : Hp) : Wd := { W with H0 := off (μ.map (·.1)) H }
theorem Rep.mu_new (R : Rep K W Γ μ σ H) {a : Addr} (h : W.H0 a ≠ none) : a ∉ μ.map (·.1) := fun q => by
  obtain ⟨p, hp, rfl⟩ := List.mem_map.mp q
  exact h (R.mu p hp).1
theorem Rep.now_le (R : Rep K W Γ μ σ H) : Wle W (W.now μ H) := ⟨fun _ h => h, rfl, fun a o n h => by
  have q : a ∉ μ.map (·.1) := R.mu_new (by rw [h]; simp)
  show off (μ.map (·.1)) H a = some o
  rw [off_out q]
  exact R.fr.keep a o n h⟩
theorem SqL.up {a : Addr} {xs : List V} (e : ∀ o, H a = some o → H' a = some o) (h : SqL K H a xs) : SqL K H' a xs := by
  rcases h with (h | ⟨o, h⟩) | h
  · exact .inl (.inl (e _ h))
  · exact .inl (.inr ⟨o, e _ h⟩)
  · exact .inr h
theorem Rep.now_ok (R : Rep K W Γ μ σ H) : WdOk K (W.now μ H) := ⟨fun a ha => by
  show off (μ.map (·.1)) H a ≠ none
  rw [off_out (R.mu_new (R.wd.hid a ha))]
  exact R.fr.dom (R.wd.hid a ha), fun r scr ns q => by
  obtain ⟨h1, h2, h3, h4⟩ := R.wd.row r scr ns q
  refine ⟨h1, SqL.up (fun o e => ?_) h2, h3, h4⟩
  show off (μ.map (·.1)) H scr = some o
  rw [off_out (R.mu_new (by rw [e]; simp))]
  refine R.fr.keep scr o (fun ⟨s2, n2, z⟩ => ?_) e
  have q' : W.row = some (r, scr, ns) := q
  rw [q'] at z
  cases z
  exact h3 rfl⟩
theorem Rep.now (R : Rep K W Γ μ σ H) : Rep K (W.now μ H) Γ μ σ H :=
  ⟨R.now_ok, ⟨fun a o n q => (off_some q).2, R.fr.row⟩, R.sl, fun p hp => ⟨off_in (List.mem_map.mpr ⟨p, hp, rfl⟩), (R.mu p hp).2⟩, R.nd⟩
end
end HW
set_option maxHeartbeats 4000000
namespace HW
open PySem PySem.Spec PyProof.Rows L2
/-! ### judgements -/
/-- what e wants -/
def wE (X : Cx) (e : Expr) : TE := fun σ H Q => ∀ (pins : List (Addr × Obj)) (s : Shared), Inv X pins σ H s → wpAny (model X.prog X.w) X.A (eval e X.env) (EP X pins σ Q) X.xe s
theorem wE.pe {X : Cx} {e : Expr} : PE X e (wE X e) := ⟨fun pins s _ _ _ I h => h pins s I⟩
theorem _root_.L2.PE.w {X : Cx} {e : Expr} {t : TE} (h : PE X e t) {σ : L2.St} {H : Hp} {Q : VK} (q : t σ H Q) : wE X e σ H Q := fun pins s I => h.run pins s σ H Q I q
def wA (X : Cx) (es : List Expr) : TA := fun σ H Q => ∀ (pos : Pos) (pins : List (Addr × Obj)) (s : Shared), Inv X pins σ H s → wpAny (model X.prog X.w) X.A (spliced (backTo pos (starEach es X.env))) (AP X pins σ Q) X.xe s
theorem wA.pa {X : Cx} {es : List Expr} : PA X es (wA X es) := ⟨fun pos pins s _ _ _ I h => h pos pins s I⟩
theorem _root_.L2.PA.w {X : Cx} {es : List Expr} {t : TA} (h : PA X es t) {σ : L2.St} {H : Hp} {Q : List V → Hp → Prop} (q : t σ H Q) : wA X es σ H Q := fun pos pins s I => h.run pos pins s σ H Q I q
def wT (X : Cx) (e : Expr) : TT := fun σ H Q => ∀ (pins : List (Addr × Obj)) (s : Shared), Inv X pins σ H s → wpAny (model X.prog X.w) X.A (isTrue e X.env (eval e X.env)) (TP X pins σ Q) X.xe s
theorem wT.pt {X : Cx} {e : Expr} : PT X e (wT X e) := ⟨fun pins s _ _ _ I h => h pins s I⟩
theorem _root_.L2.PT.w {X : Cx} {e : Expr} {t : TT} (h : PT X e t) {σ : L2.St} {H : Hp} {Q : Bool → Hp → Prop} (q : t σ H Q) : wT X e σ H Q := fun pins s I => h.run pins s σ H Q I q
def wS (X : Cx) (st : Stmt) : TS := fun D σ H => ∀ (pins : List (Addr × Obj)) (s : Shared), Inv X pins σ H s → wpAny (model X.prog X.w) X.A (exec st X.env) (SP X pins D) X.xe s
theorem wS.ps {X : Cx} {st : Stmt} : PS X st (wS X st) := ⟨fun pins s _ _ _ I h => h pins s I⟩
theorem _root_.L2.PS.w {X : Cx} {st : Stmt} {t : TS} (h : PS X st t) {σ : L2.St} {H : Hp} {D : Ends} (q : t D σ H) : wS X st D σ H := fun pins s I => h.run pins s σ H D I q
def wSs (X : Cx) (sts : List Stmt) : TS := fun D σ H => ∀ (pins : List (Addr × Obj)) (s : Shared), Inv X pins σ H s → wpAny (model X.prog X.w) X.A (execs sts X.env) (SP X pins D) X.xe s
theorem wSs.ps {X : Cx} {sts : List Stmt} : PSs X sts (wSs X sts) := ⟨fun pins s _ _ _ I h => h pins s I⟩
theorem _root_.L2.PSs.w {X : Cx} {sts : List Stmt} {t : TS} (h : PSs X sts t) {σ : L2.St} {H : Hp} {D : Ends} (q : t D σ H) : wSs X sts D σ H := fun pins s I => h.run pins s σ H D I q
/-- one statement, then the rest -/
theorem wSs_cons {X : Cx} {st : Stmt} {rest : List Stmt} {σ : L2.St} {H : Hp} {D : Ends} (h : wS X st { D with nx := wSs X rest D } σ H) : wSs X (st :: rest) D σ H := (pss_cons wS.ps wSs.ps).w h

/-- e gives data with P -/
def Ev (X : Cx) (W : Wd) (Γ : List DV) (μ : Mu) (e : Expr) (P : PyData → Prop) : Prop :=
  ∀ σ H, Rep X.K W Γ μ σ H → ∀ Q : VK, (∀ v d H2, Rep X.K W Γ μ σ H2 → XT (hd W μ) H H2 → Va X.K (off (hd W μ) H2) v d → P d → Q v H2) → wE X e σ H Q
def Ed (X : Cx) (W : Wd) (Γ : List DV) (μ : Mu) (e : Expr) (d : PyData) : Prop :=
  ∀ σ H, Rep X.K W Γ μ σ H → ∀ Q : VK, (∀ v H2, Rep X.K W Γ μ σ H2 → XT (hd W μ) H H2 → Va X.K (off (hd W μ) H2) v d → Q v H2) → wE X e σ H Q
def EvA (X : Cx) (W : Wd) (Γ : List DV) (μ : Mu) (es : List Expr) (P : List PyData → Prop) : Prop :=
  ∀ σ H, Rep X.K W Γ μ σ H → ∀ Q : List V → Hp → Prop, (∀ vs ds H2, Rep X.K W Γ μ σ H2 → XT (hd W μ) H H2 → VaAll X.K (off (hd W μ) H2) vs ds → P ds → Q vs H2) → wA X es σ H Q
def EdA (X : Cx) (W : Wd) (Γ : List DV) (μ : Mu) (es : List Expr) (ds : List PyData) : Prop :=
  ∀ σ H, Rep X.K W Γ μ σ H → ∀ Q : List V → Hp → Prop, (∀ vs H2, Rep X.K W Γ μ σ H2 → XT (hd W μ) H H2 → VaAll X.K (off (hd W μ) H2) vs ds → Q vs H2) → wA X es σ H Q
/-- e as a test gives b; gives a b with P -/
def EdT (X : Cx) (W : Wd) (Γ : List DV) (μ : Mu) (e : Expr) (b : Bool) : Prop :=
  ∀ σ H, Rep X.K W Γ μ σ H → ∀ Q : Bool → Hp → Prop, (∀ H2, Rep X.K W Γ μ σ H2 → XT (hd W μ) H H2 → Q b H2) → wT X e σ H Q
def EvT (X : Cx) (W : Wd) (Γ : List DV) (μ : Mu) (e : Expr) (P : Bool → Prop) : Prop :=
  ∀ σ H, Rep X.K W Γ μ σ H → ∀ Q : Bool → Hp → Prop, (∀ b H2, Rep X.K W Γ μ σ H2 → XT (hd W μ) H H2 → P b → Q b H2) → wT X e σ H Q
/-- and, or: whatever the 'whole' is -/
def wW (X : Cx) (e : Expr) : TT := fun σ H Q => ∀ (whole : Sem Value) (pins : List (Addr × Obj)) (s : Shared), Inv X pins σ H s → wpAny (model X.prog X.w) X.A (isTrue e X.env whole) (TP X pins σ Q) X.xe s
theorem wW.pw {X : Cx} {e : Expr} : PW X e (wW X e) := ⟨fun whole pins s _ _ _ I h => h whole pins s I⟩
theorem _root_.L2.PW.w {X : Cx} {e : Expr} {t : TT} (h : PW X e t) {σ : L2.St} {H : Hp} {Q : Bool → Hp → Prop} (q : t σ H Q) : wW X e σ H Q := fun whole pins s I => h.run whole pins s σ H Q I q
def EdW (X : Cx) (W : Wd) (Γ : List DV) (μ : Mu) (e : Expr) (b : Bool) : Prop :=
  ∀ σ H, Rep X.K W Γ μ σ H → ∀ Q : Bool → Hp → Prop, (∀ H2, Rep X.K W Γ μ σ H2 → XT (hd W μ) H H2 → Q b H2) → wW X e σ H Q
def EvW (X : Cx) (W : Wd) (Γ : List DV) (μ : Mu) (e : Expr) (P : Bool → Prop) : Prop :=
  ∀ σ H, Rep X.K W Γ μ σ H → ∀ Q : Bool → Hp → Prop, (∀ b H2, Rep X.K W Γ μ σ H2 → XT (hd W μ) H H2 → P b → Q b H2) → wW X e σ H Q

section
variable {X : Cx} {W : Wd} {Γ : List DV} {μ : Mu} {e a b : Expr} {es : List Expr} {d x y z : PyData} {ds : List PyData} {P A B C : PyData → Prop} {pos : Pos}
theorem Ed.ev (h : Ed X W Γ μ e d) : Ev X W Γ μ e (fun z => z = d) := fun σ H R Q k => h σ H R Q fun v H2 R2 x2 r => k v d H2 R2 x2 r rfl
theorem Ed.evP (h : Ed X W Γ μ e d) (p : P d) : Ev X W Γ μ e P := fun σ H R Q k => h σ H R Q fun v H2 R2 x2 r => k v d H2 R2 x2 r p
theorem Ev.ed (h : Ev X W Γ μ e (fun z => z = d)) : Ed X W Γ μ e d := fun σ H R Q k => h σ H R Q fun v d' H2 R2 x2 r e => k v H2 R2 x2 (e ▸ r)
theorem Ev.imp (h : Ev X W Γ μ e A) (i : ∀ d, A d → B d) : Ev X W Γ μ e B := fun σ H R Q k => h σ H R Q fun v d H2 R2 x2 r p => k v d H2 R2 x2 r (i d p)
theorem Ed.to (h : Ed X W Γ μ e x) (q : x = y) : Ed X W Γ μ e y := q ▸ h
theorem EdA.ev {ds : List PyData} {P : List PyData → Prop} (h : EdA X W Γ μ es ds) (p : P ds) : EvA X W Γ μ es P := fun σ H R Q k => h σ H R Q fun v H2 R2 x2 r => k v ds H2 R2 x2 r p
theorem EdT.ev {b : Bool} {P : Bool → Prop} (h : EdT X W Γ μ e b) (p : P b) : EvT X W Γ μ e P := fun σ H R Q k => h σ H R Q fun H2 R2 x2 => k b H2 R2 x2 p
theorem EdT.to {b b' : Bool} (h : EdT X W Γ μ e b) (q : b = b') : EdT X W Γ μ e b' := q ▸ h
theorem EvT.imp {A B : Bool → Prop} (h : EvT X W Γ μ e A) (i : ∀ b, A b → B b) : EvT X W Γ μ e B := fun σ H R Q k => h σ H R Q fun b H2 R2 x2 p => k b H2 R2 x2 (i b p)

/-! ### names, constants -/
/-- a local name -/
theorem vr (i : Nat) {n : Str} (hd_ : Γ[i]? = some (.d d) := by rfl) (hN : X.N[i]? = some n := by rfl) (hv : Vis X.env.scope n := by first | exact Or.inl rfl | exact Or.inr (Or.inl rfl) | exact Or.inr (Or.inr rfl))
    (h1 : (n == ("__debug__" : Str)) = false := by decide) (h2 : (n == ("__classdict__" : Str)) = false := by decide) : Ed X W Γ μ (.Name n pos) d := fun σ H R Q k => by
  obtain ⟨o, e1, v, e2, r⟩ := R.sl.at_ i _ hd_
  subst e2
  exact (pe_var hN hv h1 h2).w ⟨v, e1, k v H R XT.refl r⟩
theorem ed_c {v : V} (h : PE X e (tC v)) (r : ∀ H, Va X.K H v d) : Ed X W Γ μ e d := fun σ H R Q k => h.w (k v H R XT.refl (r _))
theorem ed_int {i : Int} {j p} : Ed X W Γ μ (.Constant (.int i) j p) (.int i) := ed_c pe_int fun _ => .int i
theorem ed_bl {i : Bool} {j p} : Ed X W Γ μ (.Constant (.bool i) j p) (.bool i) := ed_c pe_bl fun _ => .bl i
theorem ed_non {j p} : Ed X W Γ μ (.Constant .none j p) .none := ed_c pe_non fun _ => .non
theorem ed_str {i : Str} {j p} : Ed X W Γ μ (.Constant (.str i) j p) (.str i) := ed_c pe_str fun _ => .str i
/-- a constant of the module -/
theorem ed_gstr {n z : Str} (hm : ∃ t, X.mg n = some (.str z t)) (hg : Gl X n := by rfl) (h1 : (n == ("__debug__" : Str)) = false := by decide) : Ed X W Γ μ (.Name n pos) (.str z) := by
  obtain ⟨t, hm⟩ := hm
  exact ed_c (pe_glob hg hm (v := .str z) ⟨t, rfl⟩ h1) fun _ => .str z
theorem ed_gint {n : Str} {z : Int} (hm : ∃ t, X.mg n = some (.int z t)) (hg : Gl X n := by rfl) (h1 : (n == ("__debug__" : Str)) = false := by decide) : Ed X W Γ μ (.Name n pos) (.int z) := by
  obtain ⟨t, hm⟩ := hm
  exact ed_c (pe_glob hg hm (v := .int z) ⟨t, rfl⟩ h1) fun _ => .int z

/-! ### two values -/
/-- on the data x and y, z comes -/
def rD (K : PySem.W.Frag) (x y z : PyData) : R2 := fun a b H Q => ∃ L : List Addr, (∀ l ∈ L, H l ≠ none) ∧ Va K (off L H) a x ∧ Va K (off L H) b y ∧ ∀ v H2, Same H H2 → Va K (off L H2) v z → Q v H2
def OpD (X : Cx) (f : Value → Value → Sem Value) (x y z : PyData) : Prop := OpR X f (rD X.K x y z)
theorem OpR.to {f : Value → Value → Sem Value} {r r' : R2} (h : OpR X f r) (i : ∀ a b H Q, r' a b H Q → r a b H Q) : OpR X f r' := fun pins s σ H x y v u Q I rx ry q => h pins s σ H x y v u Q I rx ry (i _ _ _ _ q)
theorem bin_ev {r : V → V → Hp → VK → Prop} (ha : Ev X W Γ μ a A) (hb : Ev X W Γ μ b B) (hz : ∀ x y, A x → B y → ∃ z, C z ∧ ∀ va vb H Q, rD X.K x y z va vb H Q → r va vb H Q) {σ : L2.St} {H : Hp} (R : Rep X.K W Γ μ σ H) {Q : VK}
    (k : ∀ v d H2, Rep X.K W Γ μ σ H2 → XT (hd W μ) H H2 → Va X.K (off (hd W μ) H2) v d → C d → Q v H2) :
    wE X a σ H fun va H1 => wE X b σ H1 fun vb H2 => r va vb H2 Q := by
  refine ha σ H R _ fun va x H1 R1 e1 r1 p1 => hb σ H1 R1 _ fun vb y H2 R2 e2 r2 p2 => ?_
  obtain ⟨z, pz, hr⟩ := hz x y p1 p2
  exact hr _ _ _ _ ⟨hd W μ, R2.ne, r1.up e2, r2, fun v H3 e3 r3 => k v z H3 (R2.same e3) ((e1.trans e2).trans (XT.same e3)) r3 pz⟩
def rAny (X : Cx) (f : Value → Value → Sem Value) : R2 := fun va vb H Q => ∃ x y z, OpD X f x y z ∧ rD X.K x y z va vb H Q
theorem rAny.ok {f : Value → Value → Sem Value} : OpR X f (rAny X f) := fun pins s σ H x y v u Q I rx ry ⟨_, _, _, o, q⟩ => o pins s σ H x y v u Q I rx ry q
def IxD (X : Cx) (x y z : PyData) : Prop := IxR X (rD X.K x y z)
def rAnyI (X : Cx) : R2 := fun va vb H Q => ∃ x y z, IxD X x y z ∧ rD X.K x y z va vb H Q
theorem rAnyI.ok : IxR X (rAnyI X) := fun e1 e2 pins s σ H x y v u Q I rx ry ⟨_, _, _, o, q⟩ hs => o e1 e2 pins s σ H x y v u Q I rx ry q hs
theorem ev_op {op : Operator} (ha : Ev X W Γ μ a A) (hb : Ev X W Γ μ b B) (hz : ∀ x y, A x → B y → ∃ z, C z ∧ OpD X (binaryOp op) x y z) : Ev X W Γ μ (.BinOp a op b pos) C := fun σ H R Q k => by
  refine (pe_op (rAny.ok (X := X)) wE.pe wE.pe).w ?_
  exact bin_ev (r := rAny X (binaryOp op)) ha hb (fun x y px py => (hz x y px py).imp fun z h => ⟨h.1, fun va vb H Q q => ⟨x, y, z, h.2, q⟩⟩) R k
theorem ed_op {op : Operator} (ha : Ed X W Γ μ a x) (hb : Ed X W Γ μ b y) (hz : OpD X (binaryOp op) x y z) : Ed X W Γ μ (.BinOp a op b pos) z :=
  (ev_op (C := fun w => w = z) ha.ev hb.ev fun _ _ e1 e2 => ⟨z, rfl, by rw [e1, e2]; exact hz⟩).ed
theorem ev_cmp {op : CmpOp} (ha : Ev X W Γ μ a A) (hb : Ev X W Γ μ b B) (hz : ∀ x y, A x → B y → ∃ z, C z ∧ OpD X (compareOp op) x y z) (hm : behindInMarks op b = false := by first | exact nomark _ | rfl) : Ev X W Γ μ (.Compare a [op] [b] pos) C := fun σ H R Q k => by
  refine (pe_cmpR (rAny.ok (X := X)) wE.pe wE.pe hm).w ?_
  exact bin_ev (r := rAny X (compareOp op)) ha hb (fun x y px py => (hz x y px py).imp fun z h => ⟨h.1, fun va vb H Q q => ⟨x, y, z, h.2, q⟩⟩) R k
theorem ed_cmp {op : CmpOp} (ha : Ed X W Γ μ a x) (hb : Ed X W Γ μ b y) (hz : OpD X (compareOp op) x y z) (hm : behindInMarks op b = false := by first | exact nomark _ | rfl) : Ed X W Γ μ (.Compare a [op] [b] pos) z :=
  (ev_cmp (C := fun w => w = z) ha.ev hb.ev (fun _ _ e1 e2 => ⟨z, rfl, by rw [e1, e2]; exact hz⟩) hm).ed
/-- a subscript -/
theorem ev_ix (ha : Ev X W Γ μ a A) (hb : Ev X W Γ μ b B) (hz : ∀ x y, A x → B y → ∃ z, C z ∧ IxD X x y z) (hs : PlainIx b := by exact fun _ _ => rfl) : Ev X W Γ μ (.Subscript a b pos) C := fun σ H R Q k => by
  refine (pe_ix (rAnyI.ok (X := X)) wE.pe wE.pe hs).w ?_
  exact bin_ev (r := rAnyI X) ha hb (fun x y px py => (hz x y px py).imp fun z h => ⟨h.1, fun va vb H Q q => ⟨x, y, z, h.2, q⟩⟩) R k
theorem ed_ix (ha : Ed X W Γ μ a x) (hb : Ed X W Γ μ b y) (hz : IxD X x y z) (hs : PlainIx b := by exact fun _ _ => rfl) : Ed X W Γ μ (.Subscript a b pos) z :=
  (ev_ix (C := fun w => w = z) ha.ev hb.ev (fun _ _ e1 e2 => ⟨z, rfl, by rw [e1, e2]; exact hz⟩) hs).ed

/-! ### tests -/
theorem et_val {k : Bool} (h : Ed X W Γ μ e (.bool k)) (he : ∀ whole, isTrue e X.env whole = (do let v ← whole; standAt e.pos; holding [v] (truthy v)) := by intro _; rfl) : EdT X W Γ μ e k := fun σ H R Q q => by
  refine (pt_val wE.pe he).w ?_
  refine h σ H R _ fun v H2 R2 e2 r => ?_
  cases r
  exact ⟨k, rfl, q H2 R2 e2⟩
end
section
variable {X : Cx} {W : Wd} {Γ : List DV} {μ : Mu} {e a b : Expr} {rest : List Expr} {pos : Pos} {x y z : PyData} {k l : Bool}
theorem tc_ev {e : Expr} {P : Bool → Prop} {A B : PyData → Prop} {op : CmpOp} (ha : Ev X W Γ μ a A) (hb : Ev X W Γ μ b B) (hz : ∀ x y, A x → B y → ∃ k, P k ∧ OpD X (compareOp op) x y (.bool k)) (hm : behindInMarks op b = false := by first | exact nomark _ | rfl) : EvT X W Γ μ (.Compare a [op] [b] pos) P := fun σ H R Q q => by
  refine (pt_cmpR (rAny.ok (X := X)) wE.pe wE.pe hm).w ?_
  refine bin_ev (r := rAny X (compareOp op)) (C := fun z => ∃ k, z = .bool k ∧ P k) ha hb (fun x y px py => ?_) R fun v d H2 R2 e2 r p => ?_
  · obtain ⟨k, pk, o⟩ := hz x y px py
    exact ⟨.bool k, ⟨k, rfl, pk⟩, fun va vb H Q q => ⟨x, y, _, o, q⟩⟩
  · obtain ⟨k, rfl, pk⟩ := p
    cases r
    exact ⟨k, rfl, q k H2 R2 e2 pk⟩
/-- a comparison as a test -/
theorem tc {op : CmpOp} (ha : Ed X W Γ μ a x) (hb : Ed X W Γ μ b y) (hz : OpD X (compareOp op) x y (.bool k)) (hm : behindInMarks op b = false := by first | exact nomark _ | rfl) : EdT X W Γ μ (.Compare a [op] [b] pos) k := fun σ H R Q q =>
  tc_ev (e := a) (P := fun z => z = k) ha.ev hb.ev (fun _ _ e1 e2 => ⟨k, rfl, by rw [e1, e2]; exact hz⟩) hm σ H R Q fun b' H2 R2 e2 p => p ▸ q H2 R2 e2
theorem t_not (h : EdT X W Γ μ a k) : EdT X W Γ μ (.UnaryOp .Not a pos) (!k) := fun σ H R Q q => (pt_not wT.pt).w (h σ H R _ fun H2 R2 e2 => q H2 R2 e2)
theorem tw_and1 (h : EdT X W Γ μ a k) : EdW X W Γ μ (.BoolOp .And [a] pos) k := fun σ H R Q q => (pw_and1 wT.pt).w (h σ H R Q q)
theorem tw_or1 (h : EdT X W Γ μ a k) : EdW X W Γ μ (.BoolOp .Or [a] pos) k := fun σ H R Q q => (pw_or1 wT.pt).w (h σ H R Q q)
theorem tw_and (h : EdT X W Γ μ a k) (h2 : k = true → EdW X W Γ μ (.BoolOp .And (b :: rest) pos) l) : EdW X W Γ μ (.BoolOp .And (a :: b :: rest) pos) (k && l) := fun σ H R Q q => (pw_and wT.pt wW.pw).w (h σ H R _ fun H2 R2 e2 => by
  cases k with
  | true => exact iteT (h2 rfl σ H2 R2 Q fun H3 R3 e3 => q H3 R3 (e2.trans e3))
  | false => exact iteF (q H2 R2 e2))
theorem tw_or (h : EdT X W Γ μ a k) (h2 : k = false → EdW X W Γ μ (.BoolOp .Or (b :: rest) pos) l) : EdW X W Γ μ (.BoolOp .Or (a :: b :: rest) pos) (k || l) := fun σ H R Q q => (pw_or wT.pt wW.pw).w (h σ H R _ fun H2 R2 e2 => by
  cases k with
  | true => exact iteT (q H2 R2 e2)
  | false => exact iteF (h2 rfl σ H2 R2 Q fun H3 R3 e3 => q H3 R3 (e2.trans e3)))
theorem EdW.t (h : EdW X W Γ μ e k) : EdT X W Γ μ e k := fun σ H R Q q => wW.pw.pt.w (h σ H R Q q)
theorem t_and (h : EdT X W Γ μ a k) (h2 : k = true → EdT X W Γ μ b l) : EdT X W Γ μ (.BoolOp .And [a, b] pos) (k && l) := (tw_and h fun e => tw_and1 (h2 e)).t
theorem t_or (h : EdT X W Γ μ a k) (h2 : k = false → EdT X W Γ μ b l) : EdT X W Γ μ (.BoolOp .Or [a, b] pos) (k || l) := (tw_or h fun e => tw_or1 (h2 e)).t
/-- with open answers -/
theorem tvw_and1 {P : Bool → Prop} (h : EvT X W Γ μ a P) : EvW X W Γ μ (.BoolOp .And [a] pos) P := fun σ H R Q q => (pw_and1 wT.pt).w (h σ H R Q q)
theorem tvw_and {A P : Bool → Prop} (h : EvT X W Γ μ a A) (h2 : A true → EvW X W Γ μ (.BoolOp .And (b :: rest) pos) P) (h3 : A false → P false) : EvW X W Γ μ (.BoolOp .And (a :: b :: rest) pos) P := fun σ H R Q q => (pw_and wT.pt wW.pw).w (h σ H R _ fun k H2 R2 e2 p => by
  cases k with
  | true => exact iteT (h2 p σ H2 R2 Q fun b H3 R3 e3 p3 => q b H3 R3 (e2.trans e3) p3)
  | false => exact iteF (q false H2 R2 e2 (h3 p)))
theorem EvW.t {P : Bool → Prop} (h : EvW X W Γ μ e P) : EvT X W Γ μ e P := fun σ H R Q q => wW.pw.pt.w (h σ H R Q q)
/-- .. as values -/
theorem ed_one {op} (h : Ed X W Γ μ a x) : Ed X W Γ μ (.BoolOp op [a] pos) x := fun σ H R Q q => (pe_one wE.pe).w (h σ H R Q q)
theorem ed_and (h : Ed X W Γ μ a (.bool k)) (h2 : k = true → Ed X W Γ μ (.BoolOp .And (b :: rest) pos) (.bool l)) : Ed X W Γ μ (.BoolOp .And (a :: b :: rest) pos) (.bool (k && l)) := fun σ H R Q q => (pe_and wE.pe wE.pe).w (h σ H R _ fun v H2 R2 e2 r => by
  cases r
  refine ⟨k, rfl, ?_⟩
  cases k with
  | true => exact iteT (h2 rfl σ H2 R2 Q fun v H3 R3 e3 r3 => q v H3 R3 (e2.trans e3) r3)
  | false => exact iteF (q _ H2 R2 e2 (.bl false)))
theorem ev_if {c : Expr} {A : Bool → Prop} {P : PyData → Prop} (h : EvT X W Γ μ c A) (h1 : A true → Ev X W Γ μ a P) (h2 : A false → Ev X W Γ μ b P) : Ev X W Γ μ (.IfExp c a b pos) P := fun σ H R Q q => (pe_ifExp wT.pt wE.pe wE.pe).w (h σ H R _ fun k H2 R2 e2 p => by
  cases k with
  | true => exact iteT (h1 p σ H2 R2 Q fun v d H3 R3 e3 r3 p3 => q v d H3 R3 (e2.trans e3) r3 p3)
  | false => exact iteF (h2 p σ H2 R2 Q fun v d H3 R3 e3 r3 p3 => q v d H3 R3 (e2.trans e3) r3 p3))
theorem tc_chain {c : Expr} {op op' : CmpOp} {w : PyData} (ha : Ed X W Γ μ a x) (hb : Ed X W Γ μ b y) (hc : k = true → Ed X W Γ μ c w) (hz : OpD X (compareOp op) x y (.bool k)) (hz' : OpD X (compareOp op') y w (.bool l)) (hm : lastMarks [op, op'] [b, c] = false := by with_unfolding_all rfl) :
    EdT X W Γ μ (.Compare a [op, op'] [b, c] pos) (k && l) := fun σ H R Q q => (pt_chain hz hz' wE.pe wE.pe wE.pe hm).w (ha σ H R _ fun v H2 R2 e2 r2 => hb σ H2 R2 _ fun u H3 R3 e3 r3 => ⟨hd W μ, R3.ne, r2.up e3, r3, fun t H4 e4 r4 => by
  cases r4
  refine ⟨k, rfl, ?_⟩
  have R4 := R3.same e4
  cases k with
  | true =>
    refine iteT (hc rfl σ H4 R4 _ fun t H5 R5 e5 r5 => ⟨hd W μ, R5.ne, (r3.up (XT.same e4)).up e5, r5, fun t' H6 e6 r6 => ?_⟩)
    cases r6
    exact ⟨l, rfl, q H6 (R5.same e6) ((((e2.trans e3).trans (XT.same e4)).trans e5).trans (XT.same e6))⟩
  | false => exact iteF ⟨false, rfl, q H4 R4 ((e2.trans e3).trans (XT.same e4))⟩⟩)

/-! ### arguments, calls -/
theorem ea_nil : EdA X W Γ μ [] [] := fun σ H R Q q => pa_nil.w (q [] H R XT.refl .nil)
theorem ea_cons {es : List Expr} {ds : List PyData} (h : Ed X W Γ μ e x) (hr : EdA X W Γ μ es ds) (hs : starEach (e :: es) X.env = (false, eval e X.env) :: starEach es X.env := by rfl) : EdA X W Γ μ (e :: es) (x :: ds) := fun σ H R Q q =>
  (pa_cons wE.pe wA.pa hs).w (h σ H R _ fun v H2 R2 e2 r2 => hr σ H2 R2 _ fun vs H3 R3 e3 r3 => q _ H3 R3 (e2.trans e3) (.cons (r2.up e3) r3))
theorem eva_cons {es : List Expr} {A : PyData → Prop} {As : List PyData → Prop} (h : Ev X W Γ μ e A) (hr : EvA X W Γ μ es As) (hs : starEach (e :: es) X.env = (false, eval e X.env) :: starEach es X.env := by rfl) : EvA X W Γ μ (e :: es) (fun l => ∃ x r, l = x :: r ∧ A x ∧ As r) := fun σ H R Q q =>
  (pa_cons wE.pe wA.pa hs).w (h σ H R _ fun v d H2 R2 e2 r2 p2 => hr σ H2 R2 _ fun vs ds H3 R3 e3 r3 p3 => q _ _ H3 R3 (e2.trans e3) (.cons (r2.up e3) r3) ⟨_, _, rfl, p2, p3⟩)
theorem eva_nil : EvA X W Γ μ [] (fun l => l = []) := fun σ H R Q q => pa_nil.w (q [] [] H R XT.refl .nil rfl)
/-- a tuple, a list displayed -/
theorem ed_tup {es : List Expr} {ds : List PyData} {x1} (h : EdA X W Γ μ es ds) (hl : ds.length ≤ 1000) : Ed X W Γ μ (.Tuple es x1 pos) (.tuple ds) := fun σ H R Q q =>
  (pe_tup wA.pa).w (h σ H R _ fun vs H2 R2 e2 r2 => ⟨by rw [r2.length]; exact Nat.le_trans hl (by decide), fun p hp => by
    have s := same_new (o := .tup vs) hp
    exact q _ _ (R2.same s) (e2.trans (XT.same s)) (.tup (.inl (.inl (off_upd (new_out R2.ne hp)))) (r2.up (XT.same s)))⟩)
theorem ed_lst {es : List Expr} {ds : List PyData} (h : EdA X W Γ μ es ds) (hl : ds.length ≤ 1000) : Ed X W Γ μ (.List es pos) (.list ds) := fun σ H R Q q =>
  (pe_lst wA.pa).w (h σ H R _ fun vs H2 R2 e2 r2 => ⟨by rw [r2.length]; exact Nat.le_trans hl (by decide), fun p hp => by
    have s := same_new (o := .lst vs) hp
    exact q _ _ (R2.same s) (e2.trans (XT.same s)) (.lst (off_upd (new_out R2.ne hp)) (r2.up (XT.same s)))⟩)
/-- a built-in function on data -/
def rDc (K : PySem.W.Frag) (ds : List PyData) (z : PyData) : List V → Hp → VK → Prop := fun vs H Q => ∃ L : List Addr, (∀ l ∈ L, H l ≠ none) ∧ VaAll K (off L H) vs ds ∧ ∀ v H2, Same H H2 → Va K (off L H2) v z → Q v H2
def CallD (X : Cx) (f : Value) (ds : List PyData) (z : PyData) : Prop := CallR X f (rDc X.K ds z)
theorem CallR.to {f : Value} {r r' : List V → Hp → VK → Prop} (h : CallR X f r) (i : ∀ vs H Q, r' vs H Q → r vs H Q) : CallR X f r' := fun pins s σ H vs us Q I rv q => h pins s σ H vs us Q I rv (i _ _ _ q)
theorem ev_callB {n : Str} {id : String} {es : List Expr} {As : List PyData → Prop} {C : PyData → Prop} {p : Pos} (hm : X.mg n = none) (hv : bootBuiltins n = some (.builtin id)) (ha : EvA X W Γ μ (e :: es) As) (hz : ∀ ds, As ds → ∃ z, C z ∧ CallD X (.builtin id) ds z) (hg : Gl X n := by rfl)
    (hn : n ≠ "__name__" := by decide) (hdb : (n == ("__debug__" : Str)) = false := by decide)
    (he : starEach (e :: es) X.env = (false, eval e X.env) :: starEach es X.env := by rfl) (hpl : (backTo pos (starEach es X.env)).any (·.1) = false := by rfl) : Ev X W Γ μ (.Call (.Name n p) (e :: es) [] pos) C := fun σ H R Q q =>
  (pe_callB (r := fun vs H Q => ∃ ds z, CallD X (.builtin id) ds z ∧ rDc X.K ds z vs H Q) (fun pins s σ H vs us Q I rv ⟨_, _, o, q⟩ => o pins s σ H vs us Q I rv q) hg hm hv wA.pa hn hdb he hpl).w
    (ha σ H R _ fun vs ds H2 R2 e2 r2 p2 => by
      obtain ⟨z, pz, o⟩ := hz ds p2
      exact ⟨ds, z, o, hd W μ, R2.ne, r2, fun v H3 e3 r3 => q v z H3 (R2.same e3) (e2.trans (XT.same e3)) r3 pz⟩)
theorem ed_callB {n : Str} {id : String} {es : List Expr} {ds : List PyData} {p : Pos} (hm : X.mg n = none) (hv : bootBuiltins n = some (.builtin id)) (ha : EdA X W Γ μ (e :: es) ds) (hz : CallD X (.builtin id) ds z) (hg : Gl X n := by rfl)
    (hn : n ≠ "__name__" := by decide) (hdb : (n == ("__debug__" : Str)) = false := by decide)
    (he : starEach (e :: es) X.env = (false, eval e X.env) :: starEach es X.env := by rfl) (hpl : (backTo pos (starEach es X.env)).any (·.1) = false := by rfl) : Ed X W Γ μ (.Call (.Name n p) (e :: es) [] pos) z :=
  (ev_callB (C := fun w => w = z) hm hv (ha.ev (P := fun l => l = ds) rfl) (fun _ e => ⟨z, rfl, e ▸ hz⟩) hg hn hdb he hpl).ed
theorem ev_callT {n : Str} {id : String} {es : List Expr} {As : List PyData → Prop} {C : PyData → Prop} {p : Pos} (hm : X.mg n = none) (hv : bootBuiltins n = some (.type id)) (ha : EvA X W Γ μ (e :: es) As) (hz : ∀ ds, As ds → ∃ z, C z ∧ CallD X (.type id) ds z) (hg : Gl X n := by rfl)
    (hn : n ≠ "__name__" := by decide) (hdb : (n == ("__debug__" : Str)) = false := by decide)
    (he : starEach (e :: es) X.env = (false, eval e X.env) :: starEach es X.env := by rfl) (hpl : (backTo pos (starEach es X.env)).any (·.1) = false := by rfl) : Ev X W Γ μ (.Call (.Name n p) (e :: es) [] pos) C := fun σ H R Q q =>
  (pe_callTy (r := fun vs H Q => ∃ ds z, CallD X (.type id) ds z ∧ rDc X.K ds z vs H Q) (fun pins s σ H vs us Q I rv ⟨_, _, o, q⟩ => o pins s σ H vs us Q I rv q) hg hm hv wA.pa hn hdb he hpl).w
    (ha σ H R _ fun vs ds H2 R2 e2 r2 p2 => by
      obtain ⟨z, pz, o⟩ := hz ds p2
      exact ⟨ds, z, o, hd W μ, R2.ne, r2, fun v H3 e3 r3 => q v z H3 (R2.same e3) (e2.trans (XT.same e3)) r3 pz⟩)
theorem ed_callT {n : Str} {id : String} {es : List Expr} {ds : List PyData} {p : Pos} (hm : X.mg n = none) (hv : bootBuiltins n = some (.type id)) (ha : EdA X W Γ μ (e :: es) ds) (hz : CallD X (.type id) ds z) (hg : Gl X n := by rfl)
    (hn : n ≠ "__name__" := by decide) (hdb : (n == ("__debug__" : Str)) = false := by decide)
    (he : starEach (e :: es) X.env = (false, eval e X.env) :: starEach es X.env := by rfl) (hpl : (backTo pos (starEach es X.env)).any (·.1) = false := by rfl) : Ed X W Γ μ (.Call (.Name n p) (e :: es) [] pos) z :=
  (ev_callT (C := fun w => w = z) hm hv (ha.ev (P := fun l => l = ds) rfl) (fun _ e => ⟨z, rfl, e ▸ hz⟩) hg hn hdb he hpl).ed

end
end HW
set_option maxHeartbeats 4000000
namespace HW
open PySem PySem.Spec PyProof.Rows L2
/-! ### a local object is hidden, and told again -/
section
variable {K : PySem.W.Frag} {H H' : Hp} {W W' : Wd} {Γ Γ' : List DV} {μ : Mu} {σ σ' : L2.St} {D : Addr} {m : MO}
def Wd.park (W : Wd) (μ : Mu) (D : Addr) (H : Hp) : Wd := ⟨off (μ.map (·.1)) H, D :: W.M, W.row⟩
theorem mem_park {a : Addr} : a ∈ hd (W.park μ D H) μ ↔ a ∈ hd W ((D, m) :: μ) := by
  unfold Wd.park hd
  simp only [List.mem_append, List.mem_cons, List.map_cons]
  constructor
  · rintro ((h | h) | h)
    · exact .inr (.inl h)
    · exact .inl h
    · exact .inr (.inr h)
  · rintro (h | h | h)
    · exact .inl (.inr h)
    · exact .inl (.inl h)
    · exact .inr h
theorem off_cong {L L' : List Addr} (h : ∀ a, a ∈ L ↔ a ∈ L') : off L H = off L' H := by
  funext a
  unfold off
  by_cases q : a ∈ L
  · rw [if_pos q, if_pos ((h a).mp q)]
  · rw [if_neg q, if_neg (fun z => q ((h a).mpr z))]
theorem Rep.isRow_M (wd : WdOk K W) {a : Addr} (h : W.isRow a) : a ∈ W.M := by
  obtain ⟨scr, ns, e⟩ := h
  exact (wd.row _ _ _ e).1
theorem Rep.park (R : Rep K W Γ ((D, m) :: μ) σ H) : Rep K (W.park μ D H) Γ μ σ H := by
  have hD : W.H0 D = none ∧ MOk K (off (hd W ((D, m) :: μ)) H) H D m := R.mu (D, m) List.mem_cons_self
  have nd : D ∉ μ.map (·.1) ∧ (μ.map (·.1)).Nodup := by
    have := R.nd
    rw [List.map_cons] at this
    exact List.nodup_cons.mp this
  have nmu : ∀ a, W.H0 a ≠ none → a ∉ μ.map (·.1) := fun a h q => by
    obtain ⟨p, hp, rfl⟩ := List.mem_map.mp q
    exact h (R.mu p (List.mem_cons_of_mem _ hp)).1
  have oc : off (hd W ((D, m) :: μ)) H = off (hd (W.park μ D H) μ) H := off_cong fun a => (mem_park (m := m)).symm
  refine ⟨⟨fun a ha => ?_, fun r scr ns q => ?_⟩, ⟨fun a o n q => (off_some q).2, R.fr.row⟩, oc ▸ R.sl, fun p hp => ⟨off_in (List.mem_map.mpr ⟨p, hp, rfl⟩), oc ▸ (R.mu p (List.mem_cons_of_mem _ hp)).2⟩, nd.2⟩
  · show off (μ.map (·.1)) H a ≠ none
    rcases List.mem_cons.mp ha with h | h
    · rw [h, off_out nd.1]
      exact hD.2.ne
    · rw [off_out (nmu a (R.wd.hid a h))]
      exact R.fr.dom (R.wd.hid a h)
  · obtain ⟨h1, h2, h3, h4⟩ := R.wd.row r scr ns q
    refine ⟨List.mem_cons_of_mem _ h1, SqL.up (fun o e => ?_) h2, h3, h4⟩
    show off (μ.map (·.1)) H scr = some o
    rw [off_out (nmu scr (by rw [e]; simp))]
    refine R.fr.keep scr o (fun ⟨s2, n2, z⟩ => ?_) e
    have q' : W.row = some (r, scr, ns) := q
    rw [q'] at z
    cases z
    exact h3 rfl
/-- what stood off the hidden objects stands -/
theorem park_xt (R : Rep K W Γ ((D, m) :: μ) σ H) (R' : Rep K (W.park μ D H) Γ' μ σ' H') : XT (hd W ((D, m) :: μ)) H H' := fun a o e => by
  obtain ⟨h1, h2⟩ := off_some e
  rw [off_out h1]
  refine R'.fr.keep a o (fun q => h1 ((mem_park (m := m)).mp (List.mem_append_left _ (Rep.isRow_M R'.wd q)))) ?_
  show off (μ.map (·.1)) H a = some o
  rw [off_out (fun q => h1 (List.mem_append_right _ (by rw [List.map_cons]; exact List.mem_cons_of_mem _ q)))]
  exact h2
theorem Rep.unpark (R : Rep K W Γ ((D, m) :: μ) σ H) (R' : Rep K (W.park μ D H) Γ' μ σ' H') : Rep K W Γ' ((D, m) :: μ) σ' H' := by
  have hD : W.H0 D = none ∧ MOk K (off (hd W ((D, m) :: μ)) H) H D m := R.mu (D, m) List.mem_cons_self
  have oc : off (hd (W.park μ D H) μ) H' = off (hd W ((D, m) :: μ)) H' := off_cong fun a => mem_park (m := m)
  have xt := park_xt R R'
  have nd : D ∉ μ.map (·.1) ∧ (μ.map (·.1)).Nodup := by
    have := R.nd
    rw [List.map_cons] at this
    exact List.nodup_cons.mp this
  have nrow : ¬ (W.park μ D H).isRow D := fun ⟨scr, ns, e⟩ => (R.wd.hid D (R.wd.row _ _ _ e).1) hD.1
  have keepD : ∀ o, H D = some o → H' D = some o := fun o e => R'.fr.keep D o nrow (by
    show off (μ.map (·.1)) H D = some o
    rw [off_out nd.1]
    exact e)
  have nmu : ∀ a, W.H0 a ≠ none → a ∉ μ.map (·.1) := fun a h q => by
    obtain ⟨p, hp, rfl⟩ := List.mem_map.mp q
    exact h (R.mu p (List.mem_cons_of_mem _ hp)).1
  refine ⟨R.wd, ⟨fun a o n q => ?_, R'.fr.row⟩, oc ▸ R'.sl, fun p hp => ?_, R.nd⟩
  · refine R'.fr.keep a o n ?_
    show off (μ.map (·.1)) H a = some o
    rw [off_out (nmu a (by rw [q]; simp))]
    exact R.fr.keep a o n q
  · rcases List.mem_cons.mp hp with h | h
    · rw [h]
      exact ⟨hD.1, hD.2.up xt keepD⟩
    · exact ⟨(R.mu p hp).1, oc ▸ (R'.mu p h).2⟩
theorem park_le (R : Rep K W Γ ((D, m) :: μ) σ H) : Wle W (W.park μ D H) := ⟨fun a h => List.mem_cons_of_mem _ h, rfl, fun a o n h => by
  show off (μ.map (·.1)) H a = some o
  rw [off_out fun q => by
    obtain ⟨p, hp, z⟩ := List.mem_map.mp q
    have := (R.mu p (List.mem_cons_of_mem _ hp)).1
    rw [z, h] at this
    cases this]
  exact R.fr.keep a o n h⟩
/-- a new local object -/
theorem Rep.born (R : Rep K W Γ μ σ H) {o : HO} (hp : H D = none) (hm : MOk K (off (hd W μ) H) (upd H D o) D m) : Rep K W Γ ((D, m) :: μ) σ (upd H D o) := by
  have s := same_new (o := o) hp
  have nD : D ∉ hd W μ := new_out R.ne hp
  have sub : Same (off (hd W μ) H) (off (hd W ((D, m) :: μ)) (upd H D o)) := fun a u e => by
    obtain ⟨h1, h2⟩ := off_some e
    have na : a ≠ D := fun q => by rw [q, hp] at h2; cases h2
    rw [off_out (fun q => by
      rcases List.mem_append.mp q with z | z
      · exact h1 (List.mem_append_left _ z)
      · rw [List.map_cons] at z
        rcases List.mem_cons.mp z with z | z
        · exact na z
        · exact h1 (List.mem_append_right _ z)), upd_ne na]
    exact h2
  have h0 : W.H0 D = none := by
    cases e : W.H0 D with
    | none => rfl
    | some u => exact absurd hp (R.fr.dom (by rw [e]; simp))
  refine ⟨R.wd, R.fr.same s, R.sl.up sub, fun p hp' => ?_, ?_⟩
  · rcases List.mem_cons.mp hp' with h | h
    · rw [h]
      exact ⟨h0, hm.up sub fun _ z => z⟩
    · exact ⟨(R.mu p h).1, (R.mu p h).2.up sub fun u e => s _ _ e⟩
  · rw [List.map_cons]
    exact List.nodup_cons.mpr ⟨fun q => nD (List.mem_append_right _ q), R.nd⟩
/-- a local object changes -/
theorem Rep.chg {j : Nat} {m' : MO} (R : Rep K W Γ μ σ H) {o : HO} (hj : μ[j]? = some (D, m)) (hm : MOk K (off (hd W μ) H) (upd H D o) D m') : Rep K W Γ (μ.set j (D, m')) σ (upd H D o) := by
  have hmem : (D, m) ∈ μ := List.mem_of_getElem? hj
  have h0 : W.H0 D = none := (R.mu _ hmem).1
  have keys : (μ.set j (D, m')).map (·.1) = μ.map (·.1) := by
    rw [List.map_set]
    obtain ⟨hl, he⟩ := List.getElem?_eq_some_iff.mp hj
    apply List.ext_getElem (by simp)
    intro i h1 h2
    by_cases q : i = j
    · subst q
      simp [he]
    · rw [List.getElem_set_ne (Ne.symm q)]
  have hh : hd W (μ.set j (D, m')) = hd W μ := by unfold hd; rw [keys]
  have inD : D ∈ hd W μ := List.mem_append_right _ (List.mem_map.mpr ⟨_, hmem, rfl⟩)
  have oe : off (hd W μ) (upd H D o) = off (hd W μ) H := by
    funext a
    unfold off
    by_cases q : a ∈ hd W μ
    · rw [if_pos q, if_pos q]
    · rw [if_neg q, if_neg q, upd_ne (fun (z : a = D) => q (by rw [z]; exact inD))]
  have nrow : ¬ W.isRow D := fun ⟨scr, ns, e⟩ => (R.wd.hid D (R.wd.row _ _ _ e).1) h0
  refine ⟨R.wd, ⟨fun a u n e => ?_, fun r scr ns e => ?_⟩, ?_, fun p hp => ?_, by rw [keys]; exact R.nd⟩
  · rw [upd_ne (fun z => by rw [z, h0] at e; cases e)]
    exact R.fr.keep a u n e
  · obtain ⟨i, s, q, e1, e2⟩ := R.fr.row r scr ns e
    refine ⟨i, s, q, ?_, e2⟩
    rw [upd_ne (fun (z : r = D) => nrow ⟨scr, ns, by rw [← z]; exact e⟩)]
    exact e1
  · rw [hh, oe]
    exact R.sl
  · rw [hh, oe]
    obtain ⟨i, hi⟩ := List.getElem?_of_mem hp
    by_cases q : i = j
    · subst q
      rw [List.getElem?_set_self (List.getElem?_eq_some_iff.mp hj).1] at hi
      cases hi
      exact ⟨h0, hm⟩
    · rw [List.getElem?_set_ne (Ne.symm q)] at hi
      have hp' : p ∈ μ := List.mem_of_getElem? hi
      have ne : p.1 ≠ D := fun z => by
        have n := R.nd
        have e1 : (μ.map (·.1))[i]? = some D := by rw [List.getElem?_map, hi]; exact congrArg some z
        have e2 : (μ.map (·.1))[j]? = some D := by rw [List.getElem?_map, hj]; rfl
        exact q (nd_ix n e1 e2)
      refine ⟨(R.mu p hp').1, (R.mu p hp').2.up (Same.refl _) fun u e => ?_⟩
      rw [upd_ne ne]
      exact e
end
/-! ### statements -/
/-- the state is one of Φ, in the world W -/
def StP (K : PySem.W.Frag) (W : Wd) (Φ : List DV → Mu → Prop) : L2.St → Hp → Prop := fun σ H => ∃ Γ μ, Φ Γ μ ∧ Rep K W Γ μ σ H
def Run (X : Cx) (W : Wd) (Γ : List DV) (μ : Mu) (sts : List Stmt) (D : Ends) : Prop := ∀ σ H, Rep X.K W Γ μ σ H → wSs X sts D σ H
/-- what a def hands back: data with P, all else as it was -/
def RetP (K : PySem.W.Frag) (W : Wd) (P : PyData → Prop) : VK := fun v H => Fr W H ∧ ∃ d, P d ∧ Va K (off W.M H) v d
section
variable {X : Cx} {W W0 : Wd} {Γ : List DV} {μ : Mu} {e c : Expr} {rest sts a b : List Stmt} {D : Ends} {d : PyData} {P : PyData → Prop} {pos p : Pos}
theorem run_nil (h : ∀ σ H, Rep X.K W Γ μ σ H → D.nx σ H) : Run X W Γ μ [] D := fun σ H R => pss_nil.w (h σ H R)
/-- x = e -/
theorem run_setP (i : Nat) {n : Str} (he : Ev X W Γ μ e P) (h : ∀ d, P d → Run X W (Γ.set i (.d d)) μ rest D) (nd : X.N.Nodup) (hN : X.N[i]? = some n := by rfl) (hx : Loc X.env.scope n := by first | exact Or.inl rfl | exact Or.inr rfl)
    (hs : swapsWith e (some (.Name n p)) pos.line X.env = pure false := by rfl) (hf : X.fn n = true ∨ X.env.scope.names.lookup n = some .local := by first | exact .inr rfl | exact .inl rfl) : Run X W Γ μ (.Assign [.Name n p] e pos :: rest) D := fun σ H R =>
  wSs_cons ((ps_set nd hN hx wE.pe hs hf).w (he σ H R _ fun v d H2 R2 e2 r p => h d p _ _ ⟨R2.wd, R2.fr, R2.sl.set i r, R2.mu, R2.nd⟩))
theorem run_set (i : Nat) {n : Str} (he : Ed X W Γ μ e d) (h : Run X W (Γ.set i (.d d)) μ rest D) (nd : X.N.Nodup) (hN : X.N[i]? = some n := by rfl) (hx : Loc X.env.scope n := by first | exact Or.inl rfl | exact Or.inr rfl)
    (hs : swapsWith e (some (.Name n p)) pos.line X.env = pure false := by rfl) (hf : X.fn n = true ∨ X.env.scope.names.lookup n = some .local := by first | exact .inr rfl | exact .inl rfl) : Run X W Γ μ (.Assign [.Name n p] e pos :: rest) D :=
  run_setP i he.ev (fun _ q => q ▸ h) nd hN hx hs hf
/-- x = [] : a local list -/
theorem run_newL (i : Nat) {n : Str} {p2 : Pos} (h : ∀ l, Run X W (Γ.set i (.r l)) ((l, .lst []) :: μ) rest D) (nd : X.N.Nodup) (hN : X.N[i]? = some n := by rfl) (hx : Loc X.env.scope n := by first | exact Or.inl rfl | exact Or.inr rfl)
    (hs : swapsWith (.List [] p2) (some (.Name n p)) pos.line X.env = pure false := by rfl) (hf : X.fn n = true ∨ X.env.scope.names.lookup n = some .local := by first | exact .inr rfl | exact .inl rfl) : Run X W Γ μ (.Assign [.Name n p] (.List [] p2) pos :: rest) D := fun σ H R =>
  wSs_cons ((ps_set nd hN hx (pe_lst pa_nil) hs hf).w ⟨Nat.zero_le _, fun l hl => h l _ _ (by
    have R1 := R.born (m := .lst []) (o := .lst []) hl ⟨[], upd_same, .nil⟩
    exact ⟨R1.wd, R1.fr, R1.sl.setr i, R1.mu, R1.nd⟩)⟩)
/-- l.append(e) -/
theorem run_appP (i j : Nat) {n : Str} {l : Addr} {ys : List PyData} {p1 p2 p3 : Pos} (he : Ev X W Γ μ e P) (hl : ys.length < 16777216) (h : ∀ d, P d → Run X W Γ (μ.set j (l, .lst (ys ++ [d]))) rest D)
    (hi : Γ[i]? = some (.r l) := by rfl) (hj : μ[j]? = some (l, .lst ys) := by rfl) (hN : X.N[i]? = some n := by rfl) (hv : Vis X.env.scope n := by first | exact Or.inl rfl | exact Or.inr (Or.inl rfl) | exact Or.inr (Or.inr rfl))
    (h1 : (n == ("__debug__" : Str)) = false := by decide) (h2 : (n == ("__classdict__" : Str)) = false := by decide)
    (hbase : attributeBase (.Name n p1) "append" X.env (eval (.Name n p1) X.env) = eval (.Name n p1) X.env := by rfl)
    (hfew : ((backTo p3 (starEach [e] X.env)).all (fun x => !x.1) && (backToKw p3 (keywordEach [] X.env)).all (fun x => x.1.isSome)
      && decide ([e].length + ([] : List Keyword).length + (if ([] : List Keyword).isEmpty then 0 else 1) < 30)) = true := by rfl)
    (hline : (p2.endLine == p3.line) = true := by rfl) (hs : starEach [e] X.env = (false, eval e X.env) :: starEach [] X.env := by rfl) (hplain : (backTo p3 (starEach [] X.env)).any (·.1) = false := by rfl)
    (hsw : swapsWith (.Call (.Attribute (.Name n p1) "append" p2) [e] [] p3) none pos.line X.env = pure false := by rfl) :
    Run X W Γ μ (.Expr (.Call (.Attribute (.Name n p1) "append" p2) [e] [] p3) pos :: rest) D := fun σ H R => by
  refine wSs_cons ((ps_expr (pe_bm PySem.F.plainAttrs_list PySem.F.slot_list_append PySem.F.type_list_append mt_append (pe_var hN hv h1 h2) (pa_cons wE.pe pa_nil hs) hbase hfew hline hs hplain) hsw).w ?_)
  obtain ⟨o, e1, e2⟩ := R.sl.at_ i _ hi
  have e2' : o = some (.ref l) := e2
  subst e2'
  have hmem : (l, MO.lst ys) ∈ μ := List.mem_of_getElem? hj
  obtain ⟨xs, hx, _⟩ := (R.mu _ hmem).2
  refine ⟨_, e1, .inl ⟨rfl, _, SqL.of hx⟩, ?_⟩
  refine he σ H R _ fun v d H2 R2 e2 r p => ?_
  obtain ⟨xs2, hx2, hv2⟩ := (R2.mu _ hmem).2
  refine ⟨l, xs2, v, rfl, rfl, hx2, by rw [hv2.length]; exact hl, ?_⟩
  exact h d p _ _ (R2.chg hj ⟨xs2 ++ [v], upd_same, hv2.app (.cons r .nil)⟩)
theorem run_app (i j : Nat) {n : Str} {l : Addr} {ys : List PyData} {p1 p2 p3 : Pos} (he : Ed X W Γ μ e d) (hl : ys.length < 16777216) (h : Run X W Γ (μ.set j (l, .lst (ys ++ [d]))) rest D)
    (hi : Γ[i]? = some (.r l) := by rfl) (hj : μ[j]? = some (l, .lst ys) := by rfl) (hN : X.N[i]? = some n := by rfl) (hv : Vis X.env.scope n := by first | exact Or.inl rfl | exact Or.inr (Or.inl rfl) | exact Or.inr (Or.inr rfl))
    (h1 : (n == ("__debug__" : Str)) = false := by decide) (h2 : (n == ("__classdict__" : Str)) = false := by decide)
    (hbase : attributeBase (.Name n p1) "append" X.env (eval (.Name n p1) X.env) = eval (.Name n p1) X.env := by rfl)
    (hfew : ((backTo p3 (starEach [e] X.env)).all (fun x => !x.1) && (backToKw p3 (keywordEach [] X.env)).all (fun x => x.1.isSome)
      && decide ([e].length + ([] : List Keyword).length + (if ([] : List Keyword).isEmpty then 0 else 1) < 30)) = true := by rfl)
    (hline : (p2.endLine == p3.line) = true := by rfl) (hs : starEach [e] X.env = (false, eval e X.env) :: starEach [] X.env := by rfl) (hplain : (backTo p3 (starEach [] X.env)).any (·.1) = false := by rfl)
    (hsw : swapsWith (.Call (.Attribute (.Name n p1) "append" p2) [e] [] p3) none pos.line X.env = pure false := by rfl) :
    Run X W Γ μ (.Expr (.Call (.Attribute (.Name n p1) "append" p2) [e] [] p3) pos :: rest) D :=
  run_appP i j he.ev hl (fun _ q => q ▸ h) hi hj hN hv h1 h2 hbase hfew hline hs hplain hsw
/-- a local list is from now on data -/
theorem Rep.freeze {K : PySem.W.Frag} {H : Hp} {σ : L2.St} {l : Addr} {ys : List PyData} (R : Rep K W Γ ((l, .lst ys) :: μ) σ H) : ∃ xs, H l = some (.lst xs) ∧ VaAll K (off (hd W μ) H) xs ys ∧ l ∉ hd W μ ∧ Slots K (off (hd W μ) H) σ Γ := by
  obtain ⟨h0, xs, hx, hv⟩ := R.mu _ List.mem_cons_self
  have sub : Same (off (hd W ((l, .lst ys) :: μ)) H) (off (hd W μ) H) := same_offs fun a ha => by
    rcases List.mem_append.mp ha with z | z
    · exact List.mem_append_left _ z
    · exact List.mem_append_right _ (by rw [List.map_cons]; exact List.mem_cons_of_mem _ z)
  have nd := R.nd
  rw [List.map_cons] at nd
  refine ⟨xs, hx, hv.up sub, fun q => ?_, R.sl.up sub⟩
  rcases List.mem_append.mp q with z | z
  · exact R.wd.hid l z h0
  · exact (List.nodup_cons.mp nd).1 z
/-- the i-th slot's local list becomes data -/
theorem run_fix (i : Nat) {l : Addr} {ys : List PyData} (h : Run X W (Γ.set i (.d (.list ys))) μ sts D) (hi : Γ[i]? = some (.r l) := by rfl) : Run X W Γ ((l, .lst ys) :: μ) sts D := fun σ H R => by
  obtain ⟨xs, hx, hv, nl, sl⟩ := R.freeze
  obtain ⟨o, e1, e2⟩ := R.sl.at_ i _ hi
  have e2' : o = some (.ref l) := e2
  subst e2'
  have s2 := sl.set i (Va.lst (off_out nl |>.trans hx) hv)
  have es : σ.set i (some (.ref l)) = σ := by
    apply List.ext_getElem? 
    intro k
    by_cases q : k = i
    · subst q
      have hl := (List.getElem?_eq_some_iff.mp e1).1
      rw [List.getElem?_set_self hl, e1]
    · rw [List.getElem?_set_ne (Ne.symm q)]
  rw [es] at s2
  have nd := R.nd
  rw [List.map_cons] at nd
  refine h σ H ⟨R.wd, R.fr, s2, fun p hp => ⟨(R.mu p (List.mem_cons_of_mem _ hp)).1, (R.mu p (List.mem_cons_of_mem _ hp)).2.up (same_offs fun a ha => ?_) fun _ z => z⟩, (List.nodup_cons.mp nd).2⟩
  rcases List.mem_append.mp ha with z | z
  · exact List.mem_append_left _ z
  · exact List.mem_append_right _ (by rw [List.map_cons]; exact List.mem_cons_of_mem _ z)
/-- return e -/
theorem run_retP (he : Ev X W Γ μ e P) (hD : ∀ v d H, P d → Fr W H → Va X.K (off W.M H) v d → D.rt v H) : Run X W Γ μ (.Return (some e) pos :: rest) D := fun σ H R =>
  wSs_cons ((ps_ret wE.pe).w (he σ H R _ fun v d H2 R2 e2 r p => hD v d H2 p R2.fr (r.up (same_offs fun a ha => List.mem_append_left _ ha))))
theorem run_ret {P : PyData → Prop} {nx bk ct : L2.St → Hp → Prop} (he : Ed X W Γ μ e d) (hp : P d) (hW : Wle W0 W := by first | exact Wle.refl | assumption) : Run X W Γ μ (.Return (some e) pos :: rest) ⟨nx, RetP X.K W0 P, bk, ct⟩ :=
  run_retP he.ev fun v d' H p f r => ⟨f.down hW, d', by rw [p]; exact hp, r.up (same_offs fun a ha => hW.m a ha)⟩
theorem run_retV {P A : PyData → Prop} {nx bk ct : L2.St → Hp → Prop} (he : Ev X W Γ μ e A) (hp : ∀ d, A d → P d) (hW : Wle W0 W := by first | exact Wle.refl | assumption) : Run X W Γ μ (.Return (some e) pos :: rest) ⟨nx, RetP X.K W0 P, bk, ct⟩ :=
  run_retP he fun v d' H p f r => ⟨f.down hW, d', hp _ p, r.up (same_offs fun a ha => hW.m a ha)⟩
/-- return a local list -/
theorem run_retL {P : PyData → Prop} {nx bk ct : L2.St → Hp → Prop} (i : Nat) {n : Str} {l : Addr} {ys : List PyData} (hp : P (.list ys)) (hW : Wle W0 W := by first | exact Wle.refl | assumption)
    (hi : Γ[i]? = some (.r l) := by rfl) (hN : X.N[i]? = some n := by rfl) (hv : Vis X.env.scope n := by first | exact Or.inl rfl | exact Or.inr (Or.inl rfl) | exact Or.inr (Or.inr rfl))
    (h1 : (n == ("__debug__" : Str)) = false := by decide) (h2 : (n == ("__classdict__" : Str)) = false := by decide) (hl : i < Γ.length := by decide) : Run X W Γ ((l, .lst ys) :: μ) (.Return (some (.Name n p)) pos :: rest) ⟨nx, RetP X.K W0 P, bk, ct⟩ :=
  run_fix i (run_ret (P := P) (vr i (by rw [List.getElem?_set_self hl]) hN hv h1 h2) hp hW) hi
/-- if -/
theorem run_ifV {A : Bool → Prop} (hc : EvT X W Γ μ c A) (h1 : A true → Run X W Γ μ a { D with nx := wSs X rest D }) (h2 : A false → Run X W Γ μ b { D with nx := wSs X rest D }) : Run X W Γ μ (.If c a b pos :: rest) D := fun σ H R =>
  wSs_cons ((ps_if wT.pt wSs.ps wSs.ps).w (hc σ H R _ fun k H2 R2 e2 p => by
    cases k with
    | true => exact iteT (h1 p σ H2 R2)
    | false => exact iteF (h2 p σ H2 R2)))
theorem run_if {k : Bool} (hc : EdT X W Γ μ c k) (h1 : k = true → Run X W Γ μ a { D with nx := wSs X rest D }) (h2 : k = false → Run X W Γ μ b { D with nx := wSs X rest D }) : Run X W Γ μ (.If c a b pos :: rest) D :=
  run_ifV (hc.ev (P := fun z => z = k) rfl) (fun q => h1 q.symm) (fun q => h2 q.symm)
/-- the else that is not there: on with the rest -/
theorem run_skip (h : Run X W Γ μ rest D) : Run X W Γ μ [] { D with nx := wSs X rest D } := run_nil fun σ H R => h σ H R
/-- an expression alone -/
theorem run_exprP (he : Ev X W Γ μ e P) (h : ∀ d, P d → Run X W Γ μ rest D) (hs : swapsWith e none pos.line X.env = pure false := by rfl) : Run X W Γ μ (.Expr e pos :: rest) D := fun σ H R =>
  wSs_cons ((ps_expr wE.pe hs).w (he σ H R _ fun v d H2 R2 e2 r p => h d p σ H2 R2))
theorem run_expr (he : Ed X W Γ μ e d) (h : Run X W Γ μ rest D) (hs : swapsWith e none pos.line X.env = pure false := by rfl) : Run X W Γ μ (.Expr e pos :: rest) D := run_exprP he.ev (fun _ _ => h) hs
end
end HW
set_option maxHeartbeats 4000000
namespace HW
open PySem PySem.Spec PyProof.Rows L2
/-! ### walks -/
/-- J walks over the data ds, as long as the pool stands -/
structure WalkD (K : PySem.W.Frag) (pool : Hp) (J : It) (ds : List PyData) : Prop where
  go : ∀ (i : Nat) (H : Hp), i < ds.length → Same pool H → J.go i H
  yld : ∀ (i : Nat) (d : PyData) (H : Hp) (v : V) (H' : Hp) (L : List Addr), ds[i]? = some d → (∀ l ∈ L, H l ≠ none) → Same pool (off L H) → J.yld i H v H' → Same H H' ∧ Va K (off L H') v d
  stop : ∀ (H : Hp), Same pool H → J.stop ds.length H
def IterV (X : Cx) (W : Wd) (Γ : List DV) (μ : Mu) {α : Type} (tg iter : Expr) (enc : α → PyData) (P : List α → Prop) : Prop :=
  ∃ wi : TI, PI X tg iter wi ∧ ∀ σ H, Rep X.K W Γ μ σ H → ∀ R : It → Hp → Prop, (∀ xs J H1, P xs → Rep X.K W Γ μ σ H1 → XT (hd W μ) H H1 → WalkD X.K (off (hd W μ) H1) J (xs.map enc) → R J H1) → wi σ H R
/-- the target takes the data d: put d at its slots ks -/
structure TgR (K : PySem.W.Frag) (g : TG) (ok : PyData → Prop) (put : PyData → List DV → List DV) (ks : List Nat) : Prop where
  run : ∀ (L : List Addr) (v : V) (d : PyData) (σ : L2.St) (H : Hp) (Γ : List DV) (Q : L2.St → Hp → Prop), Va K (off L H) v d → ok d → Slots K (off L H) σ Γ →
    (∀ σ', Slots K (off L H) σ' (put d Γ) → σ'.length = σ.length → (∀ i, i ∉ ks → σ'[i]? = σ[i]?) → Q σ' H) → g v σ H Q
theorem tg_name {K : PySem.W.Frag} (k : Nat) : TgR K (gName k) (fun _ => True) (fun d Γ => Γ.set k (.d d)) [k] := ⟨fun L v d σ H Γ Q r _ s q => q _ (s.set k r) (List.length_set ..) fun i hi => List.getElem?_set_ne (fun e => hi (by rw [e]; exact List.mem_cons_self))⟩
theorem tg_pair {K : PySem.W.Frag} {g1 g2 : TG} {ok1 ok2 : PyData → Prop} {put1 put2 : PyData → List DV → List DV} {k1 k2 : List Nat} (h1 : TgR K g1 ok1 put1 k1) (h2 : TgR K g2 ok2 put2 k2) :
    TgR K (gTup K 2 (gCons g1 (gCons g2 gNil))) (fun d => ∃ x y, d = .tuple [x, y] ∧ ok1 x ∧ ok2 y) (fun d Γ => match d with
      | .tuple [x, y] => put2 y (put1 x Γ)
      | _ => Γ) (k1 ++ k2) := ⟨fun L v d σ H Γ Q r o s q => by
  obtain ⟨x, y, rfl, o1, o2⟩ := o
  cases r with
  | tup hs hv =>
    cases hv with
    | cons r1 hv =>
      cases hv with
      | cons r2 hv =>
        cases hv
        refine ⟨_, _, rfl, SqT.up same_off hs, rfl, _, _, rfl, ?_⟩
        refine h1.run L _ x σ H Γ _ r1 o1 s fun σ1 s1 l1 e1 => ?_
        refine ⟨_, _, rfl, ?_⟩
        refine h2.run L _ y σ1 H _ _ r2 o2 s1 fun σ2 s2 l2 e2 => ?_
        refine ⟨rfl, q σ2 s2 (l2.trans l1) fun i hi => ?_⟩
        rw [e2 i (fun z => hi (List.mem_append_right _ z)), e1 i (fun z => hi (List.mem_append_left _ z))]⟩

/-! ### comprehensions -/
def wipeD (vs : List Nat) (Γ : List DV) : List DV := match vs with
  | [] => Γ
  | v :: vs => (wipeD vs Γ).set v .no
theorem Slots.wipe {K : PySem.W.Frag} {H : Hp} {σ : L2.St} {Γ : List DV} (h : Slots K H σ Γ) : ∀ vs : List Nat, Slots K H (wipe σ vs) (wipeD vs Γ)
  | [] => h
  | v :: vs => (Slots.wipe h vs).no v
theorem wipe_get {σ : L2.St} {i : Nat} : ∀ {vs : List Nat}, (wipe σ vs)[i]? = if i ∈ vs then (if i < σ.length then some none else none) else σ[i]?
  | [] => by simp [L2.wipe]
  | v :: vs => by
    show ((wipe σ vs).set v none)[i]? = _
    by_cases q : i = v
    · subst q
      by_cases hl : i < σ.length
      · rw [List.getElem?_set_self (by rw [wipe_length]; exact hl), if_pos List.mem_cons_self, if_pos hl]
      · rw [if_pos List.mem_cons_self, if_neg hl]
        exact List.getElem?_eq_none (by rw [List.length_set, wipe_length]; omega)
    · rw [List.getElem?_set_ne (Ne.symm q), wipe_get]
      by_cases m : i ∈ vs
      · rw [if_pos m, if_pos (List.mem_cons_of_mem _ m)]
      · rw [if_neg m, if_neg (fun z => (List.mem_cons.mp z).elim q m)]
theorem wipe_eq {σ σ' : L2.St} {vs ks : List Nat} (hk : ∀ k ∈ ks, k ∈ vs) (hl : σ'.length = (wipe σ vs).length) (h : ∀ i, i ∉ ks → σ'[i]? = (wipe σ vs)[i]?) : wipe σ' vs = wipe σ vs := by
  apply List.ext_getElem?
  intro i
  rw [wipe_get, wipe_get]
  rw [wipe_length] at hl
  by_cases m : i ∈ vs
  · rw [if_pos m, if_pos m, hl]
  · rw [if_neg m, if_neg m, h i (fun z => m (hk i z)), wipe_get, if_neg m]
abbrev blkOf (X : Cx) (scope : Scope) (s : Shared) (H : Hp) (C : Addr) (cl : List (Str × Addr)) (fp : List Addr) : Cx := X.blk s H scope (compEnvC scope cl C X.env) fp
/-- e in whatever block -/
def wEb (X : Cx) (scope : Scope) (e : Expr) : TE := fun σ H Q => ∀ s H0 C cl fp, wE (blkOf X scope s H0 C cl fp) e σ H Q
theorem wEb.pe {X : Cx} {scope : Scope} {e : Expr} (s : Shared) (H : Hp) (C : Addr) (cl : List (Str × Addr)) (fp : List Addr) : PE (blkOf X scope s H C cl fp) e (wEb X scope e) := ⟨fun pins st _ _ _ I h => h s H C cl fp pins st I⟩
def wTb (X : Cx) (scope : Scope) (e : Expr) : TT := fun σ H Q => ∀ s H0 C cl fp, wT (blkOf X scope s H0 C cl fp) e σ H Q
theorem wTb.pt {X : Cx} {scope : Scope} {e : Expr} (s : Shared) (H : Hp) (C : Addr) (cl : List (Str × Addr)) (fp : List Addr) : PT (blkOf X scope s H C cl fp) e (wTb X scope e) := ⟨fun pins st _ _ _ I h => h s H C cl fp pins st I⟩
section
variable {X : Cx} {W : Wd} {Γ : List DV} {μ : Mu} {α : Type} {tg iter elt t : Expr} {ifs : List Expr} {scope : Scope} {own : List (Str × Nat)} {pos : Pos} {enc : α → PyData} {P : List α → Prop} {g : TG} {ok : PyData → Prop} {put : PyData → List DV → List DV} {ks : List Nat} {c : α → Bool} {E : α → PyData → Prop}
theorem psnoc {α β : Type} {F : α → β → Prop} {a : α} {b : β} : ∀ {l₁ : List α} {l₂ : List β}, Paired F l₁ l₂ → F a b → Paired F (l₁ ++ [a]) (l₂ ++ [b])
  | _, _, .nil, h => .cons h .nil
  | _, _, .cons r t, h => .cons r (psnoc t h)
theorem plen {α β : Type} {F : α → β → Prop} : ∀ {l₁ : List α} {l₂ : List β}, Paired F l₁ l₂ → l₁.length = l₂.length
  | _, _, .nil => rfl
  | _, _, .cons _ t => congrArg (· + 1) (plen t)
theorem take_succ_filter {xs : List α} {i : Nat} {x : α} (h : xs[i]? = some x) : (xs.take (i + 1)).filter c = (xs.take i).filter c ++ (if c x = true then [x] else []) := by
  rw [List.take_add_one, h]
  show (xs.take i ++ [x]).filter c = _
  rw [List.filter_append]
  by_cases q : c x = true
  · rw [if_pos q, List.filter_cons_of_pos q]; rfl
  · rw [if_neg q, List.filter_cons_of_neg q]; rfl
/-- the reading of a comprehension: a list whose items are E of the items kept -/
theorem lc_read {tt : TT} {wi : TI} (hi : ∀ σ H, Rep X.K W Γ μ σ H → ∀ R : It → Hp → Prop, (∀ xs J H1, P xs → Rep X.K W Γ μ σ H1 → XT (hd W μ) H H1 → WalkD X.K (off (hd W μ) H1) J (xs.map enc) → R J H1) → wi σ H R)
    (hg : TgR X.K g ok put ks) (hk : ∀ k ∈ ks, k ∈ own.map (·.2)) (hok : ∀ xs, P xs → ∀ x ∈ xs, ok (enc x)) (hz : ∀ xs, P xs → xs.length ≤ 16777216)
    (ht : ∀ xs, P xs → ∀ x ∈ xs, ∀ W1, Wle W W1 → ∀ σ H, Rep X.K W1 (put (enc x) (wipeD (own.map (·.2)) Γ)) μ σ H → ∀ Q : Bool → Hp → Prop, (∀ H2, Rep X.K W1 (put (enc x) (wipeD (own.map (·.2)) Γ)) μ σ H2 → Q (c x) H2) → tt σ H Q)
    (he : ∀ xs, P xs → ∀ x ∈ xs, c x = true → ∀ W1, Wle W W1 → ∀ s H C cl fp, Ev (blkOf X scope s H C cl fp) W1 (put (enc x) (wipeD (own.map (·.2)) Γ)) μ elt (E x))
    {σ : L2.St} {H : Hp} (R : Rep X.K W Γ μ σ H) {Q : VK} (q : ∀ xs ys v H2, P xs → Paired E (xs.filter c) ys → Rep X.K W Γ μ σ H2 → XT (hd W μ) H H2 → Va X.K (off (hd W μ) H2) v (.list ys) → Q v H2) :
    tLc wi g tt (wEb X scope elt) (own.map (·.2)) σ H Q := by
  refine hi σ H R _ fun xs J H1 px R1 e1 wk D hD => ?_
  -- the invariant
  let vs := own.map (·.2)
  let Pv : Nat → Hp → Prop := fun i H' => ∃ ys, Paired E ((xs.take i).filter c) ys ∧ Rep X.K (W.now μ H1) (wipeD vs Γ) ((D, .lst ys) :: μ) (wipe σ vs) H'
  have R1n := R1.now
  have Rw : Rep X.K (W.now μ H1) (wipeD vs Γ) μ (wipe σ vs) H1 := ⟨R1n.wd, R1n.fr, R1n.sl.wipe vs, R1n.mu, R1n.nd⟩
  have h0 : Pv 0 (upd H1 D (.lst [])) := ⟨[], by simp only [List.take_zero, List.filter_nil]; exact .nil, Rw.born hD ⟨[], upd_same, .nil⟩⟩
  have nDmu : ∀ {i H'}, Pv i H' → Same (off (hd W μ) H1) H' := fun ⟨ys, _, Rp⟩ a o e => by
    obtain ⟨h1, h2⟩ := off_some e
    refine Rp.fr.keep a o (fun z => h1 (List.mem_append_left _ (Rep.isRow_M Rp.wd z))) ?_
    show off (μ.map (·.1)) H1 a = some o
    rw [off_out (fun z => h1 (List.mem_append_right _ z))]
    exact h2
  refine ⟨fun i m H' => m = xs.length - i ∧ i ≤ xs.length ∧ Pv i H', ⟨xs.length, by simp, Nat.zero_le _, h0⟩, ?_⟩
  rintro i m H' ⟨rfl, hile, p⟩
  by_cases hlt : i < xs.length
  · refine .inr ⟨wk.go i H' (by simpa using hlt) (nDmu p), Pv (i + 1), fun H2 p' => ⟨xs.length - (i + 1), by omega, rfl, hlt, p'⟩, fun v H2 y => ?_⟩
    obtain ⟨ys, hys, Rp⟩ := p
    obtain ⟨x, hx⟩ : ∃ x, xs[i]? = some x := ⟨xs[i], by simp [hlt]⟩
    have xin : x ∈ xs := List.mem_of_getElem? hx
    have dx : (xs.map enc)[i]? = some (enc x) := by rw [List.getElem?_map, hx]; rfl
    -- the pool off the hidden objects
    have pool : Same (off (hd W μ) H1) (off (hd (W.now μ H1) ((D, .lst ys) :: μ)) H') := fun a o e => by
      obtain ⟨h1, h2⟩ := off_some e
      have na : a ≠ D := fun z => by rw [z, hD] at h2; cases h2
      rw [off_out (fun z => by
        rcases List.mem_append.mp z with z | z
        · exact h1 (List.mem_append_left _ z)
        · rw [List.map_cons] at z
          rcases List.mem_cons.mp z with z | z
          · exact na z
          · exact h1 (List.mem_append_right _ z))]
      exact nDmu ⟨ys, hys, Rp⟩ a o e
    obtain ⟨s2, r2⟩ := wk.yld i (enc x) H' v H2 _ dx Rp.ne pool y
    have Rp2 := Rp.same s2
    refine hg.run _ v (enc x) (wipe σ vs) H2 _ _ r2 (hok xs px x xin) Rp2.sl fun σ3 sl3 l3 u3 => ?_
    refine ⟨wipe_eq hk l3 u3, ?_⟩
    have R3 : Rep X.K (W.now μ H1) (put (enc x) (wipeD vs Γ)) ((D, .lst ys) :: μ) σ3 H2 := ⟨Rp2.wd, Rp2.fr, sl3, Rp2.mu, Rp2.nd⟩
    have le3 : Wle W ((W.now μ H1).park μ D H2) := R1.now_le.trans (park_le R3)
    have back : ∀ {H4 : Hp} {ys' : List PyData}, Rep X.K (W.now μ H1) (put (enc x) (wipeD vs Γ)) ((D, .lst ys') :: μ) σ3 H4 → XT (hd (W.now μ H1) ((D, .lst ys) :: μ)) H2 H4 → Rep X.K (W.now μ H1) (wipeD vs Γ) ((D, .lst ys') :: μ) (wipe σ vs) H4 := fun R4 x4 =>
      ⟨R4.wd, R4.fr, (Rp2.sl.up x4 : _), R4.mu, R4.nd⟩
    refine ht xs px x xin _ le3 σ3 H2 R3.park _ fun H4 R4 => ?_
    have x4 := park_xt R3 R4
    have R4' := R3.unpark R4
    by_cases hc : c x = true
    · rw [hc]
      refine iteT fun s H0 C cl fp => ?_
      refine he xs px x xin hc _ (R1.now_le.trans (park_le R4')) s H0 C cl fp σ3 H4 R4'.park _ fun v5 d5 H5 R5 x5 r5 p5 => ?_
      have x5' := park_xt R4' R5
      have R5' := R4'.unpark R5
      obtain ⟨acc, ha, hv⟩ := (R5'.mu _ List.mem_cons_self).2
      refine ⟨acc, ha, ?_, ys ++ [d5], ?_, ?_⟩
      · rw [hv.length, ← plen hys]
        have l1 : ((xs.take i).filter c).length ≤ (xs.take i).length := List.length_filter_le ..
        rw [List.length_take] at l1
        have l2 := hz xs px
        show _ < 16777216
        omega
      · rw [take_succ_filter hx, if_pos hc]
        exact psnoc hys p5
      · have oc : off (hd ((W.now μ H1).park μ D H4) μ) H5 = off (hd (W.now μ H1) ((D, .lst ys) :: μ)) H5 := off_cong fun a => mem_park
        have z := back R5' (x4.trans x5')
        exact z.chg (j := 0) (m' := .lst (ys ++ [d5])) rfl ⟨acc ++ [v5], upd_same, hv.app (.cons (oc ▸ r5) .nil)⟩
    · have hc' : c x = false := by simpa using hc
      rw [hc']
      refine iteF ⟨ys, ?_, back R4' x4⟩
      rw [take_succ_filter hx, if_neg hc, List.append_nil]
      exact hys
  · have e : i = xs.length := by omega
    subst e
    refine .inl ⟨by have := wk.stop H' (nDmu p); simpa using this, ?_⟩
    have sm := nDmu p
    obtain ⟨ys, hys, Rp⟩ := p
    rw [List.take_length] at hys
    obtain ⟨acc, ha, hv, nl, sl⟩ := Rp.freeze
    have up : XT (hd W μ) H1 H' := fun a o e => by
      rw [off_out (off_some e).1]
      exact sm a o e
    have le1 : Wle W (W.now μ H1) := R1.now_le
    refine q xs ys (.ref D) H' px hys ⟨R.wd, Rp.fr.down le1, R1.sl.up up, fun p hp => ⟨(R1.mu p hp).1, (Rp.mu p (List.mem_cons_of_mem _ hp)).2.up (same_offs fun a ha => ?_) fun _ z => z⟩, R.nd⟩ (e1.trans up) (.lst (off_out nl |>.trans ha) hv)
    rcases List.mem_append.mp ha with z | z
    · exact List.mem_append_left _ z
    · exact List.mem_append_right _ (by rw [List.map_cons]; exact List.mem_cons_of_mem _ z)
/-- a comprehension's judgement: the list's data with Z -/
structure LcEv (X : Cx) (W : Wd) (Γ : List DV) (μ : Mu) (elt tg iter : Expr) (ifs : List Expr) (scope : Scope) (Z : List PyData → Prop) : Prop where
  ex : ∃ (wi : TI) (g : TG) (tt : TT) (te : TE) (own : List (Str × Nat)), PI X tg iter wi ∧ BlkOk X.N X.env.scope scope own ∧ (∀ s H C cl fp, PG (blkOf X scope s H C cl fp) tg g) ∧ (∀ s H C cl fp, PTs (blkOf X scope s H C cl fp) ifs tt) ∧
    (∀ s H C cl fp, PE (blkOf X scope s H C cl fp) elt te) ∧ ∀ σ H, Rep X.K W Γ μ σ H → ∀ Q : VK, (∀ ys v H2, Z ys → Rep X.K W Γ μ σ H2 → XT (hd W μ) H H2 → Va X.K (off (hd W μ) H2) v (.list ys) → Q v H2) → tLc wi g tt te (own.map (·.2)) σ H Q
theorem LcEv.ev {Z : List PyData → Prop} (h : LcEv X W Γ μ elt tg iter ifs scope Z) (hN : X.N.Nodup) (hc : X.calm = true := by rfl) (hs : ∀ x, foldedSetIterable iter X.env x = pure x := by intro _; rfl) :
    Ev X W Γ μ (.ListComp elt [⟨tg, iter, ifs, 0⟩] scope pos) (fun z => ∃ ys, z = .list ys ∧ Z ys) := fun σ H R Q k => by
  obtain ⟨wi, g, tt, te, own, h1, h2, h3, h4, h5, h6⟩ := h.ex
  exact (pe_lc hc hN h1 h2 h3 h4 h5 hs).w (h6 σ H R Q fun ys v H2 z R2 x2 r => k v _ H2 R2 x2 r ⟨ys, rfl, z⟩)
theorem LcEv.ed {ys : List PyData} (h : LcEv X W Γ μ elt tg iter ifs scope (fun z => z = ys)) (hN : X.N.Nodup) (hc : X.calm = true := by rfl) (hs : ∀ x, foldedSetIterable iter X.env x = pure x := by intro _; rfl) :
    Ed X W Γ μ (.ListComp elt [⟨tg, iter, ifs, 0⟩] scope pos) (.list ys) := (h.ev (pos := pos) hN hc hs |>.imp (B := fun z => z = .list ys) fun d ⟨l, e1, e2⟩ => by rw [e1, e2]).ed
/-- x = [..] -/
theorem run_setLcP {Z : List PyData → Prop} {D : Ends} {rest : List Stmt} {spos py : Pos} (i : Nat) {n : Str} (h : LcEv X W Γ μ elt tg iter ifs scope Z) (hr : ∀ ys, Z ys → Run X W (Γ.set i (.d (.list ys))) μ rest D) (hN : X.N.Nodup) (hn : X.N[i]? = some n := by rfl) (hl : X.env.scope.names.lookup n = some .local := by rfl)
    (hsw : swapsWith (.ListComp elt [⟨tg, iter, ifs, 0⟩] scope pos) (some (.Name n py)) spos.line X.env = pure true := by exact (sw_true rfl rfl rfl (by decide +kernel))) (hc : X.calm = true := by rfl) (hs : ∀ x, foldedSetIterable iter X.env x = pure x := by intro _; rfl) :
    Run X W Γ μ (.Assign [.Name n py] (.ListComp elt [⟨tg, iter, ifs, 0⟩] scope pos) spos :: rest) D := fun σ H R => by
  obtain ⟨wi, g, tt, te, own, h1, h2, h3, h4, h5, h6⟩ := h.ex
  refine wSs_cons ((ps_setLc hc hN hn hl hsw h1 h2 h3 h4 h5 hs).w ?_)
  exact h6 σ H R _ fun ys v H2 z R2 x2 r => hr ys z _ _ ⟨R2.wd, R2.fr, R2.sl.set i r, R2.mu, R2.nd⟩
/-- builders: over any target, without a test -/
theorem lc0 (own : List (Str × Nat)) (hi : IterV X W Γ μ tg iter enc P) (hg : TgR X.K g ok put ks) (hpg : ∀ s H C cl fp, PG (blkOf X scope s H C cl fp) tg g) (hok : ∀ xs, P xs → ∀ x ∈ xs, ok (enc x)) (hz : ∀ xs, P xs → xs.length ≤ 16777216)
    (he : ∀ xs, P xs → ∀ x ∈ xs, ∀ W1, Wle W W1 → ∀ s H C cl fp, Ev (blkOf X scope s H C cl fp) W1 (put (enc x) (wipeD (own.map (·.2)) Γ)) μ elt (E x)) (hb : BlkOk X.N X.env.scope scope own := by exact blkOk_by (by kernel_rfl)) (hk : ∀ k ∈ ks, k ∈ own.map (·.2) := by decide) :
    LcEv X W Γ μ elt tg iter [] scope (fun ys => ∃ xs, P xs ∧ Paired E xs ys) := ⟨by
  obtain ⟨wi, h1, h2⟩ := hi
  refine ⟨wi, g, tYes, wEb X scope elt, own, h1, hb, hpg, fun _ _ _ _ _ => pts_nil, wEb.pe, fun σ H R Q k => ?_⟩
  refine lc_read (c := fun _ => true) (E := E) h2 hg hk hok hz (fun _ _ _ _ _ _ σ H R Q q => q H R) (fun xs px x hx _ W1 l s H C cl fp => he xs px x hx W1 l s H C cl fp) R fun xs ys v H2 px hp R2 x2 r => k ys v H2 ⟨xs, px, ?_⟩ R2 x2 r
  have e : xs.filter (fun _ => true) = xs := List.filter_eq_self.mpr fun _ _ => rfl
  rw [e] at hp
  exact hp⟩
/-- .. with one -/
theorem lc1 (own : List (Str × Nat)) (hi : IterV X W Γ μ tg iter enc P) (hg : TgR X.K g ok put ks) (hpg : ∀ s H C cl fp, PG (blkOf X scope s H C cl fp) tg g) (hok : ∀ xs, P xs → ∀ x ∈ xs, ok (enc x)) (hz : ∀ xs, P xs → xs.length ≤ 16777216)
    (ht : ∀ xs, P xs → ∀ x ∈ xs, ∀ W1, Wle W W1 → ∀ s H C cl fp, EdT (blkOf X scope s H C cl fp) W1 (put (enc x) (wipeD (own.map (·.2)) Γ)) μ t (c x))
    (he : ∀ xs, P xs → ∀ x ∈ xs, c x = true → ∀ W1, Wle W W1 → ∀ s H C cl fp, Ev (blkOf X scope s H C cl fp) W1 (put (enc x) (wipeD (own.map (·.2)) Γ)) μ elt (E x)) (hb : BlkOk X.N X.env.scope scope own := by exact blkOk_by (by kernel_rfl)) (hk : ∀ k ∈ ks, k ∈ own.map (·.2) := by decide) :
    LcEv X W Γ μ elt tg iter [t] scope (fun ys => ∃ xs, P xs ∧ Paired E (xs.filter c) ys) := ⟨by
  obtain ⟨wi, h1, h2⟩ := hi
  refine ⟨wi, g, wTb X scope t, wEb X scope elt, own, h1, hb, hpg, fun s H C cl fp => pts_one (wTb.pt s H C cl fp), wEb.pe, fun σ H R Q k => ?_⟩
  exact lc_read (c := c) (E := E) h2 hg hk hok hz (fun xs px x hx W1 l σ H R Q q s H0 C cl fp => ht xs px x hx W1 l s H0 C cl fp σ H R Q fun H2 R2 _ => q H2 R2) he R fun xs ys v H2 px hp R2 x2 r => k ys v H2 ⟨xs, px, hp⟩ R2 x2 r⟩
end
/-- the walked thing, told -/
abbrev IterD (X : Cx) (W : Wd) (Γ : List DV) (μ : Mu) {α : Type} (tg iter : Expr) (enc : α → PyData) (xs : List α) : Prop := IterV X W Γ μ tg iter enc (fun l => l = xs)
theorem paired_map {α : Type} {f : α → PyData} : ∀ {xs : List α} {ys : List PyData}, Paired (fun x y => y = f x) xs ys → ys = xs.map f
  | _, _, .nil => rfl
  | _, _, .cons r t => by rw [r, paired_map t]; rfl
section
variable {X : Cx} {W : Wd} {Γ : List DV} {μ : Mu} {α : Type} {tg iter elt t : Expr} {ifs : List Expr} {scope : Scope} {pos p : Pos} {enc : α → PyData} {xs : List α} {c : α → Bool} {f : α → PyData} {n : Str}
/-- [elt for n in iter] -/
theorem lcN0 (k : Nat) (hi : IterD X W Γ μ (.Name n p) iter enc xs) (hz : xs.length ≤ 16777216) (f : α → PyData)
    (he : ∀ x ∈ xs, ∀ W1, Wle W W1 → ∀ s H C cl fp, Ed (blkOf X scope s H C cl fp) W1 ((wipeD [k] Γ).set k (.d (enc x))) μ elt (f x)) (hN : X.N.Nodup) (hn : X.N[k]? = some n := by rfl)
    (hv : ∀ s H C cl fp, Loc (blkOf X scope s H C cl fp).env.scope n := by intro _ _ _ _ _; first | exact Or.inl rfl | exact Or.inr rfl) (hf : ∀ s H C cl fp, (blkOf X scope s H C cl fp).fn n = true ∨ (blkOf X scope s H C cl fp).env.scope.names.lookup n = some .local := by intro _ _ _ _ _; first | exact .inr rfl | exact .inl rfl) (hb : BlkOk X.N X.env.scope scope [(n, k)] := by exact blkOk_by (by kernel_rfl)) :
    LcEv X W Γ μ elt (.Name n p) iter [] scope (fun ys => ys = xs.map f) := by
  have h := lc0 (E := fun x y => y = f x) (elt := elt) (scope := scope) [(n, k)] hi (tg_name (K := X.K) k) (fun s H C cl fp => pg_name hN hn (hv s H C cl fp) (hf s H C cl fp)) (fun _ _ _ _ => trivial) (fun _ e => e ▸ hz) (fun _ e x hx W1 l s H C cl fp => (he x (e ▸ hx) W1 l s H C cl fp).ev) hb (by simp)
  obtain ⟨wi, g, tt, te, own, h1, h2, h3, h4, h5, h6⟩ := h.ex
  exact ⟨wi, g, tt, te, own, h1, h2, h3, h4, h5, fun σ H R Q k => h6 σ H R Q fun ys v H2 ⟨l, e, hp⟩ => k ys v H2 (by rw [← e]; exact paired_map hp)⟩
/-- [elt for n in iter if t] -/
theorem lcN1 (k : Nat) (hi : IterD X W Γ μ (.Name n p) iter enc xs) (hz : xs.length ≤ 16777216) (c : α → Bool) (f : α → PyData)
    (ht : ∀ x ∈ xs, ∀ W1, Wle W W1 → ∀ s H C cl fp, EdT (blkOf X scope s H C cl fp) W1 ((wipeD [k] Γ).set k (.d (enc x))) μ t (c x))
    (he : ∀ x ∈ xs, c x = true → ∀ W1, Wle W W1 → ∀ s H C cl fp, Ed (blkOf X scope s H C cl fp) W1 ((wipeD [k] Γ).set k (.d (enc x))) μ elt (f x)) (hN : X.N.Nodup) (hn : X.N[k]? = some n := by rfl)
    (hv : ∀ s H C cl fp, Loc (blkOf X scope s H C cl fp).env.scope n := by intro _ _ _ _ _; first | exact Or.inl rfl | exact Or.inr rfl) (hf : ∀ s H C cl fp, (blkOf X scope s H C cl fp).fn n = true ∨ (blkOf X scope s H C cl fp).env.scope.names.lookup n = some .local := by intro _ _ _ _ _; first | exact .inr rfl | exact .inl rfl) (hb : BlkOk X.N X.env.scope scope [(n, k)] := by exact blkOk_by (by kernel_rfl)) :
    LcEv X W Γ μ elt (.Name n p) iter [t] scope (fun ys => ys = (xs.filter c).map f) := by
  have h := lc1 (E := fun x y => y = f x) (c := c) (t := t) (elt := elt) (scope := scope) [(n, k)] hi (tg_name (K := X.K) k) (fun s H C cl fp => pg_name hN hn (hv s H C cl fp) (hf s H C cl fp)) (fun _ _ _ _ => trivial) (fun _ e => e ▸ hz) (fun _ e x hx W1 l s H C cl fp => ht x (e ▸ hx) W1 l s H C cl fp) (fun _ e x hx hc W1 l s H C cl fp => (he x (e ▸ hx) hc W1 l s H C cl fp).ev) hb (by simp)
  obtain ⟨wi, g, tt, te, own, h1, h2, h3, h4, h5, h6⟩ := h.ex
  exact ⟨wi, g, tt, te, own, h1, h2, h3, h4, h5, fun σ H R Q k => h6 σ H R Q fun ys v H2 ⟨l, e, hp⟩ => k ys v H2 (by rw [← e]; exact paired_map hp)⟩
end
end HW
set_option maxHeartbeats 4000000
namespace HW
open PySem PySem.Spec PyProof.Rows L2
section
variable {X : Cx} {W : Wd} {Γ : List DV} {μ : Mu} {α : Type} {tg iter e a b : Expr} {pos p : Pos} {enc : α → PyData} {P : List α → Prop} {xs : List α}
theorem IterV.imp {Q' : List α → Prop} (h : IterV X W Γ μ tg iter enc P) (i : ∀ xs, P xs → Q' xs) : IterV X W Γ μ tg iter enc Q' := by
  obtain ⟨wi, h1, h2⟩ := h
  exact ⟨wi, h1, fun σ H R R' k => h2 σ H R R' fun xs J H1 px => k xs J H1 (i xs px)⟩
theorem walk_list {K : PySem.W.Frag} {pool : Hp} {a : Addr} {vs : List V} {ds : List PyData} (h : pool a = some (.lst vs)) (hv : VaAll K pool vs ds) : WalkD K pool (Itl K a) ds where
  go := fun i H hi s => by
    have hl : i < vs.length := by rw [hv.length]; exact hi
    exact ⟨vs, vs[i], SqL.of (s a _ h), by simp [hl]⟩
  yld := fun i d H v H' L hd _ s y => by
    obtain ⟨rfl, y⟩ := y
    refine ⟨Same.refl _, ?_⟩
    obtain ⟨v2, e, r⟩ := hv.at hd
    have := y vs (SqL.of ((off_some (s a _ h)).2))
    rw [e] at this
    cases this
    exact r.up s
  stop := fun H s => ⟨vs, SqL.of (s a _ h), by rw [hv.length]; exact Nat.le_refl _⟩
theorem it_listV (h : Ev X W Γ μ iter (fun z => ∃ xs, z = .list (xs.map enc) ∧ P xs)) : IterV X W Γ μ tg iter enc P := ⟨_, pi_list wE.pe, fun σ H R R' k => h σ H R _ fun v d H1 R1 e1 r ⟨xs, e, px⟩ => by
  subst e
  cases r with
  | lst ha hv => exact ⟨_, rfl, ⟨_, SqL.of (off_some ha).2⟩, k xs _ H1 px R1 e1 (walk_list ha hv)⟩⟩
theorem it_list {ds : List PyData} (h : Ed X W Γ μ iter (.list ds)) (e : ds = xs.map enc := by rfl) : IterD X W Γ μ tg iter enc xs := it_listV (h.evP ⟨xs, by rw [e], rfl⟩)
/-- a sign as a text -/
abbrev sg (c : Nat) : PyData := .str ⟨#[c]⟩
theorem it_strV {P : List Nat → Prop} (h : Ev X W Γ μ iter (fun z => ∃ cs : List Nat, z = .str ⟨cs.toArray⟩ ∧ P cs)) : IterV X W Γ μ tg iter sg P := ⟨_, pi_str wE.pe, fun σ H R R' k => h σ H R _ fun v d H1 R1 e1 r ⟨cs, e, px⟩ => by
  subst e
  cases r
  refine ⟨_, rfl, k cs _ H1 px R1 e1 ⟨fun i H hi s => ?_, fun i d H v H' L hd _ s y => ?_, fun H s => ?_⟩⟩
  · show i < cs.toArray.size
    simpa using hi
  · obtain ⟨rfl, c, hc, rfl⟩ := y
    refine ⟨Same.refl _, ?_⟩
    have hc' : cs[i]? = some c := by simpa using hc
    rw [List.getElem?_map, hc'] at hd
    cases hd
    exact .str _
  · show cs.toArray.size ≤ _
    simp⟩
theorem it_str {cs : List Nat} {x : Str} (h : Ed X W Γ μ iter (.str x)) (e : x = ⟨cs.toArray⟩ := by rfl) : IterD X W Γ μ tg iter sg cs := it_strV (h.evP ⟨cs, by rw [e], rfl⟩)
/-- range(n), range(a, b) -/
abbrev nn (i : Nat) : PyData := .int (i : Int)
theorem walk_range {K : PySem.W.Frag} {pool : Hp} {lo : Int} {n : Nat} : WalkD K pool (Itr lo n) ((List.range n).map fun (i : Nat) => PyData.int (lo + (i : Int))) where
  go := fun i H hi s => by show i < n; simpa using hi
  yld := fun i d H v H' L hd _ s y => by
    obtain ⟨rfl, rfl⟩ := y
    refine ⟨Same.refl _, ?_⟩
    rw [List.getElem?_map] at hd
    obtain ⟨j, hj, rfl⟩ := Option.map_eq_some_iff.mp hd
    have hl : i < n := by
      have := (List.getElem?_eq_some_iff.mp hj).1
      simpa using this
    rw [List.getElem?_range hl] at hj
    cases hj
    exact .int _
  stop := fun H s => by show n ≤ _; simp
theorem it_rangeV {P : Nat → Prop} (h : EvA X W Γ μ [a] (fun ds => ∃ n : Int, ds = [.int n] ∧ -(2 ^ 62) ≤ n ∧ n < 2 ^ 62 ∧ P n.toNat)) (hm : X.mg "range" = none) (hg : Gl X "range" := by rfl) (hs : starEach [a] X.env = [(false, eval a X.env)] := by rfl) :
    IterV X W Γ μ tg (.Call (.Name "range" p) [a] [] pos) (fun i : Nat => PyData.int ((0 : Int) + (i : Int))) (fun l => ∃ n, l = List.range n ∧ P n) := ⟨_, pi_range1 hg hm wA.pa hs, fun σ H R R' k => h σ H R _ fun vs ds H1 R1 e1 r ⟨n, e, h1, h2, pn⟩ => by
  subst e
  cases r with
  | cons r rr =>
    cases rr
    cases r
    exact ⟨n, rfl, h1, h2, k _ _ H1 ⟨_, rfl, pn⟩ R1 e1 walk_range⟩⟩
theorem it_range {n : Nat} {z : Int} (h : Ed X W Γ μ a (.int z)) (hm : X.mg "range" = none) (e : z.toNat = n := by omega) (hz : -1000000000 ≤ z ∧ z ≤ 1000000000 := by omega) (hg : Gl X "range" := by rfl) (hs : starEach [a] X.env = [(false, eval a X.env)] := by rfl) :
    IterD X W Γ μ tg (.Call (.Name "range" p) [a] [] pos) nn (List.range n) := by
  have := it_rangeV (tg := tg) (p := p) (pos := pos) (P := fun m => m = n) ((ea_cons h ea_nil (by rw [hs]; rfl)).ev ⟨z, rfl, by omega, by omega, e⟩) hm hg hs
  obtain ⟨wi, h1, h2⟩ := this
  refine ⟨wi, h1, fun σ H R R' k => h2 σ H R R' fun xs J H1 px R1 e1 wk => ?_⟩
  obtain ⟨m, e, e3⟩ := px
  subst e
  subst e3
  refine k _ J H1 rfl R1 e1 ?_
  have e : (fun i : Nat => PyData.int ((0 : Int) + (i : Int))) = nn := by funext i; show PyData.int _ = PyData.int _; rw [Int.zero_add]
  rw [e] at wk
  exact wk
end
/-! ### for -/
section
variable {X : Cx} {W : Wd} {Γ : List DV} {μ : Mu} {α : Type} {tg iter : Expr} {body rest : List Stmt} {pos p : Pos} {enc : α → PyData} {P : List α → Prop} {g : TG} {ok : PyData → Prop} {put : PyData → List DV → List DV} {ks : List Nat} {D : Ends}
theorem Rep.wdown {K : PySem.W.Frag} {W W' : Wd} {Γ : List DV} {μ : Mu} {σ : L2.St} {H : Hp} (l : Wle W W') (ok : WdOk K W) (R : Rep K W' Γ μ σ H) : Rep K W Γ μ σ H := by
  refine Rep.down l ok (fun p hp => ?_) R
  cases e : W.H0 p.1 with
  | none => rfl
  | some o =>
    have h := (R.mu p hp).1
    by_cases q : W.isRow p.1
    · have hM := l.m _ (Rep.isRow_M ok q)
      exact absurd h (R.wd.hid _ hM)
    · rw [l.keep _ o q e] at h
      cases h
theorem run_forG (hi : IterV X W Γ μ tg iter enc P) (hg : TgR X.K g ok put ks) (hpg : PG X tg g) (hok : ∀ xs, P xs → ∀ x ∈ xs, ok (enc x)) (J : List α → Nat → List DV → Mu → Prop) (h0 : ∀ xs, P xs → J xs 0 Γ μ)
    (hs : ∀ xs, P xs → ∀ W1, Wle W W1 → ∀ i x Γ' μ', xs[i]? = some x → J xs i Γ' μ' → Run X W1 (put (enc x) Γ') μ' body { D with nx := StP X.K W1 (J xs (i + 1)), ct := StP X.K W1 (J xs (i + 1)), bk := wSs X rest D })
    (hd' : ∀ xs, P xs → ∀ Γ' μ', J xs xs.length Γ' μ' → Run X W Γ' μ' rest D) (hp : PassesOwn (model X.prog X.w) X.A X.env X.xe := by exact PassesOwn.never) (hc : X.calm = true := by rfl) (hf : ∀ x, foldedSetIterable iter X.env x = pure x := by intro _; rfl) :
    Run X W Γ μ (.For tg iter body [] pos :: rest) D := fun σ H R => by
  obtain ⟨wi, h1, h2⟩ := hi
  refine wSs_cons ((ps_for hp hc h1 hpg wSs.ps hf).w ?_)
  refine h2 σ H R _ fun xs J' H1 px R1 e1 wk => ?_
  have le1 : Wle W (W.now μ H1) := R1.now_le
  refine ⟨fun i m σ H => m = xs.length - i ∧ i ≤ xs.length ∧ StP X.K (W.now μ H1) (J xs i) σ H, ⟨xs.length, by simp, Nat.zero_le _, Γ, μ, h0 xs px, R1.now⟩, ?_⟩
  rintro i m σ' H' ⟨rfl, hile, Γ', μ', j, R'⟩
  have pool : Same (off (hd W μ) H1) (off (hd (W.now μ H1) μ') H') := fun a o e => by
    obtain ⟨h1, h2⟩ := off_some e
    have z : (W.now μ H1).H0 a = some o := by
      show off (μ.map (·.1)) H1 a = some o
      rw [off_out (fun z => h1 (List.mem_append_right _ z))]
      exact h2
    rw [off_out (fun q => by
      rcases List.mem_append.mp q with q | q
      · exact h1 (List.mem_append_left _ q)
      · obtain ⟨p, hp, rfl⟩ := List.mem_map.mp q
        rw [(R'.mu p hp).1] at z
        cases z)]
    exact R'.fr.keep a o (fun q => h1 (List.mem_append_left _ (Rep.isRow_M R1.wd q))) z
  have pool0 : Same (off (hd W μ) H1) H' := fun a o e => (off_some (pool a o e)).2
  by_cases hlt : i < xs.length
  · refine .inr ⟨wk.go i H' (by simpa using hlt) pool0, StP X.K (W.now μ H1) (J xs (i + 1)), fun σ2 H2 q => ⟨xs.length - (i + 1), by omega, rfl, hlt, q⟩, fun v H2 y => ?_⟩
    obtain ⟨x, hx⟩ : ∃ x, xs[i]? = some x := ⟨xs[i], by simp [hlt]⟩
    obtain ⟨s2, r2⟩ := wk.yld i (enc x) H' v H2 _ (by rw [List.getElem?_map, hx]; rfl) R'.ne pool y
    have R2 := R'.same s2
    refine hg.run _ v (enc x) σ' H2 _ _ r2 (hok xs px x (List.mem_of_getElem? hx)) R2.sl fun σ3 sl3 _ _ => ?_
    exact hs xs px _ le1 i x Γ' μ' hx j σ3 H2 ⟨R2.wd, R2.fr, sl3, R2.mu, R2.nd⟩
  · have e : i = xs.length := by omega
    subst e
    refine .inl ⟨by have := wk.stop H' pool0; simpa using this, ?_⟩
    exact hd' xs px Γ' μ' j σ' H' (R'.wdown le1 R.wd)
/-- for n in iter -/
theorem run_for {xs : List α} {n : Str} (k : Nat) (hi : IterD X W Γ μ (.Name n p) iter enc xs) (J : Nat → List DV → Mu → Prop) (h0 : J 0 Γ μ)
    (hs : ∀ W1, Wle W W1 → ∀ i x Γ' μ', xs[i]? = some x → J i Γ' μ' → Run X W1 (Γ'.set k (.d (enc x))) μ' body { D with nx := StP X.K W1 (J (i + 1)), ct := StP X.K W1 (J (i + 1)), bk := wSs X rest D })
    (hd' : ∀ Γ' μ', J xs.length Γ' μ' → Run X W Γ' μ' rest D) (hN : X.N.Nodup) (hn : X.N[k]? = some n := by rfl) (hx : Loc X.env.scope n := by first | exact Or.inl rfl | exact Or.inr rfl) (hff : X.fn n = true ∨ X.env.scope.names.lookup n = some .local := by first | exact .inr rfl | exact .inl rfl)
    (hp : PassesOwn (model X.prog X.w) X.A X.env X.xe := by exact PassesOwn.never) (hc : X.calm = true := by rfl) (hf : ∀ x, foldedSetIterable iter X.env x = pure x := by intro _; rfl) :
    Run X W Γ μ (.For (.Name n p) iter body [] pos :: rest) D :=
  run_forG hi (tg_name k) (pg_name hN hn hx hff) (fun _ _ _ _ => trivial) (fun _ => J) (fun _ _ => h0) (fun _ e W1 l i x Γ' μ' h j => hs W1 l i x Γ' μ' (e ▸ h) j) (fun _ e Γ' μ' j => hd' Γ' μ' (e ▸ j)) hp hc hf
/-- the end of a turn -/
theorem run_turn {Φ : List DV → Mu → Prop} (hD : D.nx = StP X.K W Φ := by rfl) (h : Φ Γ μ) : Run X W Γ μ [] D := run_nil fun σ H R => by
  rw [hD]
  exact ⟨Γ, μ, h, R⟩
end
/-! ### defs -/
/-- a def of data: R tells what comes -/
def spR (K : PySem.W.Frag) (R : List PyData → PyData → Prop) : Sp := fun vs H Q _ => ∃ (L : List Addr) (ds : List PyData) (d : PyData), (∀ a ∈ L, H a ≠ none) ∧ VaAll K (off L H) vs ds ∧ R ds d ∧ ∀ v H', Same H H' → Va K (off L H') v d → Q v H'
/-- a def that draws from the row r (its first argument) -/
def spW (K : PySem.W.Frag) (pre : List PyData → Prop) (post : List PyData → PyData → Prop) : Sp := fun vs H Q _ => ∃ (M : List Addr) (r scr : Addr) (ns : List Int) (ws : List V) (ds : List PyData), vs = .ref r :: ws ∧ (∀ a ∈ M, H a ≠ none) ∧ r ∈ M ∧
  RowC H r scr ∧ SqL K H scr (ns.map V.int) ∧ scr ≠ r ∧ ns.length ≤ 63 ∧ VaAll K (off M H) ws ds ∧ pre ds ∧ ∀ v H' d, post ds d → (∀ a o, a ≠ r → H a = some o → H' a = some o) → RowC H' r scr → Va K (off M H') v d → Q v H'
/-- a def of the text, ready to be called -/
structure Fd (P : Program) (w : World) (K : PySem.W.Frag) (mg : Str → Option Value) (base : Heap) (k : Nat) (x : Str) (ps : List Str) (sp : Sp) : Prop where
  ex : ∃ (f : Addr) (fd : FuncData), FnOk P w K mg base CX0 k f fd ps sp ∧ mg x = some (.ref f) ∧ PySem.W.keepIn K (.ref f) = true ∧ Binds K fd ps []
section
variable {P : Program} {w : World} {K : PySem.W.Frag} {mg : Str → Option Value} {base : Heap} {x qual : Str} {params : Arguments} {body : List Stmt} {scope : Scope} {f : Addr} {fd : FuncData} {N ps : List Str} {k : Nat}
theorem slots_start {H : Hp} : ∀ {vs : List V} {ds : List PyData} (m : Nat), VaAll K H vs ds → Slots K H (vs.map some ++ List.replicate m none) (ds.map .d ++ List.replicate m .no) := fun {vs ds} m h => by
  refine ⟨by simp [h.length], fun i dv q => ?_⟩
  by_cases hl : i < ds.length
  · rw [List.getElem?_append_left (by simpa using hl), List.getElem?_map] at q
    obtain ⟨d, hd, rfl⟩ := Option.map_eq_some_iff.mp q
    obtain ⟨v, hv, r⟩ := h.at hd
    refine ⟨some v, ?_, v, rfl, r⟩
    rw [List.getElem?_append_left (by rw [List.length_map, h.length]; exact hl), List.getElem?_map, hv]
    rfl
  · rw [List.getElem?_append_right (by simp; omega), List.length_map] at q
    have hm : i - ds.length < m := by
      have := (List.getElem?_eq_some_iff.mp q).1
      simpa using this
    rw [List.getElem?_replicate, if_pos hm] at q
    cases q
    refine ⟨none, ?_, trivial⟩
    rw [List.getElem?_append_right (by simp [h.length]; omega), List.length_map, h.length, List.getElem?_replicate, if_pos hm]
theorem fd_pure (F : FunD K x qual params body scope [] [] f fd) (S : FnScope N ps scope) (R : List PyData → PyData → Prop) (hlen : ∀ ds d, R ds d → ds.length = ps.length)
    (h : ∀ (cdv : Value) (A : Around) (outer : List Env) (s : Shared) (H : Hp) (E : XK), Room k (A.deeper (envOfC qual scope s.heap.objs.size f cdv)) → ∀ (W : Wd) (ds : List PyData) (d : PyData), W.row = none → R ds d →
      Run (cxOf CX0 P w K mg base N qual scope f cdv A outer s H E).nox W (ds.map .d ++ List.replicate (N.length - ps.length) .no) [] body { nx := fun _ H' => RetP K W (fun z => z = d) .non H', rt := RetP K W (fun z => z = d) }) :
    FnOk P w K mg base CX0 (k + 1) f fd ps (spR K R) := by
  refine F.ok S (fun vs H Q E ⟨L, ds, d, _, hv, r, _⟩ => by rw [hv.length]; exact hlen ds d r) fun cdv A outer s H vs Q E hr ⟨L, ds, d, hL, hv, r, q⟩ => ?_
  refine ⟨_, PSs.nox wSs.ps, ?_⟩
  let W : Wd := ⟨H, L, none⟩
  have ok : WdOk K W := ⟨hL, fun _ _ _ e => nomatch e⟩
  have nr : ∀ a, ¬ W.isRow a := fun a ⟨_, _, e⟩ => nomatch e
  have sl : Slots K (off (hd W []) H) (start N vs) (ds.map .d ++ List.replicate (N.length - ps.length) .no) := by
    show Slots K (off (L ++ []) H) (vs.map some ++ List.replicate (N.length - vs.length) none) _
    rw [List.append_nil, hv.length, hlen ds d r]
    exact slots_start _ hv
  have ret : ∀ v H', RetP K W (fun z => z = d) v H' → Q v H' := fun v H' ⟨fr, d', e, hv'⟩ => q v H' (fun a o e => fr.keep a o (nr a) e) (e ▸ hv')
  intro pins st I
  have z := h cdv A outer s H E hr W ds d rfl r (start N vs) H ⟨ok, ⟨fun _ _ _ e => e, fun _ _ _ e => nomatch e⟩, sl, fun _ z => (nomatch z), List.nodup_nil⟩ pins st I
  refine wpAny_mono z (fun fl s' hq => ?_) fun _ _ z => z
  cases fl with
  | next =>
    obtain ⟨σ', H', I', q'⟩ := hq
    exact ⟨σ', H', I', ret _ _ q'⟩
  | brk => exact hq
  | cont => exact hq
  | ret u =>
    obtain ⟨v, σ', H', I', r', q'⟩ := hq
    exact ⟨v, σ', H', I', r', ret _ _ q'⟩
theorem fd_row (F : FunD K x qual params body scope [] [] f fd) (S : FnScope N ps scope) (pre : List PyData → Prop) (post : List PyData → PyData → Prop) (hlen : ∀ ds, pre ds → ds.length + 1 = ps.length)
    (h : ∀ (cdv : Value) (A : Around) (outer : List Env) (s : Shared) (H : Hp) (E : XK), Room k (A.deeper (envOfC qual scope s.heap.objs.size f cdv)) → ∀ (W : Wd) (r scr : Addr) (ns : List Int) (ds : List PyData), W.row = some (r, scr, ns) → pre ds →
      Run (cxOf CX0 P w K mg base N qual scope f cdv A outer s H E).nox W (.r r :: (ds.map .d ++ List.replicate (N.length - ps.length) .no)) [] body { nx := fun _ H' => RetP K W (post ds) .non H', rt := RetP K W (post ds) }) :
    FnOk P w K mg base CX0 (k + 1) f fd ps (spW K pre post) := by
  refine F.ok S (fun vs H Q E ⟨M, r, scr, ns, ws, ds, e, _, _, _, _, _, _, hv, hpre, _⟩ => by rw [e, List.length_cons, hv.length]; exact hlen ds hpre) fun cdv A outer s H vs Q E hr ⟨M, r, scr, ns, ws, ds, e, hM, hrM, hR, hS, hne, hns, hv, hp, q⟩ => ?_
  refine ⟨_, PSs.nox wSs.ps, ?_⟩
  let W : Wd := ⟨H, M, some (r, scr, ns)⟩
  have ok : WdOk K W := ⟨hM, fun r' s' n' e => by cases e; exact ⟨hrM, hS, hne, hns⟩⟩
  have nr : ∀ a, a ≠ r → ¬ W.isRow a := fun a n ⟨_, _, e⟩ => by cases e; exact n rfl
  have sl : Slots K (off (hd W []) H) (start N vs) (.r r :: (ds.map .d ++ List.replicate (N.length - ps.length) .no)) := by
    show Slots K (off (M ++ []) H) (vs.map some ++ List.replicate (N.length - vs.length) none) _
    rw [List.append_nil, e, List.length_cons, hv.length, hlen ds hp]
    have z := slots_start (K := K) (N.length - ps.length) hv
    refine ⟨by simp [z.len, hv.length], fun i dv hi => ?_⟩
    cases i with
    | zero => cases hi; exact ⟨_, rfl, rfl⟩
    | succ i => exact z.at_ i dv hi
  have ret : ∀ v H', RetP K W (post ds) v H' → Q v H' := fun v H' ⟨fr, d', e, hv'⟩ => q v H' d' e (fun a o n e => fr.keep a o (nr a n) e) (fr.row _ _ _ rfl) hv'
  intro pins st I
  have z := h cdv A outer s H E hr W r scr ns ds rfl hp (start N vs) H ⟨ok, ⟨fun _ _ _ e => e, fun r' s' n' e => by cases e; exact hR⟩, sl, fun _ z => (nomatch z), List.nodup_nil⟩ pins st I
  refine wpAny_mono z (fun fl s' hq => ?_) fun _ _ z => z
  cases fl with
  | next =>
    obtain ⟨σ', H', I', q'⟩ := hq
    exact ⟨σ', H', I', ret _ _ q'⟩
  | brk => exact hq
  | cont => exact hq
  | ret u =>
    obtain ⟨v, σ', H', I', r', q'⟩ := hq
    exact ⟨v, σ', H', I', r', ret _ _ q'⟩
theorem Fd.mono {j : Nat} {sp : Sp} (F : Fd P w K mg base j x ps sp) (h : j ≤ k) : Fd P w K mg base k x ps sp := by
  obtain ⟨f, fd, h1, h2⟩ := F.ex
  exact ⟨f, fd, h1.mono h, h2⟩
end
/-! ### calls of defs -/
section
variable {X : Cx} {W : Wd} {Γ : List DV} {μ : Mu} {e : Expr} {es : List Expr} {pos p : Pos} {x : Str} {ps : List Str} {k : Nat} {d : PyData} {ds : List PyData}
theorem ev_call {R : List PyData → PyData → Prop} {A : List PyData → Prop} {B : PyData → Prop} (F : Fd X.prog X.w X.K X.mg X.base k x ps (spR X.K R)) (hr : Room k X.A) (ha : EvA X W Γ μ (e :: es) A) (hR : ∀ ds, A ds → ∃ d, R ds d ∧ B d) (hg : Gl X x := by rfl)
    (hdb : (x == ("__debug__" : Str)) = false := by decide) (he : starEach (e :: es) X.env = (false, eval e X.env) :: starEach es X.env := by rfl) (hpl : (backTo pos (starEach es X.env)).any (·.1) = false := by rfl) : Ev X W Γ μ (.Call (.Name x p) (e :: es) [] pos) B := fun σ H R Q q => by
  obtain ⟨f, fd, h1, h2, h3, h4⟩ := F.ex
  refine (pe_call h1 hr hg h2 h3 h4 .nil pass0 wA.pa hdb he hpl).w (ha σ H R _ fun vs ds H2 R2 e2 r2 pa => ?_)
  obtain ⟨d, hd, pb⟩ := hR ds pa
  refine ⟨HW.hd W μ, ds, d, R2.ne, by rw [List.append_nil]; exact r2, hd, fun v H3 s3 r3 => q v d H3 (R2.same s3) (e2.trans (XT.same s3)) r3 pb⟩
theorem ed_call {R : List PyData → PyData → Prop} (F : Fd X.prog X.w X.K X.mg X.base k x ps (spR X.K R)) (hr : Room k X.A) (ha : EdA X W Γ μ (e :: es) ds) (hR : R ds d) (hg : Gl X x := by rfl)
    (hdb : (x == ("__debug__" : Str)) = false := by decide) (he : starEach (e :: es) X.env = (false, eval e X.env) :: starEach es X.env := by rfl) (hpl : (backTo pos (starEach es X.env)).any (·.1) = false := by rfl) : Ed X W Γ μ (.Call (.Name x p) (e :: es) [] pos) d :=
  (ev_call (B := fun z => z = d) F hr (ha.ev (P := fun l => l = ds) rfl) (fun _ e => ⟨d, e ▸ hR, rfl⟩) hg hdb he hpl).ed
/-- f(row, ..), f a def that draws -/
theorem ev_draw {pre : List PyData → Prop} {post : List PyData → PyData → Prop} {A : List PyData → Prop} {n : Str} {p2 : Pos} {r scr : Addr} {ns : List Int} (F : Fd X.prog X.w X.K X.mg X.base k x ps (spW X.K pre post)) (hr : Room k X.A) (hrow : W.row = some (r, scr, ns)) (i : Nat) (ha : EvA X W Γ μ es A) (hR : ∀ ds, A ds → pre ds)
    (hi : Γ[i]? = some (.r r) := by rfl) (hN : X.N[i]? = some n := by rfl) (hv : Vis X.env.scope n := by first | exact Or.inl rfl | exact Or.inr (Or.inl rfl) | exact Or.inr (Or.inr rfl))
    (h1 : (n == ("__debug__" : Str)) = false := by decide) (h2 : (n == ("__classdict__" : Str)) = false := by decide) (hg : Gl X x := by rfl)
    (hdb : (x == ("__debug__" : Str)) = false := by decide) (he : starEach (.Name n p2 :: es) X.env = (false, eval (.Name n p2) X.env) :: starEach es X.env := by rfl) (hpl : (backTo pos (starEach es X.env)).any (·.1) = false := by rfl) :
    Ev X W Γ μ (.Call (.Name x p) (.Name n p2 :: es) [] pos) (fun d => ∃ ds, A ds ∧ post ds d) := fun σ H R Q q => by
  obtain ⟨f, fd, g1, g2, g3, g4⟩ := F.ex
  refine (pe_call g1 hr hg g2 g3 g4 .nil pass0 (pa_cons (pe_var hN hv h1 h2) wA.pa he) hdb he hpl).w ?_
  obtain ⟨o, e1, e2⟩ := R.sl.at_ i _ hi
  have e2' : o = some (.ref r) := e2
  subst e2'
  refine ⟨_, e1, ha σ H R _ fun vs ds H2 R2 e2 r2 pa => ?_⟩
  obtain ⟨w1, w2, w3, w4⟩ := R2.wd.row r scr ns hrow
  have isr : W.isRow r := ⟨scr, ns, hrow⟩
  have sq : SqL X.K H2 scr (ns.map V.int) := SqL.up (fun o e => R2.fr.keep scr o (fun ⟨s2, n2, z⟩ => by
    rw [hrow] at z
    cases z
    exact w3 rfl) e) w2
  refine ⟨hd W μ, r, scr, ns, vs, ds, by rw [List.append_nil], R2.ne, List.mem_append_left _ w1, R2.fr.row r scr ns hrow, sq, w3, w4, r2, hR ds pa, fun v H3 d pd keep rc r3 => ?_⟩
  have nor : ∀ a, ¬ W.isRow a → a ≠ r := fun a n z => n (z ▸ isr)
  have xt : XT (hd W μ) H2 H3 := fun a o e => by
    obtain ⟨h1, h2⟩ := off_some e
    rw [off_out h1]
    exact keep a o (fun z => h1 (List.mem_append_left _ (z ▸ w1))) h2
  have R3 : Rep X.K W Γ μ σ H3 := ⟨R2.wd, ⟨fun a o n e => keep a o (nor a n) (R2.fr.keep a o n e), fun r' s' n' e => by
    rw [hrow] at e
    cases e
    exact rc⟩, R2.sl.up xt, fun p hp => ⟨(R2.mu p hp).1, (R2.mu p hp).2.up xt fun o e => keep _ o (fun z => by
      have := (R2.mu p hp).1
      rw [z] at this
      exact R2.wd.hid r w1 this) e⟩, R2.nd⟩
  exact q v d H3 R3 (e2.trans xt) r3 ⟨ds, pa, pd⟩
end
end HW
set_option maxHeartbeats 4000000
namespace HW
open PySem PySem.Spec PyProof.Rows L2
open SX (S)
section
variable {X : Cx}
theorem IxR.to {r r' : R2} (h : IxR X r) (i : ∀ a b H Q, r' a b H Q → r a b H Q) : IxR X r' := fun e1 e2 pins s σ H x y v u Q I rx ry q hs => h e1 e2 pins s σ H x y v u Q I rx ry (i _ _ _ _ q) hs
theorem MtR.to {id : String} {r r' : V → List V → Hp → VK → Prop} (h : MtR X id r) (i : ∀ x vs H Q, r' x vs H Q → r x vs H Q) : MtR X id r' := fun pins s σ H x xs v us Q I rx rv q => h pins s σ H x xs v us Q I rx rv (i _ _ _ _ q)
/-! ### numbers -/
variable {i j : Int}
theorem o_add : OpD X (binaryOp .Add) (.int i) (.int j) (.int (i + j)) := OpR.to op_add fun a b H Q ⟨L, _, ha, hb, k⟩ => by cases ha; cases hb; exact ⟨i, j, rfl, rfl, k _ _ (Same.refl _) (.int _)⟩
theorem o_sub : OpD X (binaryOp .Sub) (.int i) (.int j) (.int (i - j)) := OpR.to op_sub fun a b H Q ⟨L, _, ha, hb, k⟩ => by cases ha; cases hb; exact ⟨i, j, rfl, rfl, k _ _ (Same.refl _) (.int _)⟩
theorem c_lt : OpD X (compareOp .Lt) (.int i) (.int j) (.bool (decide (i < j))) := OpR.to op_lt fun a b H Q ⟨L, _, ha, hb, k⟩ => by cases ha; cases hb; exact ⟨i, j, rfl, rfl, k _ _ (Same.refl _) (.bl _)⟩
theorem c_le : OpD X (compareOp .LtE) (.int i) (.int j) (.bool (decide (i ≤ j))) := OpR.to op_le fun a b H Q ⟨L, _, ha, hb, k⟩ => by cases ha; cases hb; exact ⟨i, j, rfl, rfl, k _ _ (Same.refl _) (.bl _)⟩
theorem c_gt : OpD X (compareOp .Gt) (.int i) (.int j) (.bool (decide (j < i))) := OpR.to op_gt fun a b H Q ⟨L, _, ha, hb, k⟩ => by cases ha; cases hb; exact ⟨i, j, rfl, rfl, k _ _ (Same.refl _) (.bl _)⟩
theorem c_eqI : OpD X (compareOp .Eq) (.int i) (.int j) (.bool (decide (i = j))) := OpR.to op_eq fun a b H Q ⟨L, _, ha, hb, k⟩ => by
  cases ha; cases hb
  refine ⟨rfl, ?_⟩
  rw [dec_int, Bool.beq_eq_decide_eq]
  exact k _ _ (Same.refl _) (.bl _)
theorem c_neI : OpD X (compareOp .NotEq) (.int i) (.int j) (.bool (!decide (i = j))) := OpR.to op_ne fun a b H Q ⟨L, _, ha, hb, k⟩ => by
  cases ha; cases hb
  refine ⟨rfl, ?_⟩
  rw [dec_int, Bool.beq_eq_decide_eq]
  exact k _ _ (Same.refl _) (.bl _)
/-! ### any data -/
theorem c_eqD {x y : PyData} (hu : X.A.units + 64 < cLine) (hx : SeqAt.shaped x = true) (hy : SeqAt.shaped y = true) : OpD X (compareOp .Eq) x y (.bool (PyData.eqv x y)) := OpR.to (op_eqD hu) fun a b H Q ⟨L, _, ha, hb, k⟩ =>
  ⟨x, y, (ha.up same_off).dp (nod_of_lay (SeqAt.canLay_of_shaped hx)), (hb.up same_off).dp (nod_of_lay (SeqAt.canLay_of_shaped hy)), hx, hy, k _ _ (Same.refl _) (.bl _)⟩
theorem c_neD {x y : PyData} (hu : X.A.units + 64 < cLine) (hx : SeqAt.shaped x = true) (hy : SeqAt.shaped y = true) : OpD X (compareOp .NotEq) x y (.bool (!PyData.eqv x y)) := OpR.to (op_neD hu) fun a b H Q ⟨L, _, ha, hb, k⟩ =>
  ⟨x, y, (ha.up same_off).dp (nod_of_lay (SeqAt.canLay_of_shaped hx)), (hb.up same_off).dp (nod_of_lay (SeqAt.canLay_of_shaped hy)), hx, hy, k _ _ (Same.refl _) (.bl _)⟩
/-! ### texts -/
variable {l m : List Nat}
theorem S_eq {a b : List Nat} : decide (V.str (S a) = V.str (S b)) = decide (a = b) := by rw [dec_str, SX.S_beq_eq]
theorem c_eqS : OpD X (compareOp .Eq) (.str (S l)) (.str (S m)) (.bool (decide (l = m))) := OpR.to op_eq fun a b H Q ⟨L, _, ha, hb, k⟩ => by
  cases ha; cases hb
  refine ⟨rfl, ?_⟩
  rw [S_eq]
  exact k _ _ (Same.refl _) (.bl _)
theorem c_neS : OpD X (compareOp .NotEq) (.str (S l)) (.str (S m)) (.bool (!decide (l = m))) := OpR.to op_ne fun a b H Q ⟨L, _, ha, hb, k⟩ => by
  cases ha; cases hb
  refine ⟨rfl, ?_⟩
  rw [S_eq]
  exact k _ _ (Same.refl _) (.bl _)
theorem o_adds (h : l.length + m.length ≤ 16777216) : OpD X (binaryOp .Add) (.str (S l)) (.str (S m)) (.str (S (l ++ m))) := OpR.to op_add_str fun a b H Q ⟨L, _, ha, hb, k⟩ => by
  cases ha; cases hb
  refine ⟨_, _, rfl, rfl, by rw [SX.S_len, SX.S_len]; exact h, ?_⟩
  rw [SX.S_cat]
  exact k _ _ (Same.refl _) (.str _)
/-- one sign in a text -/
theorem c_inS {c : Nat} : OpD X (compareOp .In) (sg c) (.str (S m)) (.bool (decide (c ∈ m))) := OpR.to op_in_sign fun a b H Q ⟨L, _, ha, hb, k⟩ => by
  cases ha; cases hb
  exact ⟨c, S m, rfl, rfl, k _ _ (Same.refl _) (.bl _)⟩
theorem at_nat {α : Type} {l : List α} {i : Int} {n : Nat} {c : α} (e : i = (n : Int)) (h : l[n]? = some c) : atI l i = some c := by
  rw [e]
  have hl := (List.getElem?_eq_some_iff.mp h).1
  unfold atI ixN
  rw [if_pos (Int.natCast_nonneg n), if_pos (by omega)]
  simpa using h
theorem i_str {c : Nat} {n : Nat} (hl : l.length ≤ 16777216) (hc : l[n]? = some c) (e : i = (n : Int) := by rfl) : IxD X (.str (S l)) (.int i) (sg c) := IxR.to ix_str fun a b H Q ⟨L, _, ha, hb, k⟩ => by
  cases ha; cases hb
  exact ⟨S l, i, c, rfl, rfl, by rw [SX.S_len]; exact hl, at_nat e hc, k _ _ (Same.refl _) (.str _)⟩
/-- s[-1] -/
theorem at_last {α : Type} {l : List α} {c : α} (h : l.getLast? = some c) : atI l (-1) = some c := by
  have hl : l ≠ [] := by rintro rfl; simp at h
  have hp : 0 < l.length := List.length_pos_iff.mpr hl
  unfold atI ixN
  rw [if_neg (by decide), if_pos (by omega)]
  have e : ((-1 : Int) + (l.length : Int)).toNat = l.length - 1 := by omega
  show l[((-1 : Int) + (l.length : Int)).toNat]? = some c
  rw [e, ← h, List.getLast?_eq_getElem?]
theorem i_strL {c : Nat} (hl : l.length ≤ 16777216) (hc : l.getLast? = some c) : IxD X (.str (S l)) (.int (-1)) (sg c) := IxR.to ix_str fun a b H Q ⟨L, _, ha, hb, k⟩ => by
  cases ha; cases hb
  exact ⟨S l, -1, c, rfl, rfl, by rw [SX.S_len]; exact hl, at_last hc, k _ _ (Same.refl _) (.str _)⟩
theorem c_lenS (h : l.length ≤ 16777216) : CallD X (.builtin "len") [.str (S l)] (nn l.length) := CallR.to call_len_str fun vs H Q ⟨L, _, hv, k⟩ => by
  cases hv with
  | cons h1 h2 =>
    cases h2; cases h1
    refine ⟨_, rfl, by rw [SX.S_len]; exact h, ?_⟩
    rw [SX.S_len]
    exact k _ _ (Same.refl _) (.int _)
/-! ### lists, tuples -/
variable {ds es : List PyData} {d : PyData}
theorem c_lenL : CallD X (.builtin "len") [.list ds] (nn ds.length) := CallR.to call_len_seq fun vs H Q ⟨L, _, hv, k⟩ => by
  cases hv with
  | cons h1 h2 =>
    cases h2
    cases h1 with
    | lst ha hs => exact ⟨_, _, rfl, .inl (SqL.of (off_some ha).2), by rw [hs.length]; exact k _ _ (Same.refl _) (.int _)⟩
theorem c_lenT : CallD X (.builtin "len") [.tuple ds] (nn ds.length) := CallR.to call_len_seq fun vs H Q ⟨L, _, hv, k⟩ => by
  cases hv with
  | cons h1 h2 =>
    cases h2
    cases h1 with
    | tup ha hs => exact ⟨_, _, rfl, .inr (SqT.up same_off ha), by rw [hs.length]; exact k _ _ (Same.refl _) (.int _)⟩
theorem i_list {n : Nat} (hd : ds[n]? = some d) (e : i = (n : Int) := by rfl) : IxD X (.list ds) (.int i) d := IxR.to ix_list fun a b H Q ⟨L, _, ha, hb, k⟩ => by
  cases hb
  cases ha with
  | lst ha hs =>
    obtain ⟨v, hv, r⟩ := hs.at hd
    exact ⟨_, _, i, v, rfl, rfl, SqL.of (off_some ha).2, at_nat e hv, k _ _ (Same.refl _) r⟩
theorem o_cat (h : ds.length + es.length ≤ 16777216) : OpD X (binaryOp .Add) (.list ds) (.list es) (.list (ds ++ es)) := OpR.to op_cat fun a b H Q ⟨L, hL, ha, hb, k⟩ => by
  cases ha with
  | lst ha hs =>
    cases hb with
    | lst hb ht =>
      refine ⟨_, _, _, _, rfl, rfl, (off_some ha).2, (off_some hb).2, by rw [hs.length, ht.length]; exact h, fun p hp => ?_⟩
      exact k _ _ (same_new hp) (.lst (off_upd (new_out hL hp)) ((hs.app ht).up (XT.same (same_new hp))))
theorem vaAll_rep {K : PySem.W.Frag} {H : Hp} {vs : List V} {ds : List PyData} (h : VaAll K H vs ds) : ∀ n : Nat, VaAll K H (List.replicate n vs).flatten (List.replicate n ds).flatten
  | 0 => .nil
  | n + 1 => by
    rw [List.replicate_succ, List.replicate_succ, List.flatten_cons, List.flatten_cons]
    exact h.app (vaAll_rep h n)
theorem o_rep (h : ds.length * j.toNat ≤ 16777216) (hj : -1000000000 ≤ j ∧ j ≤ 1000000000) : OpD X (binaryOp .Mult) (.list ds) (.int j) (.list (List.replicate j.toNat ds).flatten) := OpR.to op_rep fun a b H Q ⟨L, hL, ha, hb, k⟩ => by
  cases hb
  cases ha with
  | lst ha hs =>
    refine ⟨_, _, _, rfl, rfl, (off_some ha).2, by omega, by omega, by rw [hs.length]; exact h, fun p hp => ?_⟩
    exact k _ _ (same_new hp) (.lst (off_upd (new_out hL hp)) ((vaAll_rep hs _).up (XT.same (same_new hp))))
theorem c_all {bs : List Bool} (hc : X.calm = true) : CallD X (.builtin "all") [.list (bs.map .bool)] (.bool (bs.all id)) := CallR.to (cr_all hc) fun vs H Q ⟨L, _, hv, k⟩ => by
  cases hv with
  | cons h1 h2 =>
    cases h2
    cases h1 with
    | lst ha hs => exact ⟨_, bs, rfl, by rw [← hs.bls]; exact SqL.of (off_some ha).2, k _ _ (Same.refl _) (.bl _)⟩
theorem c_max2 (hc : X.calm = true) : CallD X (.builtin "max") [.int i, .int j] (.int (if j > i then j else i)) := CallR.to (call_max2 hc) fun vs H Q ⟨L, _, hv, k⟩ => by
  cases hv with
  | cons g1 g2 =>
    cases g2 with
    | cons g2 g3 =>
      cases g3; cases g1; cases g2
      exact ⟨i, j, rfl, k _ _ (Same.refl _) (.int _)⟩
end
/-! ### methods of texts: sep.join -/
section
variable {X : Cx} {W : Wd} {Γ : List DV} {μ : Mu} {e o : Expr} {pos apos p : Pos} {l : List Nat} {ws : List (List Nat)}
theorem flat_join : ∀ ws : List (List Nat), TL.joinL [] ws = ws.flatten
  | [] => rfl
  | [w] => by simp [TL.joinL]
  | w :: v :: r => by
    have ih := flat_join (v :: r)
    rw [List.flatten_cons, ← ih]
    simp [TL.joinL]
theorem vaAll_S {K : PySem.W.Frag} {H : Hp} {vs : List V} (h : VaAll K H vs (ws.map fun w => PyData.str (S w))) : vs = (ws.map S).map V.str := by
  have e : (ws.map fun w => PyData.str (S w)) = (ws.map S).map PyData.str := by rw [List.map_map]; rfl
  rw [e] at h
  exact h.strs
theorem ev_join {Ws : List (List Nat) → Prop} (ho : Ed X W Γ μ o (.str (S []))) (he : Ev X W Γ μ e (fun z => ∃ ws : List (List Nat), z = .list (ws.map fun w => .str (S w)) ∧ Ws ws)) (hz : ∀ ws, Ws ws → (ws.map List.length).sum ≤ 16777216)
    (hs : starEach [e] X.env = [(false, eval e X.env)] := by rfl) (hbase : attributeBase o "join" X.env (eval o X.env) = eval o X.env := by rfl) (hline : (apos.endLine == pos.line) = true := by rfl) :
    Ev X W Γ μ (.Call (.Attribute o "join" apos) [e] [] pos) (fun z => ∃ ws, z = .str (S ws.flatten) ∧ Ws ws) := fun σ H R Q q => by
  refine (pe_join wE.pe wE.pe hs hbase hline).w (ho σ H R _ fun v H2 R2 e2 r2 => ?_)
  cases r2
  refine ⟨⟨_, rfl⟩, he σ H2 R2 _ fun v d H3 R3 e3 r3 ⟨ws, ed, pw⟩ => ?_⟩
  subst ed
  cases r3 with
  | lst ha hv =>
    have ev := vaAll_S hv
    refine ⟨S [], _, ws.map S, rfl, rfl, .inl (by rw [← ev]; exact SqL.of (off_some ha).2), ?_, ?_⟩
    · rw [List.map_map]
      have z := hz ws pw
      have e1 : (ws.map ((fun x : Str => x.length) ∘ S)) = ws.map List.length := List.map_congr_left fun w _ => SX.S_len w
      rw [e1, SX.S_len]
      simpa using z
    · rw [SX.join_S, flat_join]
      exact q _ _ H3 R3 (e2.trans e3) (.str _) ⟨ws, rfl, pw⟩
/-! ### slices -/
theorem po_int {lo : Expr} {z : Int} (h : Ed X W Γ μ lo (.int z)) : ∀ σ H, Rep X.K W Γ μ σ H → ∀ Q : Option Int → Hp → Prop, (∀ H2, Rep X.K W Γ μ σ H2 → XT (hd W μ) H H2 → Q (some z) H2) → tPart (wE X lo) σ H Q := fun σ H R Q q => h σ H R _ fun v H2 R2 e2 r => by
  cases r
  exact ⟨z, rfl, q H2 R2 e2⟩
/-- a part of a slice -/
def EdO (X : Cx) (W : Wd) (Γ : List DV) (μ : Mu) (e : Option Expr) (o : Option Int) : Prop := ∃ t, PO X e t ∧ ∀ σ H, Rep X.K W Γ μ σ H → ∀ Q : Option Int → Hp → Prop, (∀ H2, Rep X.K W Γ μ σ H2 → XT (hd W μ) H H2 → Q o H2) → t σ H Q
theorem so_none : EdO X W Γ μ none none := ⟨_, po_none, fun σ H R Q q => q H R XT.refl⟩
theorem so_some {z : Int} (h : Ed X W Γ μ e (.int z)) : EdO X W Γ μ (some e) (some z) := ⟨_, po_some wE.pe, po_int h⟩
/-- a slice by values -/
def rDs (K : PySem.W.Frag) (d : PyData) (lo hi : Option Int) (z : PyData) : V → Option Int → Option Int → Hp → VK → Prop := fun v l h H Q => l = lo ∧ h = hi ∧ ∃ L : List Addr, (∀ a ∈ L, H a ≠ none) ∧ Va K (off L H) v d ∧ ∀ v' H2, Same H H2 → Va K (off L H2) v' z → Q v' H2
def SlD (X : Cx) (d : PyData) (lo hi : Option Int) (z : PyData) : Prop := L2.SlR X (rDs X.K d lo hi z)
theorem SlR.to {r r' : V → Option Int → Option Int → Hp → VK → Prop} (h : L2.SlR X r) (i : ∀ x l u H Q, r' x l u H Q → r x l u H Q) : L2.SlR X r' := fun pins s σ H x v vl vu lo hi sl Q I rx hs pl pu q => h pins s σ H x v vl vu lo hi sl Q I rx hs pl pu (i _ _ _ _ _ q)
theorem ed_sl {a : Expr} {lo hi : Option Expr} {l u : Option Int} {d z : PyData} {p2 : Pos} (ha : Ed X W Γ μ a d) (hl : EdO X W Γ μ lo l) (hu : EdO X W Γ μ hi u) (hs : SlD X d l u z) : Ed X W Γ μ (.Subscript a (.Slice lo hi none p2) pos) z := fun σ H R Q q => by
  obtain ⟨tl, l1, l2⟩ := hl
  obtain ⟨tu, u1, u2⟩ := hu
  refine (pe_slice (r := rDs X.K d l u z) hs wE.pe l1 u1).w (ha σ H R _ fun v H2 R2 e2 r2 => l2 σ H2 R2 _ fun H3 R3 e3 => u2 σ H3 R3 _ fun H4 R4 e4 => ?_)
  exact ⟨rfl, rfl, hd W μ, R4.ne, (r2.up e3).up e4, fun v' H5 s5 r5 => q v' H5 (R4.same s5) (((e2.trans e3).trans e4).trans (XT.same s5)) r5⟩
end
section
variable {X : Cx} {l : List Nat} {ds : List PyData} {n m : Nat}
theorem s_list {lo hi : Option Int} : SlD X (.list ds) lo hi (.list ((ds.drop (HT.sIx ds.length 0 lo)).take (HT.sIx ds.length ds.length hi - HT.sIx ds.length 0 lo))) := SlR.to sl_list fun v l u H Q ⟨e1, e2, L, hL, hv, k⟩ => by
  subst e1 e2
  cases hv with
  | lst ha hs =>
    refine ⟨_, _, rfl, SqL.of (off_some ha).2, fun p hp => ?_⟩
    refine k _ _ (same_new hp) (.lst (off_upd (new_out hL hp)) ?_)
    unfold cutV
    rw [hs.length]
    exact ((hs.drop _).take _).up (XT.same (same_new hp))
theorem s_str {lo hi : Option Int} (h : l.length ≤ 16777216) : SlD X (.str (S l)) lo hi (.str (S ((l.drop (HT.sIx l.length 0 lo)).take (HT.sIx l.length l.length hi - HT.sIx l.length 0 lo)))) := SlR.to sl_str fun v l' u H Q ⟨e1, e2, L, hL, hv, k⟩ => by
  subst e1 e2
  cases hv
  refine ⟨_, rfl, by rw [SX.S_len]; exact h, ?_⟩
  unfold cutS
  rw [SX.S_len]
  exact k _ _ (Same.refl _) (.str _)
theorem s_strT (n : Nat) {z : Int} (hl : l.length ≤ 16777216) (e : z = (n : Int) := by rfl) : SlD X (.str (S l)) none (some z) (.str (S (l.take n))) := by
  have h := s_str (X := X) (l := l) (lo := none) (hi := some z) hl
  subst e
  rw [HT.sIx_none, HT.sIx_nat, List.drop_zero, Nat.sub_zero] at h
  have e2 : l.take (min n l.length) = l.take n := by
    rw [Nat.min_def]
    split
    · rfl
    · rw [List.take_of_length_le (by omega), List.take_of_length_le (by omega)]
  rw [e2] at h
  exact h
theorem s_strD (n : Nat) {z : Int} (hl : l.length ≤ 16777216) (e : z = (n : Int) := by rfl) : SlD X (.str (S l)) (some z) none (.str (S (l.drop n))) := by
  have h := s_str (X := X) (l := l) (lo := some z) (hi := none) hl
  subst e
  rw [HT.sIx_none, HT.sIx_nat] at h
  have e2 : (l.drop (min n l.length)).take (l.length - min n l.length) = l.drop n := by
    rw [Nat.min_def]
    split
    · rw [List.take_of_length_le (by simp)]
    · rw [List.drop_of_length_le (by omega), List.drop_of_length_le (by omega)]
      simp
  rw [e2] at h
  exact h
end
/-! ### isinstance -/
def tyD : PyData → String
  | .none => "NoneType"
  | .bool _ => "bool"
  | .int _ => "int"
  | .str _ => "str"
  | .list _ => "list"
  | .tuple _ => "tuple"
  | .dict _ => "dict"
def isPtr : PyData → Bool
  | .dict (_ :: _) => true
  | _ => false
theorem va_ty {K : PySem.W.Frag} {H : Hp} {L : List Addr} {v : V} {d : PyData} (h : Va K (off L H) v d) (hp : isPtr d = false) : TyX K H v (.type (tyD d)) := by
  cases h with
  | non => exact .base .non
  | bl b => exact .base (.bl b)
  | int i => exact .base (.int i)
  | str x => exact .base (.str x)
  | lst ha _ => exact .base (.lst (off_some ha).2)
  | tup ha _ =>
    rcases SqT.up same_off ha with (h | ⟨o, h⟩) | ⟨o, its, n, hk, hc, _⟩
    · exact .base (.tup h)
    · exact .fTuple h
    · exact .kTuple hk hc
  | dct ha => exact .base (.dK (off_some ha).2)
  | ptr a => cases hp
  | dcf _ _ _ => cases hp
  | dtf _ _ _ => cases hp
section
variable {X : Cx} {W : Wd} {Γ : List DV} {μ : Mu} {e : Expr} {d : PyData} {pos p p2 : Pos} {b : Bool}
theorem ed_isi {T : String} {n : Str} (he : Ed X W Γ μ e d) (hm : X.mg "isinstance" = none) (hmT : X.mg n = none) (hv : bootBuiltins n = some (.type T)) (hk : ∀ K, PySem.W.kitOne K (.type (tyD d)) (.type T) = some b := by intro K; rfl) (hp : isPtr d = false := by first | rfl | assumption) (hg : Gl X "isinstance" := by rfl) (hgT : Gl X n := by rfl)
    (hn : n ≠ "__name__" := by decide) (hdb : (n == ("__debug__" : Str)) = false := by decide)
    (hs : starEach [e, .Name n p2] X.env = (false, eval e X.env) :: starEach [.Name n p2] X.env := by rfl) (hs2 : starEach [.Name n p2] X.env = (false, eval (.Name n p2) X.env) :: starEach [] X.env := by rfl) (hpl : (backTo pos (starEach [.Name n p2] X.env)).any (·.1) = false := by rfl) :
    Ed X W Γ μ (.Call (.Name "isinstance" p) [e, .Name n p2] [] pos) (.bool b) := fun σ H R Q q => by
  refine (pe_callB call_isi hg hm boot_isinstance (pa_cons wE.pe (pa_cons (pe_bltn (v := .ty T) hgT hmT hv rfl hn hdb) pa_nil hs2) hs) (by decide) (by decide) hs hpl).w (he σ H R _ fun v H2 R2 e2 r2 => ?_)
  exact ⟨v, .ty T, _, _, b, rfl, .ty T, va_ty r2 hp, hk _, q _ H2 R2 e2 (.bl b)⟩
end
end HW
set_option maxHeartbeats 4000000
namespace HW
open PySem PySem.Spec PyProof.Rows L2
open SX (S)
/-! ### what is gone through, in one shape -/
inductive Sc where
  | txt (x : Str) | lst (a : Addr) | tup (a : Addr)
def Sc.v : Sc → V
  | .txt x => .str x
  | .lst a => .ref a
  | .tup a => .ref a
def signsV (x : Str) : List V := x.cps.toList.map fun c => .str ⟨#[c]⟩
def Sc.xs (K : PySem.W.Frag) (H : Hp) : Sc → List V → Prop
  | .txt x, xs => xs = signsV x
  | .lst a, xs => SqL K H a xs
  | .tup a, xs => SqT K H a xs
def Sc.fp : Sc → List Addr
  | .txt _ => []
  | .lst a => [a]
  | .tup a => [a]
def Sc.it : Sc → Tok → Addr → Nat → Heap → Prop
  | .txt x, t, it, i, h => h.IsStrIter it (strIterType x) x t i
  | .lst a, _, it, i, h => h.IsListIter it a i
  | .tup a, _, it, i, h => h.IsTupleIter it a i
theorem Sc.at {k : Sc} {t : Tok} {it : Addr} {i : Nat} {h h' : Heap} (s : k.it t it i h) (e : ∀ o, h.get? it = some o → h'.get? it = some o) : k.it t it i h' := by
  cases k with
  | txt x => let ⟨o, ho, r⟩ := s; exact ⟨o, e o ho, r⟩
  | lst a => exact Heap.IsListIter.at s e
  | tup a => exact Heap.IsTupleIter.at s e
theorem Sc.obj {k : Sc} {t : Tok} {it : Addr} {i : Nat} {h : Heap} (s : k.it t it i h) : ∃ o, h.get? it = some o ∧ ∀ v, o.data ≠ .cell v := by
  cases k with
  | txt x => obtain ⟨o, e, c, d⟩ := s; exact ⟨o, e, fun v z => by rw [d] at z; cases z⟩
  | lst a => obtain ⟨o, e, c, d⟩ := s; exact ⟨o, e, fun v z => by rw [d] at z; cases z⟩
  | tup a => obtain ⟨o, e, c, d⟩ := s; exact ⟨o, e, fun v z => by rw [d] at z; cases z⟩
theorem sc_draws {X : Cx} {pins : List (Addr × Obj)} {σ : L2.St} {H : Hp} {s : Shared} {k : Sc} {xs : List V} {t : Tok} {it : Addr} {i : Nat} (I : Inv X pins σ H s) (hc : X.calm = true) (hx : k.xs X.K H xs) (st : k.it t it i s.heap) (hne : ∀ a ∈ k.fp, a ≠ it) :
    ∃ (n : Nat) (P : Nat → Value → Prop) (St : Nat → Heap → Prop), Draws X.prog X.w X.A.in1 it (it :: k.fp) n P St ∧ St i s.heap ∧ n = xs.length ∧ (∀ j v, P j v → ∃ x, xs[j]? = some x ∧ RelV x v) ∧ ∀ j h, St j h → k.it t it j h := by
  have hh : X.A.in1.handled = none := I.ok.hd hc
  cases k with
  | txt x =>
    have e : xs = signsV x := hx
    subst e
    have D := Draws.text (prog := X.prog) (w := X.w) (A := X.A.in1) hh it x t
    refine ⟨_, _, _, D, st, by simp [signsV], fun j v ⟨c, u, h1, h2⟩ => ⟨.str ⟨#[c]⟩, ?_, u, h2⟩, fun j h q => q⟩
    simp [signsV, h1]
  | lst a =>
    obtain ⟨its, rv, p, _⟩ := I.list (show SqL X.K H a xs from hx)
    have D := Draws.list (prog := X.prog) (w := X.w) (A := X.A.in1) hh it a (hne a (by simp [Sc.fp])) its.toArray
    refine ⟨_, _, _, D, ⟨st, p.isList⟩, by simp [rv.length], fun j v hv => ?_, fun j h q => q.1⟩
    have hv' : its[j]? = some v := by simpa using hv
    have hl : j < xs.length := by
      have := (List.getElem?_eq_some_iff.mp hv').1
      rw [rv.length]
      exact this
    have hxj : xs[j]? = some xs[j] := List.getElem?_eq_getElem hl
    obtain ⟨u, hu, ru⟩ := rv.get hxj
    rw [hv'] at hu
    cases hu
    exact ⟨_, hxj, ru⟩
  | tup a =>
    obtain ⟨its, rv, p, _⟩ := I.tuple (show SqT X.K H a xs from hx)
    have D := Draws.tuple (prog := X.prog) (w := X.w) (A := X.A.in1) hh it a (hne a (by simp [Sc.fp])) its.toArray
    refine ⟨_, _, _, D, ⟨st, p⟩, by simp [rv.length], fun j v hv => ?_, fun j h q => q.1⟩
    have hv' : its[j]? = some v := by simpa using hv
    have hl : j < xs.length := by
      have := (List.getElem?_eq_some_iff.mp hv').1
      rw [rv.length]
      exact this
    have hxj : xs[j]? = some xs[j] := List.getElem?_eq_getElem hl
    obtain ⟨u, hu, ru⟩ := rv.get hxj
    rw [hv'] at hu
    cases hu
    exact ⟨_, hxj, ru⟩
theorem Sc.inj {X : Cx} {pins : List (Addr × Obj)} {σ : L2.St} {H : Hp} {s : Shared} {k : Sc} {xs ys : List V} (I : Inv X pins σ H s) (h : k.xs X.K H xs) (h' : k.xs X.K H ys) : xs = ys := by
  cases k with
  | txt x => exact Eq.trans (show xs = signsV x from h) (show ys = signsV x from h').symm
  | lst a => exact I.list_inj h h'
  | tup a => exact I.tuple_inj h h'
theorem sc_begins {X : Cx} {pins : List (Addr × Obj)} {σ : L2.St} {H : Hp} {s : Shared} {k : Sc} {xs : List V} {u : Value} (I : Inv X pins σ H s) (hx : k.xs X.K H xs) (r : RelV k.v u) :
    ∃ (t : Tok) (o : Obj) (G : Heap → Prop), Begins u o G ∧ G s.heap ∧ (∀ b ∈ k.fp, b < s.heap.objs.size) ∧ ∀ it h, h.get? it = some o → k.it t it 0 h := by
  cases k with
  | txt x =>
    obtain ⟨t, rfl⟩ := r
    exact ⟨t, _, _, begins_text x t, trivial, (by intro b hb; simp [Sc.fp] at hb), fun it h e => ⟨_, e, rfl, rfl⟩⟩
  | lst a =>
    obtain rfl : u = .ref a := r
    obtain ⟨its, rv, p, _⟩ := I.list (show SqL X.K H a xs from hx)
    refine ⟨0, _, _, begins_list a its.toArray, p.isList, fun b hb => ?_, fun it h e => ⟨_, e, rfl, rfl⟩⟩
    have e : b = a := by simpa [Sc.fp] using hb
    rw [e]
    exact p.lt
  | tup a =>
    obtain rfl : u = .ref a := r
    obtain ⟨its, rv, p, _⟩ := I.tuple (show SqT X.K H a xs from hx)
    refine ⟨0, _, _, begins_tuple a its.toArray, p, fun b hb => ?_, fun it h e => ⟨_, e, rfl, rfl⟩⟩
    have e : b = a := by simpa [Sc.fp] using hb
    rw [e]
    obtain ⟨o, ho, _⟩ := p
    exact Heap.lt_size ho

/-! ### zip -/
def ItzS (K : PySem.W.Frag) (a b : Sc) : It :=
  ⟨fun i H => ∃ (xs ys : List V), a.xs K H xs ∧ b.xs K H ys ∧ i < xs.length ∧ i < ys.length,
    fun i H v H' => ∃ T x y, v = .ref T ∧ H T = none ∧ H' = upd H T (.tup [x, y]) ∧ (∀ xs, a.xs K H xs → xs[i]? = some x) ∧ ∀ ys, b.xs K H ys → ys[i]? = some y,
    fun i H => ∃ xs ys : List V, a.xs K H xs ∧ b.xs K H ys ∧ i = min xs.length ys.length⟩
theorem turn_zipS {P : Program} {w : World} {K : PySem.W.Frag} {elts : List Expr} {kk : Nat} {tpos : Pos} {a b : Sc} {N : Nat} (t1 t2 : Tok) (ha : ∀ x ∈ a.fp, x < N) (hb : ∀ x ∈ b.fp, x < N) :
    Turn P w K (.Tuple elts kk tpos) (ItzS K a b) [N + 4, N + 2, N + 3, N, N + 1] (N + 4) (fun i h => IsZip h (N + 4) (N + 2) (N + 3) .none ∧ IsTupOf2 h (N + 2) (.ref N) (.ref (N + 1)) ∧ (∃ x y, IsTupOf2 h (N + 3) x y) ∧ a.it t1 N i h ∧ b.it t2 (N + 1) i h) where
  mem := by simp
  obj := fun i h st c hc => by
    obtain ⟨hz, hTI, ⟨x, y, hTO⟩, h1, h2⟩ := st
    have e' : c = N + 4 ∨ c = N + 2 ∨ c = N + 3 ∨ c = N ∨ c = N + 1 := by simpa using hc
    rcases e' with q | q | q | q | q
    · rw [q]; exact ⟨_, hz, fun v q => nomatch q⟩
    · rw [q]; exact ⟨_, hTI, fun v q => nomatch q⟩
    · rw [q]; exact ⟨_, hTO, fun v q => nomatch q⟩
    · rw [q]; exact Sc.obj h1
    · rw [q]; exact Sc.obj h2
  keep := fun i h h' st k => by
    obtain ⟨hz, hTI, ⟨x, y, hTO⟩, h1, h2⟩ := st
    exact ⟨k (N + 4) (by simp) _ hz, k (N + 2) (by simp) _ hTI, ⟨x, y, k (N + 3) (by simp) _ hTO⟩, Sc.at h1 (k N (by simp)), Sc.at h2 (k (N + 1) (by simp))⟩
  item := by
    intro X hP hw hK hc i pins s σ H E I hf st hg
    subst hP hw hK
    obtain ⟨hz, hTI, ⟨x0, y0, hTO⟩, h1, h2⟩ := st
    obtain ⟨xs, ys, hqx, hqy, hx, hy⟩ := hg
    obtain ⟨n1, P1, St1, D1, s1, e1, p1, b1⟩ := sc_draws I hc hqx h1 (fun x m => Nat.ne_of_lt (ha x m))
    obtain ⟨n2, P2, St2, D2, s2, e2, p2, b2⟩ := sc_draws I hc hqy h2 (fun x m => Nat.ne_of_lt (Nat.lt_succ_of_lt (hb x m)))
    have Z := zip_sep2 ha hb
    have hzl : N + 4 < s.heap.objs.size := Heap.lt_size hz
    refine wpAny_pyNext_zipD2_item Z D1 D2 hz hTI hTO s1 s2 (by omega) (by omega) fun x1 x2 h' tk hp1 hp2 z' TO' st1' st2' hT hsz hk => ?_
    refine ⟨_, rfl, wpAny_letOwnedTupleGo_zip (s := { s with heap := h', toks := tk }) z' fun h'' z'' sb => ?_⟩
    obtain ⟨v1, g1, r1⟩ := p1 i x1 hp1
    obtain ⟨v2, g2, r2⟩ := p2 i x2 hp2
    have hT2 : h''.get? s.heap.objs.size = some { cls := .type "tuple", data := .seq #[x1, x2] } := (sb.2 _ (Nat.ne_of_gt hzl)).trans hT
    have new : ObjOk X.prog X.w (upd H s.heap.objs.size (.tup [v1, v2])) h'' s.heap.objs.size (.tup [v1, v2]) :=
      ⟨by show 2 ≤ sizeLine; decide, [x1, x2], .cons r1 (.cons r2 .nil), ⟨_, hT2, rfl, _, rfl⟩⟩
    have I1 : Inv X pins σ (upd H s.heap.objs.size (.tup [v1, v2])) { s with heap := h'', toks := tk } :=
      I.turnedNew (t' := tk) (ch := [N + 4, N + 2, N + 3, N, N + 1]) (fun c o hb q => (sb.2 c (fun q' => hb (by simp [q']))).trans (hk c o (fun q' => hb (by simp [q'])) (fun q' => hb (by simp [q'])) (fun q' => hb (by simp [q'])) (fun q' => hb (by simp [q'])) q)) hf (Nat.le_refl _) new
    refine ⟨.ref s.heap.objs.size, _, I1, rfl, ⟨_, v1, v2, rfl, I.hok.fresh (Nat.le_refl _), rfl, fun l hl => by rw [Sc.inj I hl hqx]; exact g1, fun l hl => by rw [Sc.inj I hl hqy]; exact g2⟩, ⟨z'', ?_, ⟨x1, x2, ?_⟩, ?_, ?_⟩, fun c hcm => ?_⟩
    · exact (sb.2 _ Z.TIz).trans (hk _ _ Z.TIz Z.TITO Z.TIi1 Z.TIi2 hTI)
    · exact (sb.2 _ Z.TOz).trans TO'
    · exact Sc.at (b1 _ _ st1') fun o q => (sb.2 _ (Ne.symm Z.zi1)).trans q
    · exact Sc.at (b2 _ _ st2') fun o q => (sb.2 _ (Ne.symm Z.zi2)).trans q
    · have hlt : c < s.heap.objs.size := by
        have e' : c = N + 4 ∨ c = N + 2 ∨ c = N + 3 ∨ c = N ∨ c = N + 1 := by simpa using hcm
        have hzl' : N + 4 < s.heap.objs.size := hzl
        rcases e' with q | q | q | q | q <;> (have q' : c = _ := q; rw [q']; first | exact hzl | exact Nat.lt_trans (by simp [Nat.lt_succ_self] : _ < N + 4) hzl | (refine Nat.lt_of_le_of_lt ?_ hzl; simp))
      rw [upd_ne (Nat.ne_of_lt hlt)]
      exact (hf c hcm).1
  done := by
    intro X hP hw hK hc i pins s σ H E I hf st hg
    subst hP hw hK
    obtain ⟨hz, hTI, ⟨x0, y0, hTO⟩, h1, h2⟩ := st
    obtain ⟨xs, ys, hqx, hqy, hend⟩ := hg
    obtain ⟨n1, P1, St1, D1, s1, e1, p1, b1⟩ := sc_draws I hc hqx h1 (fun x m => Nat.ne_of_lt (ha x m))
    obtain ⟨n2, P2, St2, D2, s2, e2, p2, b2⟩ := sc_draws I hc hqy h2 (fun x m => Nat.ne_of_lt (Nat.lt_succ_of_lt (hb x m)))
    refine wpAny_pyNext_zipD2_end (zip_sep2 ha hb) D1 D2 hz hTI hTO s1 s2 (by omega) (by omega) (by omega) fun h' tk hk => ⟨rfl, I.turnedL (t' := tk) (ch := [N + 4, N + 2, N + 3, N, N + 1]) (fun c o hb q =>
      hk c o (fun q' => hb (by simp [q'])) (fun q' => hb (by simp [q'])) (fun q' => hb (by simp [q'])) (fun q' => hb (by simp [q'])) q) hf⟩
  self := fun A i s Q E st h => wpAny_pyIter_zip st.1 h
def iZipS (K : PySem.W.Frag) (ta : TA) : TI := fun σ H R => ta σ H fun vs H1 => ∃ a b xs ys, vs = [Sc.v a, Sc.v b] ∧ a.xs K H1 xs ∧ b.xs K H1 ys ∧ R (ItzS K a b) H1
theorem pi_zipS {X : Cx} {e e2 : Expr} {ta : TA} {p pos tpos : Pos} {elts : List Expr} {kk : Nat} (hg : Gl X "zip") (hm : X.mg "zip" = none) (ha : PA X [e, e2] ta)
    (hs : starEach [e, e2] X.env = (false, eval e X.env) :: starEach [e2] X.env := by rfl) (hpl : (backTo pos (starEach [e2] X.env)).any (·.1) = false := by rfl) :
    PI X (.Tuple elts kk tpos) (.Call (.Name "zip" p) [e, e2] [] pos) (iZipS X.K ta) := by
  refine ⟨fun pins s σ H R I h => ?_⟩
  refine Call_ (ld_blt I hg hm PyProof.Rows.boot_zip (PyProof.Rows.callWith_type1 (thn (ha.run pos pins s σ H _ I h) fun us s1 ⟨vs, H1, I1, r1, q1⟩ => ?_) hs hpl))
  obtain ⟨a, b, xs, ys, ex, hqx, hqy, q⟩ := q1
  subst ex
  cases r1 with
  | cons r rr =>
    cases rr with
    | cons r' rr =>
      cases rr
      obtain ⟨t1, o1, G1, B1, g1, f1, i1⟩ := sc_begins I1 hqx r
      obtain ⟨t2, o2, G2, B2, g2, f2, i2⟩ := sc_begins I1 hqy r'
      refine zip_begins2 B1 B2 g1 g2 fun h' hz hTI hTO h1 h2 hsz hk => wpAny_pyIter_zip hz ?_
      have I2 : Inv X pins σ H1 { s1 with heap := h' } := I1.kept (t' := s1.toks) hk
      refine ⟨s1.heap.objs.size + 4, [s1.heap.objs.size + 4, s1.heap.objs.size + 2, s1.heap.objs.size + 3, s1.heap.objs.size, s1.heap.objs.size + 1], _, _, H1, rfl, I2, turn_zipS t1 t2 f1 f2, ⟨hz, hTI, ⟨_, _, hTO⟩, i1 _ _ h1, i2 _ _ h2⟩, fun c hcm => ?_, q⟩
      have e' : c = s1.heap.objs.size + 4 ∨ c = s1.heap.objs.size + 2 ∨ c = s1.heap.objs.size + 3 ∨ c = s1.heap.objs.size ∨ c = s1.heap.objs.size + 1 := by simpa using hcm
      have hle : s1.heap.objs.size ≤ c := by
        rcases e' with z | z | z | z | z
        · rw [z]; exact Nat.le_add_right _ _
        · rw [z]; exact Nat.le_add_right _ _
        · rw [z]; exact Nat.le_add_right _ _
        · rw [z]; exact Nat.le_refl _
        · rw [z]; exact Nat.le_add_right _ _
      exact I1.fpOk hle (I1.hok.fresh hle)

/-! ### enumerate -/
def IteS (K : PySem.W.Frag) (a : Sc) : It :=
  ⟨fun i H => ∃ (xs : List V), a.xs K H xs ∧ i < xs.length, fun i H v H' => ∃ T x, v = .ref T ∧ H T = none ∧ H' = upd H T (.tup [.int (i : Nat), x]) ∧ ∀ xs, a.xs K H xs → xs[i]? = some x, fun i H => ∃ xs : List V, a.xs K H xs ∧ i = xs.length⟩
theorem turn_enumS {P : Program} {w : World} {K : PySem.W.Frag} {elts : List Expr} {kk : Nat} {tpos : Pos} {a : Sc} {N : Nat} (t : Tok) (ha : ∀ x ∈ a.fp, x < N) :
    Turn P w K (.Tuple elts kk tpos) (IteS K a) [N + 1, N] (N + 1) (fun i h => (∃ old, IsEnum h (N + 1) N ((i : Nat) : Int) old) ∧ a.it t N i h) where
  mem := by simp
  obj := fun i h st b hb => by
    obtain ⟨⟨old, he⟩, h1⟩ := st
    have e' : b = N + 1 ∨ b = N := by simpa using hb
    rcases e' with z | z
    · rw [z]; exact ⟨_, he, fun v q => nomatch q⟩
    · rw [z]; exact Sc.obj h1
  keep := fun i h h' st k => let ⟨⟨old, he⟩, hi⟩ := st; ⟨⟨old, k (N + 1) (by simp) _ he⟩, Sc.at hi (k N (by simp))⟩
  item := by
    intro X hP hw hK hc i pins s σ H E I hf st hg
    subst hP hw hK
    obtain ⟨⟨old, he⟩, hit⟩ := st
    obtain ⟨xs, hq, hx⟩ := hg
    obtain ⟨n1, P1, St1, D1, s1, e1, p1, b1⟩ := sc_draws I hc hq hit (fun x m => Nat.ne_of_lt (ha x m))
    have hel : N + 1 < s.heap.objs.size := Heap.lt_size he
    have hef : N + 1 ∉ N :: a.fp := fun m => by
      rcases List.mem_cons.mp m with z | z
      · exact Nat.succ_ne_self _ z
      · exact absurd (ha _ z) (by have : ¬ (N + 1 < N) := by omega
                                  exact this)
    refine wpAny_pyNext_enum_itemC D1 he s1 (by omega) (Nat.succ_ne_self _) hef fun x h' tk hp ho st' hT hsz hk => ?_
    refine ⟨_, rfl, wpAny_letOwnedTupleGo_enum (s := { s with heap := h', toks := tk + 1 }) ho fun h'' he' sb => ?_⟩
    obtain ⟨v1, g1, r1⟩ := p1 i x hp
    have hT2 : h''.get? s.heap.objs.size = some { cls := .type "tuple", data := .seq #[.int i tk, x] } := (sb.2 _ (Nat.ne_of_gt hel)).trans hT
    have new : ObjOk X.prog X.w (upd H s.heap.objs.size (.tup [.int (i : Nat), v1])) h'' s.heap.objs.size (.tup [.int (i : Nat), v1]) :=
      ⟨by show 2 ≤ sizeLine; decide, [.int i tk, x], .cons ⟨_, rfl⟩ (.cons r1 .nil), ⟨_, hT2, rfl, _, rfl⟩⟩
    have I1 : Inv X pins σ (upd H s.heap.objs.size (.tup [.int (i : Nat), v1])) { s with heap := h'', toks := tk + 1 } :=
      I.turnedNew (ch := [N + 1, N]) (fun b ob hb q => (sb.2 b (fun z => hb (by simp [z]))).trans (hk b ob (fun z => hb (by simp [z])) (fun z => hb (by simp [z])) q)) hf (Nat.le_refl _) new
    refine ⟨.ref s.heap.objs.size, _, I1, rfl, ⟨_, v1, rfl, I.hok.fresh (Nat.le_refl _), rfl, fun ys hy => by rw [Sc.inj I hy hq]; exact g1⟩, ⟨⟨x, ?_⟩, Sc.at (b1 _ _ st') fun o q => (sb.2 N (Ne.symm (Nat.succ_ne_self N))).trans q⟩, fun b hb => ?_⟩
    · have e1 : ((i + 1 : Nat) : Int) = (i : Int) + 1 := by omega
      rw [e1]; exact he'
    · have hb' : b < s.heap.objs.size := by
        have e' : b = N + 1 ∨ b = N := by simpa using hb
        rcases e' with z | z
        · rw [z]; exact hel
        · rw [z]; exact Nat.lt_trans (Nat.lt_succ_self _) hel
      rw [upd_ne (Nat.ne_of_lt hb')]
      exact (hf b hb).1
  done := by
    intro X hP hw hK hc i pins s σ H E I hf st hg
    subst hP hw hK
    obtain ⟨⟨old, he⟩, hit⟩ := st
    obtain ⟨xs, hq, hx⟩ := hg
    obtain ⟨n1, P1, St1, D1, s1, e1, p1, b1⟩ := sc_draws I hc hq hit (fun x m => Nat.ne_of_lt (ha x m))
    obtain ⟨f0, f1, f2, f3, f4, f5⟩ := hf N (by simp)
    have e : i = n1 := by omega
    subst e
    exact wpAny_pyNext_enum_endD D1 he s1 fun h' eb => ⟨rfl, I.turned (t' := s.toks) (fun b o hb q => eb b o hb q) f0 f1 f3 f4 f5⟩
  self := fun A i s Q E st h => let ⟨⟨_, he⟩, _⟩ := st; wpAny_pyIter_enum he h
def iEnumS (K : PySem.W.Frag) (ta : TA) : TI := fun σ H R => ta σ H fun vs H1 => ∃ a xs, vs = [Sc.v a] ∧ (∀ t, a ≠ .tup t) ∧ a.xs K H1 xs ∧ R (IteS K a) H1
theorem pi_enumS {X : Cx} {e : Expr} {ta : TA} {p pos tpos : Pos} {elts : List Expr} {kk : Nat} (hg : Gl X "enumerate") (hm : X.mg "enumerate" = none) (ha : PA X [e] ta) (hs : starEach [e] X.env = [(false, eval e X.env)] := by rfl) :
    PI X (.Tuple elts kk tpos) (.Call (.Name "enumerate" p) [e] [] pos) (iEnumS X.K ta) := by
  refine ⟨fun pins s σ H R I h => ?_⟩
  refine Call_ (ld_blt I hg hm boot_enumerate (PyProof.Rows.callWith_type1 (thn (ha.run pos pins s σ H _ I h) fun us s1 ⟨vs, H1, I1, r1, q1⟩ => ?_) hs rfl))
  obtain ⟨a, xs, ex, nt, hq, q⟩ := q1
  subst ex
  have fin : ∀ (h' : Heap) (t : Tok), (∀ x ∈ a.fp, x < s1.heap.objs.size) → IsEnum h' (s1.heap.objs.size + 1) s1.heap.objs.size 0 .none → a.it t s1.heap.objs.size 0 h' → (∀ b o, s1.heap.get? b = some o → h'.get? b = some o) →
      PIE X pins σ (.Tuple elts kk tpos) R (.ref (s1.heap.objs.size + 1)) { s1 with heap := h' } := fun h' t hfp he hit hk => by
    have I2 : Inv X pins σ H1 { s1 with heap := h' } := I1.kept (t' := s1.toks) hk
    refine ⟨s1.heap.objs.size + 1, [s1.heap.objs.size + 1, s1.heap.objs.size], _, _, H1, rfl, I2, turn_enumS t hfp, ⟨⟨.none, he⟩, hit⟩, fun b hb => ?_, q⟩
    have e' : b = s1.heap.objs.size + 1 ∨ b = s1.heap.objs.size := by simpa using hb
    have hle : s1.heap.objs.size ≤ b := by
      rcases e' with z | z
      · rw [z]; exact Nat.le_add_right _ _
      · rw [z]; exact Nat.le_refl _
    exact I1.fpOk hle (I1.hok.fresh hle)
  cases r1 with
  | cons r rr =>
    cases rr
    cases a with
    | txt x =>
      obtain ⟨t, rfl⟩ := r
      exact call_enumerate_str fun h' he hit hsz hk => wpAny_pyIter_enum he (fin h' t (by intro b hb; simp [Sc.fp] at hb) he hit hk)
    | lst a =>
      obtain ⟨its, rv, p', hz⟩ := I1.list (show SqL X.K H1 a xs from hq)
      cases r
      refine call_enumerate_list p'.isList fun h' he hit hsz hk => wpAny_pyIter_enum he (fin h' 0 (fun b hb => ?_) he hit hk)
      have e : b = a := by simpa [Sc.fp] using hb
      rw [e]
      exact p'.lt
    | tup a => exact absurd rfl (nt a)

/-! ### over data -/
/-- the items of data -/
def itemsD : PyData → Option (List PyData)
  | .str x => some (x.cps.toList.map sg)
  | .list ds => some ds
  | .tuple ds => some ds
  | _ => none
theorem va_signs {K : PySem.W.Frag} {H : Hp} : ∀ cs : List Nat, VaAll K H (cs.map fun c => V.str ⟨#[c]⟩) (cs.map sg)
  | [] => .nil
  | c :: cs => .cons (.str _) (va_signs cs)
theorem va_sc {K : PySem.W.Frag} {pool : Hp} {v : V} {d : PyData} {ds : List PyData} (h : Va K pool v d) (e : itemsD d = some ds) : ∃ (a : Sc) (xs : List V), v = a.v ∧ (∀ H, Same pool H → a.xs K H xs) ∧ VaAll K pool xs ds ∧ ((∀ t, d ≠ .tuple t) → ∀ t, a ≠ .tup t) := by
  cases h with
  | str x => cases e; exact ⟨.txt x, _, rfl, fun _ _ => rfl, va_signs _, fun _ _ => (nomatch ·)⟩
  | lst ha hs => cases e; exact ⟨.lst _, _, rfl, fun H s => SqL.of (s _ _ ha), hs, fun _ _ => (nomatch ·)⟩
  | tup ha hs => cases e; exact ⟨.tup _, _, rfl, fun H s => SqT.up s ha, hs, fun n _ => absurd rfl (n _)⟩
  | non => cases e
  | bl b => cases e
  | int i => cases e
  | dct ha => cases e
  | ptr a => cases e
  | dcf _ _ _ => cases e
  | dtf _ _ _ => cases e
/-- a pair -/
abbrev pr2 (x y : PyData) : PyData := .tuple [x, y]
theorem sc_get {K : PySem.W.Frag} {L : List Addr} {pool H : Hp} {a : Sc} {xs : List V} {ds : List PyData} {i : Nat} {d : PyData} {v : V} (hx : ∀ H, Same pool H → a.xs K H xs) (hv : VaAll K pool xs ds) (s : Same pool (off L H)) (hd : ds[i]? = some d) (y : ∀ ys, a.xs K H ys → ys[i]? = some v) : Va K (off L H) v d := by
  obtain ⟨v2, e, r⟩ := hv.at hd
  have := y xs (hx H (fun b o q => (off_some (s b o q)).2))
  rw [e] at this
  cases this
  exact r.up s
theorem walk_enumS {K : PySem.W.Frag} {pool : Hp} {a : Sc} {xs : List V} {ds : List PyData} (hx : ∀ H, Same pool H → a.xs K H xs) (hv : VaAll K pool xs ds) : WalkD K pool (IteS K a) (ds.mapIdx fun i d => pr2 (nn i) d) where
  go := fun i H hi s => ⟨xs, hx H s, by rw [hv.length]; simpa using hi⟩
  yld := fun i d H v H' L hd hL s y => by
    obtain ⟨T, x, rfl, hT, rfl, y⟩ := y
    have sm := same_new (o := .tup [.int (i : Nat), x]) hT
    refine ⟨sm, ?_⟩
    rw [List.getElem?_mapIdx] at hd
    obtain ⟨d1, h1, rfl⟩ := Option.map_eq_some_iff.mp hd
    have r := sc_get hx hv s h1 y
    exact .tup (.inl (.inl (off_upd (new_out hL hT)))) (.cons (.int _) (.cons (r.up (XT.same sm)) .nil))
  stop := fun H s => ⟨xs, hx H s, by rw [hv.length]; simp⟩
theorem walk_zipS {K : PySem.W.Frag} {pool : Hp} {a b : Sc} {xs ys : List V} {ds es : List PyData} (hx : ∀ H, Same pool H → a.xs K H xs) (hv : VaAll K pool xs ds) (hy : ∀ H, Same pool H → b.xs K H ys) (hw : VaAll K pool ys es) : WalkD K pool (ItzS K a b) (List.zipWith pr2 ds es) where
  go := fun i H hi s => ⟨xs, ys, hx H s, hy H s, by rw [List.length_zipWith] at hi; rw [hv.length]; omega, by rw [List.length_zipWith] at hi; rw [hw.length]; omega⟩
  yld := fun i d H v H' L hd hL s y => by
    obtain ⟨T, x, z, rfl, hT, rfl, y1, y2⟩ := y
    have sm := same_new (o := .tup [x, z]) hT
    refine ⟨sm, ?_⟩
    rw [List.getElem?_zipWith] at hd
    cases e1 : ds[i]? with
    | none => rw [e1] at hd; simp at hd
    | some d1 =>
      cases e2 : es[i]? with
      | none => rw [e1, e2] at hd; simp at hd
      | some d2 =>
        rw [e1, e2] at hd
        cases hd
        have r1 := sc_get hx hv s e1 y1
        have r2 := sc_get hy hw s e2 y2
        exact .tup (.inl (.inl (off_upd (new_out hL hT)))) (.cons (r1.up (XT.same sm)) (.cons (r2.up (XT.same sm)) .nil))
  stop := fun H s => ⟨xs, ys, hx H s, hy H s, by rw [hv.length, hw.length, List.length_zipWith]⟩
section
variable {X : Cx} {W : Wd} {Γ : List DV} {μ : Mu} {α β : Type} {a b : Expr} {pos p tpos : Pos} {elts : List Expr} {kk : Nat} {d d2 : PyData} {enc : α → PyData} {enc2 : β → PyData} {xs : List α} {ys : List β}
/-- enumerate(text), enumerate(list): pairs of place and item -/
theorem it_enum (h : Ed X W Γ μ a d) (hm : X.mg "enumerate" = none) (e : itemsD d = some (xs.map enc)) (hd : ∀ t, d ≠ .tuple t := by intro _; nofun) (hg : Gl X "enumerate" := by rfl) (hs : starEach [a] X.env = [(false, eval a X.env)] := by rfl) :
    IterD X W Γ μ (.Tuple elts kk tpos) (.Call (.Name "enumerate" p) [a] [] pos) (fun q : Nat × α => pr2 (nn q.1) (enc q.2)) (xs.mapIdx Prod.mk) := ⟨_, pi_enumS hg hm wA.pa hs, fun σ H R R' k => (ea_cons h ea_nil (by rw [hs]; rfl)) σ H R _ fun vs H1 R1 e1 r => by
  cases r with
  | cons r rr =>
    cases rr
    obtain ⟨sc, vs, rfl, h1, h2, h3⟩ := va_sc r e
    refine ⟨sc, vs, rfl, h3 hd, h1 H1 same_off, k _ _ H1 rfl R1 e1 ?_⟩
    have z := walk_enumS h1 h2
    have e : ((xs.map enc).mapIdx fun i d => pr2 (nn i) d) = (xs.mapIdx Prod.mk).map fun q : Nat × α => pr2 (nn q.1) (enc q.2) := by
      apply List.ext_getElem?
      intro i
      simp only [List.getElem?_mapIdx, List.getElem?_map, Option.map_map]
      rfl
    rw [e] at z
    exact z⟩
/-- zip of two -/
theorem it_zip (h1 : Ed X W Γ μ a d) (h2 : Ed X W Γ μ b d2) (hm : X.mg "zip" = none) (e1 : itemsD d = some (xs.map enc)) (e2 : itemsD d2 = some (ys.map enc2)) (hg : Gl X "zip" := by rfl) (hs : starEach [a, b] X.env = (false, eval a X.env) :: starEach [b] X.env := by rfl) (hs2 : starEach [b] X.env = [(false, eval b X.env)] := by rfl) (hpl : (backTo pos (starEach [b] X.env)).any (·.1) = false := by rfl) :
    IterD X W Γ μ (.Tuple elts kk tpos) (.Call (.Name "zip" p) [a, b] [] pos) (fun q : α × β => pr2 (enc q.1) (enc2 q.2)) (xs.zip ys) := ⟨_, pi_zipS hg hm wA.pa hs hpl, fun σ H R R' k => (ea_cons h1 (ea_cons h2 ea_nil hs2) hs) σ H R _ fun vs H1 R1 x1 r => by
  cases r with
  | cons r rr =>
    cases rr with
    | cons r2 rr =>
      cases rr
      obtain ⟨s1, v1, rfl, g1, g2, g3⟩ := va_sc r e1
      obtain ⟨s2, v2, rfl, f1, f2, f3⟩ := va_sc r2 e2
      refine ⟨s1, s2, v1, v2, rfl, g1 H1 same_off, f1 H1 same_off, k _ _ H1 rfl R1 x1 ?_⟩
      have z := walk_zipS g1 g2 f1 f2
      have e : List.zipWith pr2 (xs.map enc) (ys.map enc2) = (xs.zip ys).map fun q : α × β => pr2 (enc q.1) (enc2 q.2) := by
        rw [List.zipWith_map, List.zip, List.map_zipWith]
      rw [e] at z
      exact z⟩
end
end HW
set_option maxHeartbeats 4000000
namespace HW
open PySem PySem.Spec PyProof.Rows L2
open SX (S)
/-! ### the distinct items, as they are first met -/
section
variable {α : Type} [DecidableEq α]
end
/-! ### set(list) of keys of one kind -/
section
variable {prog : Program} {w : World} {K : Type} [DecidableEq K] {knd : KeyKind prog w K} {A : Around} {R : Result → Shared → Prop} {I : Addr} {fp wr : List Addr} {G : Array GenState → Array GenState → Prop} {n : Nat} {P : Nat → Value → Prop} {St : Nat → Shared → Prop}
end
section
variable {prog : Program} {w : World} {K : Type} [DecidableEq K] {knd : KeyKind prog w K} {A : Around} {E : Value → Shared → Prop} {s : Shared}
end
/-! ### len(set(texts)) -/
section
variable {X : Cx} {W : Wd} {Γ : List DV} {μ : Mu} {a : Expr} {p p2 q pos : Pos} {ds : List PyData} {ws : List (List Nat)}
theorem S_inj {a b : List Nat} (h : S a = S b) : a = b := by
  have e : decide (V.str (S a) = V.str (S b)) = decide (a = b) := S_eq
  rw [h] at e
  simpa using e
end
end HW
set_option maxHeartbeats 4000000
namespace HW
open PySem PySem.Spec PyProof.Rows L2
open SX (S)
section
variable {X : Cx} {W W0 : Wd} {Γ : List DV} {μ : Mu} {a : Expr} {i : Str} {pos : Pos}
theorem ed_S {p : Pos} {j} (l : List Nat) (e : i = S l := by decide +kernel) : Ed X W Γ μ (.Constant (.str i) j p) (.str (S l)) := e ▸ ed_str
theorem ed_gS {n z : Str} (l : List Nat) (hm : ∃ t, X.mg n = some (.str z t)) (e : z = S l := by decide +kernel) (hg : Gl X n := by rfl) (h1 : (n == ("__debug__" : Str)) = false := by decide) : Ed X W Γ μ (.Name n pos) (.str (S l)) := e ▸ ed_gstr hm hg h1
theorem run_end {P : PyData → Prop} {rt : VK} {bk ct : L2.St → Hp → Prop} (hp : P .none) (hW : Wle W0 W := by first | exact Wle.refl | assumption) : Run X W Γ μ [] ⟨fun _ H' => RetP X.K W0 P .non H', rt, bk, ct⟩ := run_nil fun σ H R => ⟨R.fr.down hW, .none, hp, .non⟩
theorem ed_neg {z : Int} (h : Ed X W Γ μ a (.int z)) : Ed X W Γ μ (.UnaryOp .USub a pos) (.int (-z)) := fun σ H R Q q => (pe_un un_neg wE.pe).w (h σ H R _ fun v H2 R2 e2 r => by
  cases r
  exact ⟨z, rfl, q _ H2 R2 e2 (.int _)⟩)
end
section
variable {X : Cx} {l : List Nat} {ds es : List PyData}
theorem foldl_rep (l : List Nat) : ∀ (n : Nat) (acc : Array Nat), (List.replicate n (S l).cps).foldl (· ++ ·) acc = acc ++ ((List.replicate n l).flatten).toArray
  | 0, acc => by simp
  | n + 1, acc => by
    rw [List.replicate_succ, List.foldl_cons, foldl_rep l n, List.replicate_succ, List.flatten_cons, Array.append_assoc]
    congr 1
    show l.toArray ++ _ = _
    simp
theorem o_mulS {n : Nat} (h : l.length * n ≤ 16777216) (h1 : 1 ≤ n) (h2 : n ≤ 1000000000) : OpD X (binaryOp .Mult) (.str (S l)) (nn n) (.str (S (List.replicate n l).flatten)) := by
  intro pins s σ H x y v u Q I rx ry q
  obtain ⟨L, _, ha, hb, k⟩ := q
  cases ha; cases hb
  obtain ⟨t, rfl⟩ := rx
  obtain ⟨t', rfl⟩ := ry
  have fin : ∀ s', Inv X pins σ H s' → ∀ t2, EP X pins σ Q (.str (S (List.replicate n l).flatten) t2) s' := fun s' I' t2 => ⟨.str _, H, I', ⟨t2, rfl⟩, k _ _ (Same.refl _) (.str _)⟩
  have hn : ¬ ((n : Int) < 1) := by omega
  have hb' : (decide ((n : Int) < -(2 ^ 63 : Int)) || decide ((n : Int) ≥ 2 ^ 63)) = false := by
    have e1 : ¬ ((n : Int) < -(2 ^ 63 : Int)) := by omega
    have e2 : ¬ ((n : Int) ≥ 2 ^ 63) := by omega
    rw [decide_eq_false e1, decide_eq_false e2]
    rfl
  have hlen : (S l).length = l.length := SX.S_len l
  refine P.mul_str hb' (fun _ hz => ?_) (fun _ _ => ?_) ?_
  · rw [hlen]
    have h3 : (l.length : Int) ≤ 16777216 := by
      have : l.length * 1 ≤ l.length * n := Nat.mul_le_mul_left _ h1
      omega
    have h4 : (16777216 : Int) ≤ (2 ^ 63 - 1) / (n : Int) := by
      rw [Int.le_ediv_iff_mul_le (by omega)]
      omega
    omega
  · rw [hlen]
    unfold Builtin.Str.tooLong
    have e : (n : Int).toNat = n := by omega
    rw [e]
    simpa [sizeLine] using h
  · rw [if_neg hn]
    by_cases hz : ((n : Int) == 1 || (S l).length == 0) = true
    · rw [if_pos hz]
      have e : (List.replicate n l).flatten = l := by
        rw [hlen] at hz
        rcases Bool.or_eq_true _ _ ▸ hz with z | z
        · have : n = 1 := by
            have := eq_of_beq z
            omega
          subst this
          simp
        · have : l = [] := List.length_eq_zero_iff.mp (eq_of_beq z)
          subst this
          simp
      have z := fin s I t
      rw [e] at z
      exact z
    · rw [if_neg hz]
      have e : (n : Int).toNat = n := by omega
      rw [e, foldl_rep l n #[]]
      have e2 : (⟨#[] ++ ((List.replicate n l).flatten).toArray⟩ : Str) = S (List.replicate n l).flatten := by simp [S]
      rw [e2]
      refine ⟨?_, fin _ (I.tok _) _⟩
      have hsz : (S (List.replicate n l).flatten).length = l.length * n := by
        rw [SX.S_len]
        simp [Nat.mul_comm]
      rw [hsz]
      simpa [sizeLine] using h
/-! ### tuples -/
theorem o_catT (h : ds.length + es.length ≤ 16777216) : OpD X (binaryOp .Add) (.tuple ds) (.tuple es) (.tuple (ds ++ es)) := OpR.to op_catA fun a b H Q ⟨L, hL, ha, hb, k⟩ => by
  cases ha with
  | tup ha hs =>
    cases hb with
    | tup hb ht =>
      refine ⟨_, _, _, _, rfl, rfl, SqT.up same_off ha, SqT.up same_off hb, by rw [hs.length, ht.length]; exact h, fun e => ?_, fun _ e => ?_, fun _ _ p hp => ?_⟩
      · subst e
        cases hs
        exact k _ _ (Same.refl _) (.tup hb ht)
      · subst e
        cases ht
        rw [List.append_nil] at k
        exact k _ _ (Same.refl _) (.tup ha hs)
      · exact k _ _ (same_new hp) (.tup (.inl (.inl (off_upd (new_out hL hp)))) ((hs.app ht).up (XT.same (same_new hp))))
theorem s_tup {lo hi : Option Int} : SlD X (.tuple ds) lo hi (.tuple ((ds.drop (HT.sIx ds.length 0 lo)).take (HT.sIx ds.length ds.length hi - HT.sIx ds.length 0 lo))) := SlR.to sl_tupA fun v l u H Q ⟨e1, e2, L, hL, hv, k⟩ => by
  subst e1 e2
  cases hv with
  | tup ha hs =>
    refine ⟨_, _, rfl, SqT.up same_off ha, fun hw => ?_, fun _ p hp => ?_⟩
    · rw [hs.length] at hw
      rw [hw.1, hw.2] at k
      simp only [List.drop_zero, Nat.sub_zero, List.take_length] at k
      exact k _ _ (Same.refl _) (.tup ha hs)
    · refine k _ _ (same_new hp) (.tup (.inl (.inl (off_upd (new_out hL hp)))) ?_)
      unfold cutV
      rw [hs.length]
      exact ((hs.drop _).take _).up (XT.same (same_new hp))
end
end HW
set_option maxHeartbeats 4000000
namespace HW
open PySem PySem.Spec PyProof.Rows L2
open SX (S)
section
variable {X : Cx} {W : Wd} {Γ : List DV} {μ : Mu} {α : Type} {iter elt t : Expr} {scope : Scope} {pos p1 p2 tpos : Pos} {kk : Nat} {e1 e2 : α → PyData} {xs : List α} {n1 n2 : Str}
/-- [elt for n1, n2 in iter if t] -/
theorem lcP1 (k1 k2 : Nat) (hi : IterD X W Γ μ (.Tuple [.Name n1 p1, .Name n2 p2] kk tpos) iter (fun x => pr2 (e1 x) (e2 x)) xs) (hz : xs.length ≤ 16777216) (c : α → Bool) (f : α → PyData)
    (ht : ∀ x ∈ xs, ∀ W1, Wle W W1 → ∀ s H C cl fp, EdT (blkOf X scope s H C cl fp) W1 (((wipeD [k1, k2] Γ).set k1 (.d (e1 x))).set k2 (.d (e2 x))) μ t (c x))
    (he : ∀ x ∈ xs, c x = true → ∀ W1, Wle W W1 → ∀ s H C cl fp, Ed (blkOf X scope s H C cl fp) W1 (((wipeD [k1, k2] Γ).set k1 (.d (e1 x))).set k2 (.d (e2 x))) μ elt (f x)) (hN : X.N.Nodup) (hn1 : X.N[k1]? = some n1 := by rfl) (hn2 : X.N[k2]? = some n2 := by rfl)
    (hv1 : ∀ s H C cl fp, Loc (blkOf X scope s H C cl fp).env.scope n1 := by intro _ _ _ _ _; first | exact Or.inl rfl | exact Or.inr rfl) (hf1 : ∀ s H C cl fp, (blkOf X scope s H C cl fp).fn n1 = true ∨ (blkOf X scope s H C cl fp).env.scope.names.lookup n1 = some .local := by intro _ _ _ _ _; first | exact .inr rfl | exact .inl rfl)
    (hv2 : ∀ s H C cl fp, Loc (blkOf X scope s H C cl fp).env.scope n2 := by intro _ _ _ _ _; first | exact Or.inl rfl | exact Or.inr rfl) (hf2 : ∀ s H C cl fp, (blkOf X scope s H C cl fp).fn n2 = true ∨ (blkOf X scope s H C cl fp).env.scope.names.lookup n2 = some .local := by intro _ _ _ _ _; first | exact .inr rfl | exact .inl rfl)
    (hcm : ∀ s H C cl fp, (blkOf X scope s H C cl fp).calm = true := by intro _ _ _ _ _; rfl)
    (hb : BlkOk X.N X.env.scope scope [(n1, k1), (n2, k2)] := by exact blkOk_by (by kernel_rfl)) :
    LcEv X W Γ μ elt (.Tuple [.Name n1 p1, .Name n2 p2] kk tpos) iter [t] scope (fun ys => ys = (xs.filter c).map f) := by
  have h := lc1 (E := fun x y => y = f x) (c := c) (t := t) (elt := elt) (scope := scope) [(n1, k1), (n2, k2)] hi (tg_pair (tg_name (K := X.K) k1) (tg_name k2))
    (fun s H C cl fp => pg_tup (hcm s H C cl fp) (pgs_cons (pg_name hN hn1 (hv1 s H C cl fp) (hf1 s H C cl fp)) (pgs_cons (pg_name hN hn2 (hv2 s H C cl fp) (hf2 s H C cl fp)) pgs_nil))) (fun _ _ x _ => ⟨e1 x, e2 x, rfl, trivial, trivial⟩) (fun _ e => e ▸ hz)
    (fun _ e x hx W1 l s H C cl fp => ht x (e ▸ hx) W1 l s H C cl fp) (fun _ e x hx hc W1 l s H C cl fp => (he x (e ▸ hx) hc W1 l s H C cl fp).ev) hb (by simp)
  obtain ⟨wi, g, tt, te, own, h1, h2, h3, h4, h5, h6⟩ := h.ex
  exact ⟨wi, g, tt, te, own, h1, h2, h3, h4, h5, fun σ H R Q k => h6 σ H R Q fun ys v H2 ⟨l, e, hp⟩ => k ys v H2 (by rw [← e]; exact paired_map hp)⟩
end
end HW
set_option maxHeartbeats 4000000
namespace HW
open PySem PySem.Spec PyProof.Rows L2
open SX (S)
section
variable {X : Cx} {W : Wd} {Γ : List DV} {μ : Mu} {α : Type} {iter elt t : Expr} {scope : Scope} {pos p : Pos} {enc : α → PyData} {n : Str} {P : List α → Prop} {E : α → PyData → Prop}
/-- [elt for n in iter], the items and what comes of them told by P and E -/
theorem lcNV (k : Nat) (hi : IterV X W Γ μ (.Name n p) iter enc P) (hz : ∀ xs, P xs → xs.length ≤ 16777216)
    (he : ∀ xs, P xs → ∀ x ∈ xs, ∀ W1, Wle W W1 → ∀ s H C cl fp, Ev (blkOf X scope s H C cl fp) W1 ((wipeD [k] Γ).set k (.d (enc x))) μ elt (E x)) (hN : X.N.Nodup) (hn : X.N[k]? = some n := by rfl)
    (hv : ∀ s H C cl fp, Loc (blkOf X scope s H C cl fp).env.scope n := by intro _ _ _ _ _; first | exact Or.inl rfl | exact Or.inr rfl) (hf : ∀ s H C cl fp, (blkOf X scope s H C cl fp).fn n = true ∨ (blkOf X scope s H C cl fp).env.scope.names.lookup n = some .local := by intro _ _ _ _ _; first | exact .inr rfl | exact .inl rfl) (hb : BlkOk X.N X.env.scope scope [(n, k)] := by exact blkOk_by (by kernel_rfl)) :
    LcEv X W Γ μ elt (.Name n p) iter [] scope (fun ys => ∃ xs, P xs ∧ Paired E xs ys) :=
  lc0 (E := E) (elt := elt) (scope := scope) [(n, k)] hi (tg_name (K := X.K) k) (fun s H C cl fp => pg_name hN hn (hv s H C cl fp) (hf s H C cl fp)) (fun _ _ _ _ => trivial) hz (fun _ e x hx W1 l s H C cl fp => he _ e x hx W1 l s H C cl fp) hb (by simp)
end
section
variable {X : Cx} {W : Wd} {Γ : List DV} {μ : Mu} {e o : Expr} {pos apos : Pos}
theorem sg_flat (cs : List Nat) : (cs.map fun c => [c]).flatten = cs := by
  induction cs with
  | nil => rfl
  | cons a r ih => rw [List.map_cons, List.flatten_cons, ih]; rfl
theorem sg_sum (cs : List Nat) : ((cs.map fun c => [c]).map List.length).sum = cs.length := by
  induction cs with
  | nil => rfl
  | cons a r ih => rw [List.map_cons, List.map_cons, List.sum_cons, ih, List.length_cons, Nat.add_comm]; rfl
/-- "".join of signs -/
theorem ev_joinC {Ws : List Nat → Prop} (ho : Ed X W Γ μ o (.str (S []))) (he : Ev X W Γ μ e (fun z => ∃ cs : List Nat, z = .list (cs.map sg) ∧ Ws cs)) (hz : ∀ cs, Ws cs → cs.length ≤ 16777216)
    (hs : starEach [e] X.env = [(false, eval e X.env)] := by rfl) (hbase : attributeBase o "join" X.env (eval o X.env) = eval o X.env := by rfl) (hline : (apos.endLine == pos.line) = true := by rfl) :
    Ev X W Γ μ (.Call (.Attribute o "join" apos) [e] [] pos) (fun z => ∃ cs, z = .str (S cs) ∧ Ws cs) :=
  (ev_join (Ws := fun ws => ∃ cs : List Nat, ws = cs.map (fun c => [c]) ∧ Ws cs) ho (he.imp fun d ⟨cs, e1, e2⟩ => ⟨cs.map fun c => [c], by rw [e1, List.map_map]; rfl, cs, rfl, e2⟩) (fun ws ⟨cs, e1, e2⟩ => by rw [e1, sg_sum]; exact hz cs e2) hs hbase hline).imp fun d ⟨ws, e1, cs, e2, e3⟩ => ⟨cs, by rw [e1, e2, sg_flat], e3⟩
theorem ed_joinC (cs : List Nat) {ds : List PyData} (ho : Ed X W Γ μ o (.str (S []))) (he : Ed X W Γ μ e (.list ds)) (hd : ds = cs.map sg) (hz : cs.length ≤ 16777216)
    (hs : starEach [e] X.env = [(false, eval e X.env)] := by rfl) (hbase : attributeBase o "join" X.env (eval o X.env) = eval o X.env := by rfl) (hline : (apos.endLine == pos.line) = true := by rfl) :
    Ed X W Γ μ (.Call (.Attribute o "join" apos) [e] [] pos) (.str (S cs)) :=
  (ev_joinC (Ws := fun z => z = cs) ho (he.evP ⟨cs, by rw [hd], rfl⟩) (fun _ q => q ▸ hz) hs hbase hline |>.imp (B := fun z => z = .str (S cs)) fun d ⟨w, e1, e2⟩ => by rw [e1, e2]).ed
end
theorem paired_sg {α : Type} {Q : Nat → Prop} : ∀ {xs : List α} {ys : List PyData}, Paired (fun _ z => ∃ c, z = sg c ∧ Q c) xs ys → ∃ cs : List Nat, ys = cs.map sg ∧ ∀ c ∈ cs, Q c
  | _, _, .nil => ⟨[], rfl, fun _ h => nomatch h⟩
  | _, _, .cons ⟨c, e, q⟩ t => by
    obtain ⟨cs, e2, h⟩ := paired_sg t
    refine ⟨c :: cs, by rw [e, e2]; rfl, fun x hx => ?_⟩
    rcases List.mem_cons.mp hx with h1 | h1
    · rw [h1]; exact q
    · exact h x h1
/-! ### to forget -/
def wk : List DV → List DV → Prop
  | [], [] => True
  | a :: as, b :: bs => (b = .no ∨ b = a) ∧ wk as bs
  | _, _ => False
theorem wk.at : ∀ {Γ Γ' : List DV}, wk Γ Γ' → Γ.length = Γ'.length ∧ ∀ (i : Nat) (dv : DV), Γ'[i]? = some dv → dv = .no ∨ Γ[i]? = some dv
  | [], [], _ => ⟨rfl, fun i dv h => by simp at h⟩
  | a :: as, b :: bs, h => by
    obtain ⟨h1, h2⟩ := wk.at h.2
    refine ⟨by rw [List.length_cons, List.length_cons, h1], fun i dv e => ?_⟩
    cases i with
    | zero =>
      cases e
      exact h.1.imp id fun q => by rw [q]; rfl
    | succ i => exact h2 i dv (by simpa using e)
theorem Slots.weak {K : PySem.W.Frag} {H : Hp} {σ : L2.St} {Γ Γ' : List DV} (s : Slots K H σ Γ) (h : wk Γ Γ') : Slots K H σ Γ' := by
  obtain ⟨h1, h2⟩ := wk.at h
  refine ⟨s.len.trans h1, fun i dv e => ?_⟩
  rcases h2 i dv e with q | q
  · subst q
    have hl : i < σ.length := by
      rw [s.len, h1]
      exact (List.getElem?_eq_some_iff.mp e).1
    exact ⟨σ[i], List.getElem?_eq_getElem hl, trivial⟩
  · exact s.at_ i dv q
section
variable {X : Cx} {W : Wd} {Γ Γ' : List DV} {μ : Mu} {sts : List Stmt} {D : Ends}
theorem run_weak (h : Run X W Γ' μ sts D) (w : wk Γ Γ') : Run X W Γ μ sts D := fun σ H R => h σ H ⟨R.wd, R.fr, R.sl.weak w, R.mu, R.nd⟩
/-- the end of a turn, the state forgotten down to Γ' -/
theorem run_turnW {Φ : List DV → Mu → Prop} (Γ' : List DV) (w : wk Γ Γ') (h : Φ Γ' μ) (hD : D.nx = StP X.K W Φ := by rfl) : Run X W Γ μ [] D := run_weak (run_turn hD h) w
end
/-! ### a law's beginning: its row of draws -/
def tLst2 (K : PySem.W.Frag) (t : TA) : TE := fun σ H Q => t σ H fun xs H1 => xs.length ≤ sizeLine ∧ ∀ p, H1 p = none → (∀ a ys, SqL K H1 a ys → a ≠ p) → Q (.ref p) (upd H1 p (.lst xs))
/-- a list displayed: it is none of the lists that are there -/
theorem pe_lst2 {X : Cx} {es : List Expr} {t : TA} {pos : Pos} (h : PA X es t) : PE X (.List es pos) (tLst2 X.K t) := by
  refine ⟨fun pins s σ H Q I hq => wpAny_List_spliced (thn (h.run pos pins s σ H _ I hq) fun us s1 ⟨xs, H1, I1, r, z, q⟩ => ⟨by rw [← r.length]; exact z, ?_⟩)⟩
  refine ⟨.ref s1.heap.objs.size, _, I1.laid (t' := s1.toks) (o := .lst xs) (fun b u e => Heap.get?_push_of_some _ e) (Nat.le_refl _) ⟨z, us, 0, r, Heap.get?_push_size _ rfl⟩, rfl, q _ (I1.hok.fresh (Nat.le_refl _)) fun a ys hl => ?_⟩
  obtain ⟨its, _, pl, _⟩ := I1.list hl
  exact Nat.ne_of_lt pl.lt
/-- a law: the script at a, True comes -/
def spLaw (K : PySem.W.Frag) : Sp := fun vs H Q _ => ∃ (a : Addr) (ns : List Int), vs = [.ref a] ∧ ns.length ≤ 63 ∧ SqL K H a (ns.map V.int) ∧ ∀ H', Q (.bl true) H'
section
variable {P : Program} {w : World} {K : PySem.W.Frag} {mg : Str → Option Value} {base : Heap} {qual : Str} {params : Arguments} {rest : List Stmt} {scope : Scope} {f : Addr} {fd : FuncData} {N : List Str} {k : Nat} {p0 p1 p2 p3 p4 p5 p6 : Pos} {j1 j2 j3 : Nat} {sd : Int}
theorem fd_law {body : List Stmt} (F : FunD K "law" qual params body scope [] [] f fd) (S : FnScope N ["_law_script"] scope) (hN : N = ("_law_script" : Str) :: ("_law_row" : Str) :: N.drop 2)
    (hb : body = .Assign [.Name "_law_row" p0] (.List [.Name "_law_script" p1, .Constant (.int 0) j1 p2, .Constant (.int sd) j2 p3, .Constant (.int 0) j3 p4] p5) p6 :: rest)
    (hx : ∀ (cdv : Value) (A : Around) (outer : List Env) (s : Shared) (H : Hp) (E : XK), Loc (cxOf CX0 P w K mg base N qual scope f cdv A outer s H E).nox.env.scope "_law_row" := by intro _ _ _ _ _ _; first | exact Or.inl rfl | exact Or.inr rfl)
    (hv : ∀ (cdv : Value) (A : Around) (outer : List Env) (s : Shared) (H : Hp) (E : XK), Vis (cxOf CX0 P w K mg base N qual scope f cdv A outer s H E).nox.env.scope "_law_script" := by intro _ _ _ _ _ _; first | exact Or.inl rfl | exact Or.inr (Or.inl rfl) | exact Or.inr (Or.inr rfl))
    (hs : ∀ (cdv : Value) (A : Around) (outer : List Env) (s : Shared) (H : Hp) (E : XK), swapsWith (.List [.Name "_law_script" p1, .Constant (.int 0) j1 p2, .Constant (.int sd) j2 p3, .Constant (.int 0) j3 p4] p5) (some (.Name "_law_row" p0)) p6.line (cxOf CX0 P w K mg base N qual scope f cdv A outer s H E).nox.env = pure false := by intro _ _ _ _ _ _; rfl)
    (hf : ∀ (cdv : Value) (A : Around) (outer : List Env) (s : Shared) (H : Hp) (E : XK), (cxOf CX0 P w K mg base N qual scope f cdv A outer s H E).nox.fn "_law_row" = true ∨ (cxOf CX0 P w K mg base N qual scope f cdv A outer s H E).nox.env.scope.names.lookup ("_law_row" : Str) = some .local := by intro _ _ _ _ _ _; first | exact .inr rfl | exact .inl rfl)
    (h : ∀ (cdv : Value) (A : Around) (outer : List Env) (s : Shared) (H : Hp) (E : XK), Room k (A.deeper (envOfC qual scope s.heap.objs.size f cdv)) → ∀ (W : Wd) (r scr : Addr) (ns : List Int), W.row = some (r, scr, ns) →
      Run (cxOf CX0 P w K mg base N qual scope f cdv A outer s H E).nox W (.no :: .r r :: List.replicate (N.length - 2) .no) [] rest { nx := fun _ H' => RetP K W (fun z => z = .bool true) .non H', rt := RetP K W (fun z => z = .bool true) }) :
    FnOk P w K mg base CX0 (k + 1) f fd ["_law_script"] (spLaw K) := by
  refine F.ok S (fun vs H Q E ⟨a, ns, e, _⟩ => by rw [e]; rfl) fun cdv A outer s H vs Q E hr ⟨a, ns, e, hns, hl, q⟩ => ?_
  subst e
  refine ⟨_, PSs.nox wSs.ps, ?_⟩
  rw [hb]
  have hN0 : N[0]? = some ("_law_script" : Str) := by rw [hN]; rfl
  have hN1 : N[1]? = some ("_law_row" : Str) := by rw [hN]; rfl
  refine wSs_cons ((ps_set (i := 1) S.nd hN1 (hx cdv A outer s H E) (pe_lst2 (pa_cons (pe_var (i := 0) hN0 (hv cdv A outer s H E)) (pa_cons pe_int (pa_cons pe_int (pa_cons pe_int pa_nil))))) (hs cdv A outer s H E) (hf cdv A outer s H E)).w ?_)
  have hst : start N [.ref a] = some (.ref a) :: none :: List.replicate (N.length - 2) none := by
    rw [hN]
    show some (V.ref a) :: List.replicate _ none = _
    simp [List.replicate_succ]
  rw [hst]
  refine ⟨_, rfl, Nat.le_of_ble_eq_true rfl, fun r hr' hfr => ?_⟩
  have har : a ≠ r := hfr a _ hl
  let row : HO := .lst [.ref a, .int 0, .int sd, .int 0]
  let W : Wd := ⟨upd H r row, [r], some (r, a, ns)⟩
  have hW : upd H r row r = some row := upd_same
  have ok : WdOk K W := ⟨fun b hb => by
    rw [List.mem_singleton.mp hb]
    show upd H r row r ≠ none
    rw [hW]
    simp, fun r' s' n' e => by
    cases e
    exact ⟨List.mem_cons_self, SqL.up (fun o e => by show upd H r row a = some o; rw [upd_ne har]; exact e) hl, har, hns⟩⟩
  have sl : Slots K (off (hd W []) (upd H r row)) (some (.ref a) :: some (.ref r) :: List.replicate (N.length - 2) none) (.no :: .r r :: List.replicate (N.length - 2) .no) := by
    refine ⟨by simp, fun i dv e => ?_⟩
    match i, e with
    | 0, e => cases e; exact ⟨_, rfl, trivial⟩
    | 1, e => cases e; exact ⟨_, rfl, rfl⟩
    | i + 2, e =>
      have e' : (List.replicate (N.length - 2) DV.no)[i]? = some dv := e
      rw [List.getElem?_replicate] at e'
      split at e'
      · rename_i hi
        cases e'
        refine ⟨none, ?_, trivial⟩
        show (List.replicate (N.length - 2) (none : Option V))[i]? = some none
        rw [List.getElem?_replicate, if_pos hi]
      · cases e'
  have ret : ∀ v H', RetP K W (fun z => z = .bool true) v H' → Q v H' := fun v H' ⟨fr, d', e, hv'⟩ => by
    subst e
    cases hv'
    exact q H'
  have z := h cdv A outer s H E hr W r a ns rfl _ _ ⟨ok, ⟨fun _ _ _ e => e, fun r' s' n' e => by cases e; exact ⟨0, sd, 0, hW, Int.le_refl _⟩⟩, sl, fun _ z => (nomatch z), List.nodup_nil⟩
  intro pins st I
  refine wpAny_mono (z pins st I) (fun fl s' hq => ?_) fun _ _ z => z
  cases fl with
  | next =>
    obtain ⟨σ', H', I', q'⟩ := hq
    exact ⟨σ', H', I', ret _ _ q'⟩
  | brk => exact hq
  | cont => exact hq
  | ret u =>
    obtain ⟨v, σ', H', I', r', q'⟩ := hq
    exact ⟨v, σ', H', I', r', ret _ _ q'⟩
end
end HW
set_option maxHeartbeats 4000000
namespace HW
open PySem PySem.Spec PyProof.Rows L2
open SX (S)
/-- the end of a turn, the state forgotten down to Γ' -/
theorem run_go {X : Cx} {W : Wd} {Γ : List DV} {μ : Mu} {Φ : List DV → Mu → Prop} {rt : VK} {bk ct : L2.St → Hp → Prop} (Γ' : List DV) (w : wk Γ Γ') (h : Φ Γ' μ) : Run X W Γ μ [] ⟨StP X.K W Φ, rt, bk, ct⟩ := run_turnW Γ' w h rfl
/-! ### shapes, for == -/
structure Shp (n : Nat) (d : PyData) : Prop where
  lay : d.canLay0 = true
  dep : d.depth ≤ n
theorem Shp.int {i : Int} : Shp 0 (.int i) := ⟨rfl, Nat.le_refl _⟩
theorem Shp.bl {i : Bool} : Shp 0 (.bool i) := ⟨rfl, Nat.le_refl _⟩
theorem Shp.non : Shp 0 .none := ⟨rfl, Nat.le_refl _⟩
theorem Shp.all {n : Nat} : ∀ {xs : List PyData}, (∀ x ∈ xs, Shp n x) → PyData.canLayAll0 xs = true ∧ PyData.depthAll xs ≤ n
  | [], _ => ⟨rfl, Nat.zero_le _⟩
  | x :: xs, h => by
    obtain ⟨h1, h2⟩ := Shp.all fun y hy => h y (List.mem_cons_of_mem _ hy)
    have h3 := h x List.mem_cons_self
    exact ⟨by rw [PyData.canLayAll0, h3.lay, h1]; rfl, by rw [PyData.depthAll]; exact Nat.max_le.mpr ⟨h3.dep, h2⟩⟩
theorem Shp.list {n : Nat} {xs : List PyData} (h : ∀ x ∈ xs, Shp n x) : Shp (n + 1) (.list xs) := ⟨by rw [PyData.canLay0]; exact (Shp.all h).1, by rw [PyData.depth]; exact Nat.succ_le_succ (Shp.all h).2⟩
theorem Shp.tup {n : Nat} {xs : List PyData} (h : ∀ x ∈ xs, Shp n x) : Shp (n + 1) (.tuple xs) := ⟨by rw [PyData.canLay0]; exact (Shp.all h).1, by rw [PyData.depth]; exact Nat.succ_le_succ (Shp.all h).2⟩
theorem Shp.up {n m : Nat} {d : PyData} (h : Shp n d) (l : n ≤ m) : Shp m d := ⟨h.lay, Nat.le_trans h.dep l⟩
theorem Shp.str {l : List Nat} (h : ∀ c ∈ l, c < 128) : Shp 0 (.str (S l)) := ⟨by
  show PyData.strOk (S l) = true
  unfold PyData.strOk
  simp only [S, List.all_toArray, List.all_eq_true, decide_eq_true_eq]
  exact fun c hc => Nat.lt_trans (h c hc) (by decide), Nat.le_refl _⟩
theorem Shp.ok {n : Nat} {d : PyData} (h : Shp n d) (l : n ≤ 64 := by decide) : SeqAt.shaped d = true := by
  unfold SeqAt.shaped
  rw [h.lay, decide_eq_true (Nat.le_trans h.dep l)]
  rfl
section
variable {X : Cx} {x y : PyData} {n : Nat}
theorem c_eqSame (hu : X.A.units + 64 < cLine) (h : Shp n x) (hn : n ≤ 64 := by decide) : OpD X (compareOp .Eq) x x (.bool true) := by
  have z := c_eqD (X := X) hu (h.ok hn) (h.ok hn)
  rw [SeqAt.eqv_refl x h.lay] at z
  exact z
theorem c_neSame (hu : X.A.units + 64 < cLine) (h : Shp n x) (hn : n ≤ 64 := by decide) : OpD X (compareOp .NotEq) x x (.bool false) := by
  have z := c_neD (X := X) hu (h.ok hn) (h.ok hn)
  rw [SeqAt.eqv_refl x h.lay] at z
  exact z
end
end HW
set_option maxHeartbeats 4000000
namespace HW
open PySem PySem.Spec PyProof.Rows L2
open SX (S)
abbrev FnP (K : PySem.W.Frag) (x : Str) (st : Stmt) (f : Addr) (fd : FuncData) : Prop := FunD K x x (defArgs st) (defBody st) (defScope st) [] [] f fd
structure Gs (mg : Str → Option Value) : Prop where
  isinstance : mg "isinstance" = none
  str : mg "str" = none
  int : mg "int" = none
  len : mg "len" = none
  all : mg "all" = none
  range : mg "range" = none
  set : mg "set" = none
  enumerate : mg "enumerate" = none
  zip : mg "zip" = none
  min : mg "min" = none
  max : mg "max" = none
  sorted : mg "sorted" = none
  any : mg "any" = none
  tuple : mg "tuple" = none
  list : mg "list" = none
  bool : mg "bool" = none
  dict : mg "dict" = none
  abs : mg "abs" = none
  sum : mg "sum" = none
abbrev gSEEN (mg : Str → Option Value) : Prop := ∃ t, mg "SEEN" = some (.str "x" t)
abbrev gHOLE (mg : Str → Option Value) : Prop := ∃ t, mg "HOLE" = some (.str "." t)
abbrev gOPEN (mg : Str → Option Value) : Prop := ∃ t, mg "OPEN" = some (.str "?" t)
abbrev gLETTERS (mg : Str → Option Value) : Prop := ∃ t, mg "LETTERS" = some (.str "abcd" t)
abbrev gMOST_MASK (mg : Str → Option Value) : Prop := ∃ t, mg "MOST_MASK" = some (.int 12 t)
abbrev gMOST_ROW (mg : Str → Option Value) : Prop := ∃ t, mg "MOST_ROW" = some (.int 60 t)
/-! the plain words -/
def maskB (m : List Nat) : Bool := decide (1 ≤ m.length) && decide (m.length ≤ 12) && m.all (fun c => decide (c ∈ [120, 46])) && decide (m[0]? = some 120) && decide (m.getLast? = some 120)
def rowB (l : List Nat) : Bool := decide (l.length ≤ 60) && l.all (fun c => decide (c ∈ [97, 98, 99, 100]))
def seenL (m : List Nat) : List Nat := ((m.mapIdx Prod.mk).filter fun q => decide (q.2 = 120)).map Prod.fst
abbrev sD (l : List Nat) : PyData := .str (S l)
abbrev nD (l : List Nat) : PyData := .list (l.map nn)
abbrev wD (l : List (List Nat)) : PyData := .list (l.map sD)
def R_is_mask (ds : List PyData) (d : PyData) : Prop := ∃ m : List Nat, ds = [sD m] ∧ maskB m = true ∧ d = .bool true
def R_need_mask (ds : List PyData) (d : PyData) : Prop := ∃ m : List Nat, ds = [sD m] ∧ maskB m = true ∧ d = .none
def R_is_row (ds : List PyData) (d : PyData) : Prop := ∃ l : List Nat, ds = [sD l] ∧ rowB l = true ∧ d = .bool true
def R_need_row (ds : List PyData) (d : PyData) : Prop := ∃ l : List Nat, ds = [sD l] ∧ rowB l = true ∧ d = .none
def R_seen_by (ds : List PyData) (d : PyData) : Prop := ∃ m : List Nat, ds = [sD m] ∧ m.length ≤ 16777216 ∧ d = nD (seenL m)
theorem map_fst_le {α β : Type} (l : List (α × β)) (p : α × β → Bool) : ((l.filter p).map Prod.fst).length ≤ l.length := by
  rw [List.length_map]
  exact List.length_filter_le ..
/-! ### the draws -/
section
variable {X : Cx} {σ : L2.St} {H : Hp} {a b : Expr} {x y z : V} {Q : VK} {pos : Pos}
/-- e gives v here, whatever the heap is then: the heap stays -/
def At (X : Cx) (σ : L2.St) (H : Hp) (e : Expr) (v : V) : Prop := ∀ Q : VK, Q v H → wE X e σ H Q
theorem at_var (i : Nat) {n : Str} (h : σ[i]? = some (some x)) (hN : X.N[i]? = some n := by rfl) (hv : Vis X.env.scope n := by first | exact Or.inl rfl | exact Or.inr (Or.inl rfl) | exact Or.inr (Or.inr rfl))
    (h1 : (n == ("__debug__" : Str)) = false := by decide) (h2 : (n == ("__classdict__" : Str)) = false := by decide) : At X σ H (.Name n pos) x := fun Q q => (pe_var hN hv h1 h2).w ⟨x, h, q⟩
theorem at_k {e : Expr} {v : V} (h : At X σ H e v) (q : Q v H) : wE X e σ H Q := h Q q
theorem at_int {i : Int} {j p} : At X σ H (.Constant (.int i) j p) (.int i) := fun Q q => pe_int.w q
theorem at_op {op : Operator} {r : R2} (o : OpR X (binaryOp op) r) (ha : At X σ H a x) (hb : At X σ H b y) (hz : ∀ Q : VK, Q z H → r x y H Q) : At X σ H (.BinOp a op b pos) z := fun Q q => (pe_op o wE.pe wE.pe).w (ha _ (hb _ (hz Q q)))
theorem at_ix {p : Addr} {xs : List V} {i : Int} (ha : At X σ H a (.ref p)) (hb : At X σ H b (.int i)) (hl : SqL X.K H p xs) (hx : atI xs i = some x) (hs : PlainIx b := by exact fun _ _ => rfl) : At X σ H (.Subscript a b pos) x := fun Q q =>
  (pe_ix ix_list wE.pe wE.pe hs).w (ha _ (hb _ ⟨p, xs, i, x, rfl, rfl, hl, hx, q⟩))
theorem at_int1 {p : Pos} {i : Int} (ha : At X σ H a (.int i)) (hm : X.mg "int" = none) (hg : Gl X "int" := by rfl) (hs : starEach [a] X.env = (false, eval a X.env) :: starEach [] X.env := by rfl) (hpl : (backTo pos (starEach [] X.env)).any (·.1) = false := by rfl) : At X σ H (.Call (.Name "int" p) [a] [] pos) (.int i) := fun Q q =>
  (pe_callTy call_int1 hg hm boot_int (pa_cons wE.pe pa_nil hs) (by decide) (by decide) hs hpl).w (ha _ (.inl ⟨i, rfl, q⟩))
theorem at_len {p : Pos} {l : Addr} {xs : List V} (ha : At X σ H a (.ref l)) (hl : SqL X.K H l xs) (hm : X.mg "len" = none) (hg : Gl X "len" := by rfl) (hs : starEach [a] X.env = (false, eval a X.env) :: starEach [] X.env := by rfl) (hpl : (backTo pos (starEach [] X.env)).any (·.1) = false := by rfl) : At X σ H (.Call (.Name "len" p) [a] [] pos) (.int xs.length) := fun Q q =>
  (pe_callB call_len_seq hg hm boot_len (pa_cons wE.pe pa_nil hs) (by decide) (by decide) hs hpl).w (ha _ ⟨l, xs, rfl, .inl hl, q⟩)
theorem at_cmp {op : CmpOp} {r : R2} {k : Bool} (o : OpR X (compareOp op) r) (ha : At X σ H a x) (hb : At X σ H b y) (hz : ∀ Q : VK, Q (.bl k) H → r x y H Q) {Qb : Bool → Hp → Prop} (q : Qb k H) (hm : behindInMarks op b = false := by first | exact nomark _ | rfl) : wT X (.Compare a [op] [b] pos) σ H Qb :=
  (pt_cmpR o wE.pe wE.pe hm).w (ha _ (hb _ (hz _ ⟨k, rfl, q⟩)))
end
def R_taken_pre (ds : List PyData) : Prop := ∃ m : Int, ds = [.int m] ∧ 0 < m ∧ m < 1073741824
def R_taken_post (ds : List PyData) (d : PyData) : Prop := ∃ m : Int, ∃ k : Nat, ds = [.int m] ∧ d = .int (k : Int) ∧ (k : Int) < m
/-! ### rings -/
theorem rowB_len {l : List Nat} (h : rowB l = true) : l.length ≤ 60 := by
  unfold rowB at h
  simp only [Bool.and_eq_true, decide_eq_true_eq] at h
  exact h.1
theorem maskB_len {m : List Nat} (h : maskB m = true) : m.length ≤ 12 := by
  unfold maskB at h
  simp only [Bool.and_eq_true, decide_eq_true_eq] at h
  exact h.1.1.1.2
theorem seenL_len (m : List Nat) : (seenL m).length ≤ m.length := by
  unfold seenL
  refine Nat.le_trans (map_fst_le _ _) ?_
  simp
/-! ### the law's own defs -/
def lowL (n : Nat) (l : List Nat) : Prop := ∀ c ∈ l, 97 ≤ c ∧ c < 97 + n
def pre_mask (ds : List PyData) : Prop := ∃ w : Nat, ds = [nn w] ∧ 1 ≤ w ∧ w ≤ 12
def post_mask (ds : List PyData) (d : PyData) : Prop := ∃ (w : Nat) (m : List Nat), ds = [nn w] ∧ d = sD m ∧ maskB m = true ∧ m.length ≤ w
def pre_line (ds : List PyData) : Prop := ∃ a n : Nat, ds = [nn a, nn n] ∧ a ≤ 100000 ∧ 1 ≤ n ∧ n ≤ 4
def post_line (ds : List PyData) (d : PyData) : Prop := ∃ (a n : Nat) (l : List Nat), ds = [nn a, nn n] ∧ d = sD l ∧ l.length ≤ a ∧ lowL n l
def openL (m : List Nat) : List Nat := (List.range m.length).filter fun i => decide (m.getD i 0 = 120)
def R_open (ds : List PyData) (d : PyData) : Prop := ∃ m : List Nat, ds = [sD m] ∧ m.length ≤ 4000 ∧ d = nD (openL m)
def lawV (l m : List Nat) : List (List Nat) := (List.range (l.length + 1 - m.length)).map fun p => (openL m).map fun a => l.getD (p + a) 0
def R_lviews (ds : List PyData) (d : PyData) : Prop := ∃ l m : List Nat, ds = [sD l, sD m] ∧ l.length ≤ 4000 ∧ 1 ≤ m.length ∧ m.length ≤ 4000 ∧ d = wD (lawV l m)
abbrev DRAW (P : Program) (w : World) (K : PySem.W.Frag) (mg : Str → Option Value) (base : Heap) (k : Nat) : Prop := Fd P w K mg base k "_law_taken" ["_law_row", "_law_many"] (spW K R_taken_pre R_taken_post)
section
variable {X : Cx} {W : Wd} {Γ : List DV} {μ : Mu} {a : Expr} {pos p p2 : Pos} {n : Str} {r scr : Addr} {ns : List Int} {k : Nat}
/-- _law_taken(_law_row, a) -/
theorem ev_taken {A : PyData → Prop} (m : Nat) (F : DRAW X.prog X.w X.K X.mg X.base k) (hr : Room k X.A) (hrow : W.row = some (r, scr, ns)) (i : Nat) (ha : Ev X W Γ μ a A) (hm : ∀ d, A d → ∃ z : Nat, d = nn z ∧ 1 ≤ z ∧ z ≤ m) (hm2 : m < 1000000 := by decide)
    (hi : Γ[i]? = some (.r r) := by rfl) (hN : X.N[i]? = some n := by rfl) (hv : Vis X.env.scope n := by first | exact Or.inl rfl | exact Or.inr (Or.inl rfl) | exact Or.inr (Or.inr rfl))
    (h1 : (n == ("__debug__" : Str)) = false := by decide) (h2 : (n == ("__classdict__" : Str)) = false := by decide) (hg : Gl X "_law_taken" := by rfl)
    (he : starEach (.Name n p2 :: [a]) X.env = (false, eval (.Name n p2) X.env) :: starEach [a] X.env := by rfl) (hpl : (backTo pos (starEach [a] X.env)).any (·.1) = false := by rfl) (he2 : starEach [a] X.env = (false, eval a X.env) :: starEach [] X.env := by rfl) :
    Ev X W Γ μ (.Call (.Name "_law_taken" p) (.Name n p2 :: [a]) [] pos) (fun d => ∃ z k : Nat, A (nn z) ∧ d = nn k ∧ k < z ∧ z ≤ m) :=
  (ev_draw F hr hrow i (eva_cons ha eva_nil he2) (fun ds ⟨x, r, e, ax, er⟩ => by
    obtain ⟨z, e2, h3, h4⟩ := hm x ax
    subst er
    exact ⟨(z : Int), by rw [e, e2], by omega, by omega⟩) hi hN hv h1 h2 hg (by decide) he hpl).imp fun d ⟨ds, ⟨x, r, e, ax, er⟩, m', k', e3, e4, h5⟩ => by
    obtain ⟨z, e2, h3, h4⟩ := hm x ax
    subst er
    rw [e, e2] at e3
    have e5 : (z : Int) = m' := by
      have := (List.cons.inj e3).1
      exact PyData.int.inj this
    exact ⟨z, k', e2 ▸ ax, e4, by omega, h4⟩
theorem ev_takenN (m : Nat) (F : DRAW X.prog X.w X.K X.mg X.base k) (hr : Room k X.A) (hrow : W.row = some (r, scr, ns)) (i : Nat) {z : Int} (ha : Ed X W Γ μ a (.int z)) (e : z = (m : Int)) (h1m : 1 ≤ m := by decide) (hm2 : m < 1000000 := by decide)
    (hi : Γ[i]? = some (.r r) := by rfl) (hN : X.N[i]? = some n := by rfl) (hv : Vis X.env.scope n := by first | exact Or.inl rfl | exact Or.inr (Or.inl rfl) | exact Or.inr (Or.inr rfl))
    (h1 : (n == ("__debug__" : Str)) = false := by decide) (h2 : (n == ("__classdict__" : Str)) = false := by decide) (hg : Gl X "_law_taken" := by rfl)
    (he : starEach (.Name n p2 :: [a]) X.env = (false, eval (.Name n p2) X.env) :: starEach [a] X.env := by rfl) (hpl : (backTo pos (starEach [a] X.env)).any (·.1) = false := by rfl) (he2 : starEach [a] X.env = (false, eval a X.env) :: starEach [] X.env := by rfl) :
    Ev X W Γ μ (.Call (.Name "_law_taken" p) (.Name n p2 :: [a]) [] pos) (fun d => ∃ k : Nat, d = nn k ∧ k < m) :=
  (ev_taken (A := fun d => d = nn m) m F hr hrow i (ha.evP (by rw [e])) (fun d e => ⟨m, e, h1m, Nat.le_refl _⟩) hm2 hi hN hv h1 h2 hg he hpl he2).imp fun d ⟨z, k, e1, e2, h3, h4⟩ => ⟨k, e2, by omega⟩
end
theorem EvA.imp {X : Cx} {W : Wd} {Γ : List DV} {μ : Mu} {es : List Expr} {A B : List PyData → Prop} (h : EvA X W Γ μ es A) (i : ∀ d, A d → B d) : EvA X W Γ μ es B := fun σ H R Q k => h σ H R Q fun v d H2 R2 x2 r p => k v d H2 R2 x2 r (i d p)

/-! ### the plain law -/
theorem mapIdx_range (m : List Nat) : m.mapIdx Prod.mk = (List.range m.length).map fun i => (i, m.getD i 0) := by
  apply List.ext_getElem?
  intro i
  rw [List.getElem?_mapIdx, List.getElem?_map]
  by_cases h : i < m.length
  · rw [List.getElem?_range h, List.getElem?_eq_getElem h]
    show some (i, m[i]) = some (i, m.getD i 0)
    rw [List.getD_eq_getElem?_getD, List.getElem?_eq_getElem h]
    rfl
  · rw [List.getElem?_eq_none (by omega), List.getElem?_eq_none (by simp; omega)]
    rfl
theorem open_seen (m : List Nat) : openL m = seenL m := by
  unfold seenL openL
  rw [mapIdx_range, List.filter_map, List.map_map]
  have e : (Prod.fst ∘ fun i => (i, m.getD i 0)) = (id : Nat → Nat) := rfl
  rw [e, List.map_id]
  rfl
theorem mem_open {m : List Nat} {a : Nat} (h : a ∈ openL m) : a < m.length := by
  have := (List.mem_filter.mp h).1
  simpa using this
theorem low_row {l : List Nat} (h1 : l.length ≤ 60) (h2 : lowL 4 l) : rowB l = true := by
  unfold rowB
  simp only [Bool.and_eq_true, decide_eq_true_eq, List.all_eq_true]
  refine ⟨h1, fun c hc => ?_⟩
  have := h2 c hc
  have : c = 97 ∨ c = 98 ∨ c = 99 ∨ c = 100 := by omega
  rcases this with e | e | e | e <;> (subst e; decide)
theorem rowB_low {l : List Nat} (h : rowB l = true) : ∀ c ∈ l, c < 128 := by
  unfold rowB at h
  simp only [Bool.and_eq_true, decide_eq_true_eq, List.all_eq_true] at h
  intro c hc
  have := h.2 c hc
  simp at this
  omega
theorem shp_w {ws : List (List Nat)} (h : ∀ v ∈ ws, ∀ c ∈ v, c < 128) : Shp 1 (wD ws) := Shp.list fun x hx => by
  obtain ⟨v, hv, rfl⟩ := List.mem_map.mp hx
  exact Shp.str (h v hv)

end HW
set_option maxHeartbeats 4000000
namespace HW
open PySem PySem.Spec PyProof.Rows L2
open SX (S)
section
variable {X : Cx} {W W0 : Wd} {Γ : List DV} {μ : Mu} {e c a b : Expr} {rest sts body : List Stmt} {D : Ends} {d x y : PyData} {pos p p1 p2 p3 : Pos} {n n1 n2 : Str} {α : Type}
/-- n1, n2 = e : a pair of data (also where a name is a cell) -/
theorem run_asg2P {P : PyData → Prop} (i j : Nat) {kt : Nat} {pt : Pos} (he : Ev X W Γ μ e P) (h : ∀ d, P d → ∃ x y, d = .tuple [x, y] ∧ Run X W ((Γ.set i (.d x)).set j (.d y)) μ rest D) (hN : X.N.Nodup) (hi : X.N[i]? = some n1 := by rfl) (hj : X.N[j]? = some n2 := by rfl)
    (hx1 : Loc X.env.scope n1 := by first | exact Or.inl rfl | exact Or.inr rfl) (hx2 : Loc X.env.scope n2 := by first | exact Or.inl rfl | exact Or.inr rfl)
    (hf1 : X.fn n1 = true ∨ X.env.scope.names.lookup n1 = some .local := by first | exact .inr rfl | exact .inl rfl) (hf2 : X.fn n2 = true ∨ X.env.scope.names.lookup n2 = some .local := by first | exact .inr rfl | exact .inl rfl) (hc : X.calm = true := by rfl)
    (hs : swapsWithSole [.Tuple [.Name n1 p1, .Name n2 p2] kt pt] e pos.line X.env = pure false := by rfl) (hw : swappedStores [.Tuple [.Name n1 p1, .Name n2 p2] kt pt] e X.env = pure none := by rfl)
    (h1 : (assignEach [.Tuple [.Name n1 p1, .Name n2 p2] kt pt] X.env).map (·.2) = [assign (.Tuple [.Name n1 p1, .Name n2 p2] kt pt) X.env] := by rfl) :
    Run X W Γ μ (.Assign [.Tuple [.Name n1 p1, .Name n2 p2] kt pt] e pos :: rest) D := fun σ H R =>
  wSs_cons ((ps_asg wE.pe (pg_tup hc (pgs_cons (pg_name hN hi hx1 hf1) (pgs_cons (pg_name hN hj hx2 hf2) pgs_nil))) hs hw h1).w (he σ H R _ fun v d H2 R2 e2 r pd => by
    obtain ⟨x, y, rfl, hr⟩ := h d pd
    refine (tg_pair (tg_name (K := X.K) i) (tg_name j)).run _ v _ σ H2 Γ _ r ⟨x, y, rfl, trivial, trivial⟩ R2.sl fun σ3 s3 _ _ => ?_
    exact hr _ _ ⟨R2.wd, R2.fr, s3, R2.mu, R2.nd⟩))
theorem run_asg2 (i j : Nat) {kt : Nat} {pt : Pos} (he : Ed X W Γ μ e (.tuple [x, y])) (h : Run X W ((Γ.set i (.d x)).set j (.d y)) μ rest D) (hN : X.N.Nodup) (hi : X.N[i]? = some n1 := by rfl) (hj : X.N[j]? = some n2 := by rfl)
    (hx1 : Loc X.env.scope n1 := by first | exact Or.inl rfl | exact Or.inr rfl) (hx2 : Loc X.env.scope n2 := by first | exact Or.inl rfl | exact Or.inr rfl)
    (hf1 : X.fn n1 = true ∨ X.env.scope.names.lookup n1 = some .local := by first | exact .inr rfl | exact .inl rfl) (hf2 : X.fn n2 = true ∨ X.env.scope.names.lookup n2 = some .local := by first | exact .inr rfl | exact .inl rfl) (hc : X.calm = true := by rfl)
    (hs : swapsWithSole [.Tuple [.Name n1 p1, .Name n2 p2] kt pt] e pos.line X.env = pure false := by rfl) (hw : swappedStores [.Tuple [.Name n1 p1, .Name n2 p2] kt pt] e X.env = pure none := by rfl)
    (h1 : (assignEach [.Tuple [.Name n1 p1, .Name n2 p2] kt pt] X.env).map (·.2) = [assign (.Tuple [.Name n1 p1, .Name n2 p2] kt pt) X.env] := by rfl) :
    Run X W Γ μ (.Assign [.Tuple [.Name n1 p1, .Name n2 p2] kt pt] e pos :: rest) D :=
  run_asg2P (P := fun z => z = .tuple [x, y]) i j he.ev (fun _ e => ⟨x, y, e, h⟩) hN hi hj hx1 hx2 hf1 hf2 hc hs hw h1
end
end HW
set_option maxHeartbeats 4000000
namespace HW
open PySem PySem.Spec PyProof.Rows L2
open SX (S)
/-! ### views -/
def viewL (l m : List Nat) (p : Nat) : List Nat := (seenL m).map fun a => l.getD (p + a) 0
def viewsL (l m : List Nat) : List (List Nat) := (List.range (l.length + 1 - m.length)).map (viewL l m)
def tellsB (l m : List Nat) : Bool := decide (viewsL l m).Nodup
theorem lawV_eq (l m : List Nat) : lawV l m = viewsL l m := by unfold lawV viewsL; rw [open_seen]; rfl
theorem viewsL_len (l m : List Nat) : (viewsL l m).length = l.length + 1 - m.length := by simp [viewsL]
theorem mem_seen {m : List Nat} {a : Nat} (h : a ∈ seenL m) : a < m.length := mem_open (open_seen m ▸ h)
theorem maskB_pos {m : List Nat} (h : maskB m = true) : 1 ≤ m.length := by
  unfold maskB at h
  simp only [Bool.and_eq_true, decide_eq_true_eq] at h
  exact h.1.1.1.1
def R_view_by (ds : List PyData) (d : PyData) : Prop := ∃ (l m : List Nat) (p : Nat), ds = [sD l, sD m, nn p] ∧ l.length ≤ 4000 ∧ m.length ≤ 4000 ∧ p + m.length ≤ l.length ∧ d = sD (viewL l m p)
def R_views_of (ds : List PyData) (d : PyData) : Prop := ∃ l m : List Nat, ds = [sD l, sD m] ∧ l.length ≤ 4000 ∧ 1 ≤ m.length ∧ m.length ≤ 4000 ∧ d = wD (viewsL l m)
def letL (n : Nat) : List Nat := [97, 98, 99, 100].take n
theorem mem_letL {n c : Nat} (hn : n ≤ 4) : c ∈ letL n ↔ 97 ≤ c ∧ c < 97 + n := by
  unfold letL
  match n, hn with
  | 0, _ => constructor <;> intro h <;> first | omega | simp at h
  | 1, _ => simp; omega
  | 2, _ => simp; omega
  | 3, _ => simp; omega
  | 4, _ => simp; omega
theorem letL_len {n : Nat} (hn : n ≤ 4) : (letL n).length = n := by simp [letL]; omega
def chgL (l : List Nat) (i c : Nat) : List Nat := l.take i ++ [c] ++ l.drop (i + 1)
theorem chgL_len (l : List Nat) (i c : Nat) (h : i < l.length) : (chgL l i c).length = l.length := by simp [chgL]; omega
theorem flat_len {α β : Type} (f : α → List β) (c : Nat) : ∀ l : List α, (∀ x ∈ l, (f x).length ≤ c) → (l.flatMap f).length ≤ l.length * c
  | [], _ => by simp
  | x :: l, h => by
    have h1 := h x List.mem_cons_self
    have h2 := flat_len f c l fun y hy => h y (List.mem_cons_of_mem _ hy)
    rw [List.flatMap_cons, List.length_append, List.length_cons, Nat.add_mul]
    omega

/-! ### draws in use -/
section
variable {X : Cx} {W : Wd} {Γ : List DV} {μ : Mu} {a b e i : Expr} {pos p p2 : Pos} {n : Str} {r scr : Addr} {ns : List Int} {k : Nat}
/-- [..][draw] -/
theorem ev_pick (xs : List PyData) (he : Ed X W Γ μ e (.list xs)) (hi : Ev X W Γ μ i (fun d => ∃ q : Nat, d = nn q ∧ q < xs.length)) (hs : PlainIx i := by exact fun _ _ => rfl) : Ev X W Γ μ (.Subscript e i pos) (fun z => z ∈ xs) :=
  ev_ix he.ev hi (fun x y ex ⟨q, ey, hq⟩ => by
    subst ex
    subst ey
    exact ⟨xs[q], List.getElem_mem hq, i_list (n := q) (List.getElem?_eq_getElem hq)⟩) hs
/-- "abcd"[draw] -/
theorem ev_sign (l : List Nat) (hl : l.length ≤ 1000) (he : Ed X W Γ μ e (sD l)) (hi : Ev X W Γ μ i (fun d => ∃ q : Nat, d = nn q ∧ q < l.length)) (hs : PlainIx i := by exact fun _ _ => rfl) : Ev X W Γ μ (.Subscript e i pos) (fun z => ∃ c, z = sg c ∧ c ∈ l) :=
  ev_ix he.ev hi (fun x y ex ⟨q, ey, hq⟩ => by
    subst ex
    subst ey
    exact ⟨sg l[q], ⟨l[q], rfl, List.getElem_mem hq⟩, i_str (n := q) (by omega) (List.getElem?_eq_getElem hq)⟩) hs
/-- _law_mask(_law_row, a) -/
theorem ev_lmask (wd : Nat) (F : Fd X.prog X.w X.K X.mg X.base k "_law_mask" ["_law_row", "_law_width"] (spW X.K pre_mask post_mask)) (hr : Room k X.A) (hrow : W.row = some (r, scr, ns)) (j : Nat) (ha : Ev X W Γ μ a (fun z => ∃ q : Nat, z = nn q ∧ 1 ≤ q ∧ q ≤ wd)) (hw : wd ≤ 12 := by decide)
    (hi : Γ[j]? = some (.r r) := by rfl) (hN : X.N[j]? = some n := by rfl) (hv : Vis X.env.scope n := by first | exact Or.inl rfl | exact Or.inr (Or.inl rfl) | exact Or.inr (Or.inr rfl))
    (h1 : (n == ("__debug__" : Str)) = false := by decide) (h2 : (n == ("__classdict__" : Str)) = false := by decide) (hg : Gl X "_law_mask" := by rfl)
    (he : starEach (.Name n p2 :: [a]) X.env = (false, eval (.Name n p2) X.env) :: starEach [a] X.env := by rfl) (hpl : (backTo pos (starEach [a] X.env)).any (·.1) = false := by rfl) (he2 : starEach [a] X.env = (false, eval a X.env) :: starEach [] X.env := by rfl) :
    Ev X W Γ μ (.Call (.Name "_law_mask" p) (.Name n p2 :: [a]) [] pos) (fun d => ∃ m : List Nat, d = sD m ∧ maskB m = true ∧ m.length ≤ wd) :=
  (ev_draw F hr hrow j (A := fun ds => ∃ q : Nat, ds = [nn q] ∧ 1 ≤ q ∧ q ≤ wd) (eva_cons ha eva_nil he2 |>.imp fun ds ⟨x, r, e, ⟨q, e2, h⟩, e3⟩ => ⟨q, by rw [e, e2, e3], h⟩) (fun ds ⟨q, e, h3, h4⟩ => ⟨q, e, h3, by omega⟩) hi hN hv h1 h2 hg (by decide) he hpl).imp fun d ⟨ds, ⟨q, e, h3, h4⟩, hp⟩ => by
    obtain ⟨w', m, e2, e3, hm, hl⟩ := hp
    rw [e] at e2
    have := PyData.int.inj (List.cons.inj e2).1
    exact ⟨m, e3, hm, by omega⟩
/-- _law_line(_law_row, a, b) -/
theorem ev_lline (A N : Nat) (F : Fd X.prog X.w X.K X.mg X.base k "_law_line" ["_law_row", "_law_most", "_law_letters"] (spW X.K pre_line post_line)) (hr : Room k X.A) (hrow : W.row = some (r, scr, ns)) (j : Nat) (ha : Ev X W Γ μ a (fun z => ∃ q : Nat, z = nn q ∧ q ≤ A)) (hb : Ev X W Γ μ b (fun z => ∃ q : Nat, z = nn q ∧ 1 ≤ q ∧ q ≤ N)) (hA : A ≤ 100000 := by decide) (hNN : N ≤ 4 := by decide)
    (hi : Γ[j]? = some (.r r) := by rfl) (hN : X.N[j]? = some n := by rfl) (hv : Vis X.env.scope n := by first | exact Or.inl rfl | exact Or.inr (Or.inl rfl) | exact Or.inr (Or.inr rfl))
    (h1 : (n == ("__debug__" : Str)) = false := by decide) (h2 : (n == ("__classdict__" : Str)) = false := by decide) (hg : Gl X "_law_line" := by rfl)
    (he : starEach (.Name n p2 :: [a, b]) X.env = (false, eval (.Name n p2) X.env) :: starEach [a, b] X.env := by rfl) (hpl : (backTo pos (starEach [a, b] X.env)).any (·.1) = false := by rfl) (he2 : starEach [a, b] X.env = (false, eval a X.env) :: starEach [b] X.env := by rfl) (he3 : starEach [b] X.env = (false, eval b X.env) :: starEach [] X.env := by rfl) :
    Ev X W Γ μ (.Call (.Name "_law_line" p) (.Name n p2 :: [a, b]) [] pos) (fun d => ∃ l : List Nat, d = sD l ∧ l.length ≤ A ∧ lowL N l) :=
  (ev_draw F hr hrow j (A := fun ds => ∃ q q2 : Nat, ds = [nn q, nn q2] ∧ q ≤ A ∧ 1 ≤ q2 ∧ q2 ≤ N) (eva_cons ha (eva_cons hb eva_nil he3) he2 |>.imp fun ds ⟨x, r, e, ⟨q, e2, h⟩, y, r2, e3, ⟨q2, e4, h4⟩, e5⟩ => ⟨q, q2, by rw [e, e2, e3, e4, e5], h, h4⟩) (fun ds ⟨q, q2, e, h3, h4, h5⟩ => ⟨q, q2, e, by omega, h4, by omega⟩) hi hN hv h1 h2 hg (by decide) he hpl).imp fun d ⟨ds, ⟨q, q2, e, h3, h4, h5⟩, hp⟩ => by
    obtain ⟨a', n', l, e2, e3, hl, hlow⟩ := hp
    rw [e] at e2
    have e4 := PyData.int.inj (List.cons.inj e2).1
    have e5 := PyData.int.inj (List.cons.inj (List.cons.inj e2).2).1
    exact ⟨l, e3, by omega, fun c hc => by
      have := hlow c hc
      omega⟩
/-- 1 + draw -/
theorem ev_1up {m : Nat} (he : Ev X W Γ μ e (fun d => ∃ q : Nat, d = nn q ∧ q < m)) {j} : Ev X W Γ μ (.BinOp (.Constant (.int 1) j p) .Add e pos) (fun z => ∃ q : Nat, z = nn q ∧ 1 ≤ q ∧ q ≤ m) :=
  ev_op ed_int.ev he (fun x y ex ⟨q, ey, hq⟩ => by
    subst ex
    subst ey
    exact ⟨_, ⟨1 + q, by push_cast; rfl, by omega, by omega⟩, o_add⟩)
end
end HW
set_option maxHeartbeats 4000000
namespace HW
open PySem PySem.Spec PyProof.Rows L2
open SX (S)
section
variable {X : Cx} {w : List Nat} {ws : List (List Nat)} {ds : List PyData}
/-- tuple(list), list(list), list(tuple) -/
theorem c_tupL : CallD X (.type "tuple") [.list ds] (.tuple ds) := CallR.to call_tuple_of fun vs H Q ⟨L, hL, hv, k⟩ => by
  cases hv with
  | cons h1 h2 =>
    cases h2
    cases h1 with
    | lst ha hs => exact ⟨_, _, rfl, .inl ⟨SqL.of (off_some ha).2, fun l hl => k _ _ (same_new hl) (.tup (.inl (.inl (off_upd (new_out hL hl)))) (hs.up (XT.same (same_new hl))))⟩⟩
theorem c_listL : CallD X (.type "list") [.list ds] (.list ds) := CallR.to call_list_of fun vs H Q ⟨L, hL, hv, k⟩ => by
  cases hv with
  | cons h1 h2 =>
    cases h2
    cases h1 with
    | lst ha hs => exact ⟨_, _, rfl, .inl (SqL.of (off_some ha).2), fun l hl => k _ _ (same_new hl) (.lst (off_upd (new_out hL hl)) (hs.up (XT.same (same_new hl))))⟩
/-- xs == [], xs != [] -/
theorem eqv_nil (ds : List PyData) : PyData.eqv (.list ds) (.list []) = ds.isEmpty := by cases ds <;> rfl
theorem c_eqNil {n : Nat} (hu : X.A.units + 64 < cLine) (h : Shp n (.list ds)) (hn : n ≤ 64 := by decide) : OpD X (compareOp .Eq) (.list ds) (.list []) (.bool ds.isEmpty) := by
  have z := c_eqD (X := X) (y := .list []) hu (h.ok hn) rfl
  rw [eqv_nil] at z
  exact z
theorem c_neNil {n : Nat} (hu : X.A.units + 64 < cLine) (h : Shp n (.list ds)) (hn : n ≤ 64 := by decide) : OpD X (compareOp .NotEq) (.list ds) (.list []) (.bool (!ds.isEmpty)) := by
  have z := c_neD (X := X) (y := .list []) hu (h.ok hn) rfl
  rw [eqv_nil] at z
  exact z
end
end HW
set_option maxHeartbeats 4000000
namespace HW
open PySem PySem.Spec PyProof.Rows L2
open SX (S)
section
variable {X : Cx} {W W0 : Wd} {Γ : List DV} {μ : Mu} {b : Expr} {rest : List Stmt} {D : Ends} {x y : PyData} {pos p p1 p2 pl : Pos} {n1 n2 : Str}
/-- n1, n2 = a, [] : n2 a local list -/
theorem run_parL1 {a : Expr} (i j : Nat) {kt k2 : Nat} {pt pt2 : Pos} (ha : Ed X W Γ μ a x) (h : ∀ l, Run X W ((Γ.set i (.d x)).set j (.r l)) ((l, .lst []) :: μ) rest D) (hN : X.N.Nodup) (hij : i ≠ j := by decide) (hi : X.N[i]? = some n1 := by rfl) (hj : X.N[j]? = some n2 := by rfl)
    (hx : X.env.scope.names.lookup n1 = some .local := by rfl) (hy : X.env.scope.names.lookup n2 = some .local := by rfl) (hc : X.calm = true := by rfl)
    (hw : swappedStores [.Tuple [.Name n1 p1, .Name n2 p2] kt pt] (.Tuple [a, .List [] pl] k2 pt2) X.env = pure (some [n1, n2]) := by rfl)
    (hs : swapsWithSole [.Tuple [.Name n1 p1, .Name n2 p2] kt pt] (.Tuple [a, .List [] pl] k2 pt2) pos.line X.env = pure false := by rfl)
    (hs1 : starEach [a, .List [] pl] X.env = (false, eval a X.env) :: starEach [.List [] pl] X.env := by rfl) (hs2 : starEach [.List [] pl] X.env = (false, eval (.List [] pl) X.env) :: starEach [] X.env := by rfl) :
    Run X W Γ μ (.Assign [.Tuple [.Name n1 p1, .Name n2 p2] kt pt] (.Tuple [a, .List [] pl] k2 pt2) pos :: rest) D := fun σ H R =>
  wSs_cons ((ps_par hc hN hi hj hij hx hy (pa_cons wE.pe (pa_cons (pe_lst pa_nil) pa_nil hs2) hs1) hw hs).w (ha σ H R _ fun v H2 R2 x2 r2 => ⟨Nat.zero_le _, fun l hl => by
    have sm := same_new (o := .lst []) hl
    have R3 : Rep X.K W (Γ.set i (.d x)) μ (σ.set i (some v)) H2 := ⟨R2.wd, R2.fr, R2.sl.set i r2, R2.mu, R2.nd⟩
    have R1 := R3.born (m := .lst []) (o := .lst []) hl ⟨[], upd_same, .nil⟩
    exact ⟨_, _, rfl, h l _ _ ⟨R1.wd, R1.fr, R1.sl.setr j, R1.mu, R1.nd⟩⟩⟩))
end
/-! ### the rows that are told, letter by letter -/
theorem getD_app {l : List Nat} {c i : Nat} (h : i < l.length) : (l ++ [c]).getD i 0 = l.getD i 0 := by
  rw [List.getD_eq_getElem?_getD, List.getD_eq_getElem?_getD, List.getElem?_append_left h]
theorem viewL_app {l m : List Nat} {c p : Nat} (h : p + m.length ≤ l.length) : viewL (l ++ [c]) m p = viewL l m p := by
  unfold viewL
  refine List.map_congr_left fun a ha => getD_app ?_
  have := mem_seen ha
  omega
theorem viewsL_snoc (l m : List Nat) (c : Nat) (hm : 1 ≤ m.length) : viewsL (l ++ [c]) m = if l.length + 1 < m.length then viewsL l m else viewsL l m ++ [viewL (l ++ [c]) m (l.length + 1 - m.length)] := by
  unfold viewsL
  rw [List.length_append, List.length_singleton]
  by_cases h : l.length + 1 < m.length
  · rw [if_pos h]
    have e1 : l.length + 1 + 1 - m.length = 0 := by omega
    have e2 : l.length + 1 - m.length = 0 := by omega
    rw [e1, e2]
    rfl
  · rw [if_neg h]
    have e1 : l.length + 1 + 1 - m.length = (l.length + 1 - m.length) + 1 := by omega
    rw [e1, List.range_succ, List.map_append]
    congr 1
    refine List.map_congr_left fun p hp => viewL_app ?_
    have := List.mem_range.mp hp
    omega
def okC (m r : List Nat) (c : Nat) : Bool := decide (r.length + 1 < m.length) || !decide (viewL (r ++ [c]) m (r.length + 1 - m.length) ∈ viewsL r m)
theorem tells_snoc (r m : List Nat) (c : Nat) (hm : 1 ≤ m.length) : tellsB (r ++ [c]) m = (tellsB r m && okC m r c) := by
  unfold tellsB okC
  rw [viewsL_snoc r m c hm]
  by_cases h : r.length + 1 < m.length
  · rw [if_pos h, decide_eq_true h]
    simp
  · rw [if_neg h, decide_eq_false h, Bool.false_or, Bool.eq_iff_iff]
    simp only [decide_eq_true_eq, Bool.and_eq_true, Bool.not_eq_true', decide_eq_false_iff_not]
    rw [List.nodup_append]
    constructor
    · rintro ⟨h1, _, h3⟩
      exact ⟨h1, fun q => h3 _ q _ (List.mem_singleton.mpr rfl) rfl⟩
    · rintro ⟨h1, h2⟩
      exact ⟨h1, by simp, fun a ha b hb => by rw [List.mem_singleton.mp hb]; rintro rfl; exact h2 ha⟩
def stepR (m : List Nat) (n : Nat) (r : List Nat) : List (List Nat) := ((letL n).filter (okC m r)).map fun c => r ++ [c]
def nextL (m : List Nat) (n : Nat) (rs : List (List Nat)) : List (List Nat) := rs.flatMap (stepR m n)
def lev (m : List Nat) (n : Nat) : Nat → List (List Nat)
  | 0 => [[]]
  | k + 1 => nextL m n (lev m n k)
theorem stepR_len (m : List Nat) {n : Nat} (hn : n ≤ 4) (r : List Nat) : (stepR m n r).length ≤ n := by
  unfold stepR
  rw [List.length_map]
  exact Nat.le_trans (List.length_filter_le ..) (by rw [letL_len hn]; exact Nat.le_refl _)
theorem lev_len (m : List Nat) {n : Nat} (hn : n ≤ 4) : ∀ k, (lev m n k).length ≤ n ^ k
  | 0 => by simp [lev]
  | k + 1 => by
    have h1 := flat_len (stepR m n) n (lev m n k) (fun r _ => stepR_len m hn r)
    have h2 := Nat.mul_le_mul_right n (lev_len m hn k)
    rw [← Nat.pow_succ] at h2
    exact Nat.le_trans h1 h2
theorem mem_lev {m : List Nat} {n : Nat} (hm : 1 ≤ m.length) (hn : n ≤ 4) : ∀ {k : Nat} {r : List Nat}, r ∈ lev m n k ↔ r.length = k ∧ lowL n r ∧ tellsB r m = true
  | 0, r => by
    constructor
    · intro h
      have e : r = [] := by simpa [lev] using h
      subst e
      refine ⟨rfl, (fun c hc => nomatch hc), ?_⟩
      unfold tellsB viewsL
      have : ([] : List Nat).length + 1 - m.length = 0 := by simp; omega
      rw [this]
      rfl
    · rintro ⟨h, _⟩
      have e : r = [] := List.length_eq_zero_iff.mp h
      subst e
      simp [lev]
  | k + 1, r => by
    show r ∈ (lev m n k).flatMap (stepR m n) ↔ _
    rw [List.mem_flatMap]
    constructor
    · rintro ⟨q, hq, hr⟩
      obtain ⟨h1, h2, h3⟩ := (mem_lev hm hn).mp hq
      unfold stepR at hr
      obtain ⟨c, hc, rfl⟩ := List.mem_map.mp hr
      obtain ⟨hc1, hc2⟩ := List.mem_filter.mp hc
      refine ⟨by simp [h1], fun x hx => ?_, by rw [tells_snoc q m c hm, h3, hc2]; rfl⟩
      rcases List.mem_append.mp hx with z | z
      · exact h2 x z
      · rw [List.mem_singleton.mp z]
        exact (mem_letL hn).mp hc1
    · rintro ⟨h1, h2, h3⟩
      have hne : r ≠ [] := by rintro rfl; simp at h1
      have er := List.dropLast_concat_getLast hne
      refine ⟨r.dropLast, (mem_lev hm hn).mpr ⟨by simp [h1], fun c hc => h2 c (List.dropLast_subset r hc), ?_⟩, ?_⟩
      · rw [← er, tells_snoc _ m _ hm, Bool.and_eq_true] at h3
        exact h3.1
      · unfold stepR
        refine List.mem_map.mpr ⟨r.getLast hne, List.mem_filter.mpr ⟨(mem_letL hn).mpr (h2 _ (List.getLast_mem hne)), ?_⟩, er⟩
        rw [← er, tells_snoc _ m _ hm, Bool.and_eq_true] at h3
        exact h3.2
/-! counting -/
theorem nodup_len {α : Type} [DecidableEq α] : ∀ (l D : List α), l.Nodup → (∀ x ∈ l, x ∈ D) → l.length ≤ D.length
  | [], _, _, _ => Nat.zero_le _
  | x :: l, D, h, s => by
    have h1 := List.nodup_cons.mp h
    have hx := s x List.mem_cons_self
    have ih := nodup_len l (D.erase x) h1.2 fun y hy => (List.mem_erase_of_ne (by rintro rfl; exact h1.1 hy)).mpr (s y (List.mem_cons_of_mem _ hy))
    rw [List.length_erase_of_mem hx] at ih
    have := List.length_pos_of_mem hx
    rw [List.length_cons]
    omega
def words (n : Nat) : Nat → List (List Nat)
  | 0 => [[]]
  | s + 1 => (words n s).flatMap fun v => (letL n).map fun c => v ++ [c]
theorem words_len {n : Nat} (hn : n ≤ 4) : ∀ s, (words n s).length ≤ n ^ s
  | 0 => by simp [words]
  | s + 1 => by
    have h1 := flat_len (fun v : List Nat => (letL n).map fun c => v ++ [c]) n (words n s) (fun v _ => by rw [List.length_map, letL_len hn]; exact Nat.le_refl _)
    have h2 := Nat.mul_le_mul_right n (words_len hn s)
    rw [← Nat.pow_succ] at h2
    exact Nat.le_trans h1 h2
theorem mem_words {n : Nat} (hn : n ≤ 4) : ∀ {s : Nat} {v : List Nat}, v.length = s → lowL n v → v ∈ words n s
  | 0, v, h, _ => by
    have e : v = [] := List.length_eq_zero_iff.mp h
    subst e
    simp [words]
  | s + 1, v, h, hl => by
    have hne : v ≠ [] := by rintro rfl; simp at h
    refine List.mem_flatMap.mpr ⟨v.dropLast, mem_words hn (by simp [h]) fun c hc => hl c (List.dropLast_subset v hc), ?_⟩
    exact List.mem_map.mpr ⟨v.getLast hne, (mem_letL hn).mpr (hl _ (List.getLast_mem hne)), List.dropLast_concat_getLast hne⟩
theorem viewL_low {l m : List Nat} {n p : Nat} (hl : lowL n l) (h : p + m.length ≤ l.length) : lowL n (viewL l m p) := by
  intro c hc
  unfold viewL at hc
  obtain ⟨a, ha, rfl⟩ := List.mem_map.mp hc
  have h1 := mem_seen ha
  have h2 : p + a < l.length := by omega
  rw [List.getD_eq_getElem?_getD, List.getElem?_eq_getElem h2]
  exact hl _ (List.getElem_mem h2)
theorem viewL_len (l m : List Nat) (p : Nat) : (viewL l m p).length = (seenL m).length := by simp [viewL]
/-- a told row has at most so many places -/
theorem told_bound {r m : List Nat} {n : Nat} (hm : 1 ≤ m.length) (hn : n ≤ 4) (hl : lowL n r) (ht : tellsB r m = true) : r.length + 1 - m.length ≤ n ^ (seenL m).length := by
  unfold tellsB at ht
  have h := nodup_len (viewsL r m) (words n (seenL m).length) (of_decide_eq_true ht) fun v hv => by
    unfold viewsL at hv
    obtain ⟨p, hp, rfl⟩ := List.mem_map.mp hv
    have := List.mem_range.mp hp
    exact mem_words hn (viewL_len _ _ _) (viewL_low hl (by omega))
  rw [viewsL_len] at h
  exact Nat.le_trans h (words_len hn _)
theorem lev_top {m : List Nat} {n k : Nat} (hm : 1 ≤ m.length) (hn : n ≤ 4) (h : lev m n k ≠ []) : k + 1 ≤ n ^ (seenL m).length + m.length := by
  obtain ⟨r, hr⟩ := List.exists_mem_of_ne_nil _ h
  obtain ⟨h1, h2, h3⟩ := (mem_lev hm hn).mp hr
  have := told_bound hm hn h2 h3
  omega
/-- small enough -/
structure Small (m : List Nat) (n : Nat) : Prop where
  mask : maskB m = true
  lo : 1 ≤ n
  hi : n ≤ 4
  wide : m.length ≤ [12, 8, 5, 4].getD (n - 1) 0
  seen : (seenL m).length ≤ [12, 4, 2, 1].getD (n - 1) 0
theorem Small.bound {m : List Nat} {n : Nat} (h : Small m n) : n ^ (n ^ (seenL m).length + m.length - 1) ≤ 8388608 ∧ n ^ (seenL m).length ≤ 16 := by
  obtain ⟨_, lo, hi, wide, seen⟩ := h
  match n, lo, hi with
  | 1, _, _ => simp
  | 2, _, _ =>
    have w : m.length ≤ 8 := wide
    have s : (seenL m).length ≤ 4 := seen
    have h1 : 2 ^ (seenL m).length ≤ 2 ^ 4 := Nat.pow_le_pow_right (by decide) s
    refine ⟨Nat.le_trans (Nat.pow_le_pow_right (by decide) (show _ ≤ 23 by omega)) (by decide), h1⟩
  | 3, _, _ =>
    have w : m.length ≤ 5 := wide
    have s : (seenL m).length ≤ 2 := seen
    have h1 : 3 ^ (seenL m).length ≤ 3 ^ 2 := Nat.pow_le_pow_right (by decide) s
    refine ⟨Nat.le_trans (Nat.pow_le_pow_right (by decide) (show _ ≤ 13 by omega)) (by decide), by omega⟩
  | 4, _, _ =>
    have w : m.length ≤ 4 := wide
    have s : (seenL m).length ≤ 1 := seen
    have h1 : 4 ^ (seenL m).length ≤ 4 ^ 1 := Nat.pow_le_pow_right (by decide) s
    refine ⟨Nat.le_trans (Nat.pow_le_pow_right (by decide) (show _ ≤ 7 by omega)) (by decide), by omega⟩
theorem Small.pos {m : List Nat} {n : Nat} (h : Small m n) : 1 ≤ m.length := maskB_pos h.mask
theorem Small.top {m : List Nat} {n k : Nat} (h : Small m n) (hk : lev m n k ≠ []) : k + 1 ≤ 16 + m.length := by
  have := lev_top h.pos h.hi hk
  have := h.bound.2
  omega
theorem Small.len {m : List Nat} {n : Nat} (h : Small m n) (k : Nat) : (lev m n k).length ≤ 8388608 := by
  by_cases e : lev m n k = []
  · rw [e]; exact Nat.zero_le _
  · have h1 := lev_top h.pos h.hi e
    exact Nat.le_trans (lev_len m h.hi k) (Nat.le_trans (Nat.pow_le_pow_right h.lo (by omega)) h.bound.1)
theorem Small.ends {m : List Nat} {n : Nat} (h : Small m n) : lev m n (16 + m.length) = [] := by
  by_cases e : lev m n (16 + m.length) = []
  · exact e
  · have := h.top e
    omega
/-! as data -/
end HW
set_option maxHeartbeats 4000000
namespace HW
open PySem PySem.Spec PyProof.Rows L2
open SX (S)
section
variable {X : Cx} {W : Wd} {Γ : List DV} {μ : Mu} {n : Str} {pos : Pos} {ns : List Int}
theorem va_ints {K : PySem.W.Frag} {H : Hp} : ∀ ns : List Int, VaAll K H (ns.map V.int) (ns.map PyData.int)
  | [] => .nil
  | n :: ns => .cons (.int n) (va_ints ns)
end
end HW
set_option maxHeartbeats 4000000
namespace HW
open PySem PySem.Spec PyProof.Rows L2
open SX (S)
/-! ### comprehensions with two for -/
/-- what a walked thing wants -/
def wI (X : Cx) (tg iter : Expr) : TI := fun σ H R => ∀ (pins : List (Addr × Obj)) (s : Shared), Inv X pins σ H s → wpAny (model X.prog X.w) X.A (eval iter X.env) (fun v s1 => wpAny (model X.prog X.w) X.A (pyIter v) (PIE X pins σ tg R) X.xe s1) X.xe s
theorem _root_.L2.PI.w {X : Cx} {tg iter : Expr} {t : TI} (h : PI X tg iter t) {σ : L2.St} {H : Hp} {R : It → Hp → Prop} (q : t σ H R) : wI X tg iter σ H R := fun pins s I => h.run pins s σ H R I q
section
variable {X : Cx} {W : Wd} {Γ : List DV} {μ : Mu} {α β : Type} {tg iter tg1 iter1 elt : Expr} {scope : Scope} {enc : α → PyData} {enc1 : β → PyData} {xs : List α} {ys : α → List β} {f : α → β → PyData} {k1 k2 : Nat}
end
section
variable {X : Cx} {W : Wd} {Γ : List DV} {μ : Mu} {α β : Type} {iter iter1 elt : Expr} {scope : Scope} {pos p1 p2 : Pos} {enc : α → PyData} {enc1 : β → PyData} {xs : List α} {n1 n2 : Str}
end
end HW
set_option maxHeartbeats 4000000
namespace HW
open PySem PySem.Spec PyProof.Rows L2
open SX (S)
section
variable {X : Cx} {W : Wd} {Γ : List DV} {μ μ' : Mu} {sts a b rest : List Stmt} {D D' : Ends} {c : Expr} {pos : Pos}
/-- weaker ends -/
theorem Run.mono (h : Run X W Γ μ sts D) (h1 : ∀ σ H, D.nx σ H → D'.nx σ H) (h2 : ∀ v H, D.rt v H → D'.rt v H) (h3 : ∀ σ H, D.bk σ H → D'.bk σ H) (h4 : ∀ σ H, D.ct σ H → D'.ct σ H) : Run X W Γ μ sts D' := fun σ H R pins s I =>
  wpAny_mono (h σ H R pins s I) (fun fl s' q => by
    cases fl with
    | next => obtain ⟨σ', H', I', q'⟩ := q; exact ⟨σ', H', I', h1 _ _ q'⟩
    | brk => obtain ⟨σ', H', I', q'⟩ := q; exact ⟨σ', H', I', h3 _ _ q'⟩
    | cont => obtain ⟨σ', H', I', q'⟩ := q; exact ⟨σ', H', I', h4 _ _ q'⟩
    | ret u => obtain ⟨v, σ', H', I', r, q'⟩ := q; exact ⟨v, σ', H', I', r, h2 _ _ q'⟩) fun _ _ z => z
/-- if, both ways on to one state Φ -/
theorem run_ifJ {k : Bool} (Φ : List DV → Mu → Prop) (hc : EdT X W Γ μ c k) (h1 : k = true → Run X W Γ μ a { D with nx := StP X.K W Φ }) (h2 : k = false → Run X W Γ μ b { D with nx := StP X.K W Φ }) (hr : ∀ Γ' μ', Φ Γ' μ' → Run X W Γ' μ' rest D) : Run X W Γ μ (.If c a b pos :: rest) D :=
  have on : ∀ σ H, StP X.K W Φ σ H → wSs X rest D σ H := fun σ H ⟨Γ', μ', p, R⟩ => hr Γ' μ' p σ H R
  run_if hc (fun q => (h1 q).mono on (fun _ _ z => z) (fun _ _ z => z) (fun _ _ z => z)) (fun q => (h2 q).mono on (fun _ _ z => z) (fun _ _ z => z) (fun _ _ z => z))
end
/-! ### all masks -/
/-! the best ones -/
end HW
set_option maxHeartbeats 4000000
namespace HW
open PySem PySem.Spec PyProof.Rows L2
open SX (S)
/-! ### x[::-1] of texts and lists -/
section
variable {X : Cx} {W : Wd} {Γ : List DV} {μ : Mu} {e : Expr} {p1 p2 p3 pos : Pos} {k : Nat} {l : List Nat} {ds : List PyData}
end
/-! ### a, b = a list of two -/
section
variable {X : Cx} {W : Wd} {Γ : List DV} {μ : Mu} {e : Expr} {rest : List Stmt} {D : Ends} {pos p1 p2 : Pos} {n1 n2 : Str} {P : PyData → Prop}
end
end HW
set_option maxHeartbeats 4000000
namespace HW
open PySem PySem.Spec PyProof.Rows L2
open SX (S)
section
variable {X : Cx} {i : Nat} {xs : List Nat}
end
theorem run_ifVJ {X : Cx} {W : Wd} {Γ : List DV} {μ : Mu} {c : Expr} {a b rest : List Stmt} {D : Ends} {pos : Pos} {A : Bool → Prop} (Φ : List DV → Mu → Prop) (hc : EvT X W Γ μ c A) (h1 : A true → Run X W Γ μ a { D with nx := StP X.K W Φ }) (h2 : A false → Run X W Γ μ b { D with nx := StP X.K W Φ }) (hr : ∀ Γ' μ', Φ Γ' μ' → Run X W Γ' μ' rest D) : Run X W Γ μ (.If c a b pos :: rest) D :=
  have on : ∀ σ H, StP X.K W Φ σ H → wSs X rest D σ H := fun σ H ⟨Γ', μ', p, R⟩ => hr Γ' μ' p σ H R
  run_ifV hc (fun q => (h1 q).mono on (fun _ _ z => z) (fun _ _ z => z) (fun _ _ z => z)) (fun q => (h2 q).mono on (fun _ _ z => z) (fun _ _ z => z) (fun _ _ z => z))
theorem mask_128 {m : List Nat} (h : maskB m = true) : ∀ c ∈ m, c < 128 := by
  unfold maskB at h
  simp only [Bool.and_eq_true, decide_eq_true_eq, List.all_eq_true] at h
  intro c hc
  have := h.1.1.2 c hc
  simp at this
  omega
/-! ### unlike -/
/-! ### the law's small masks -/
theorem open_get {m : List Nat} {i : Nat} : i ∈ openL m ↔ i < m.length ∧ m[i]? = some 120 := by
  unfold openL
  rw [List.mem_filter, List.mem_range, decide_eq_true_eq, List.getD_eq_getElem?_getD]
  constructor
  · rintro ⟨h1, h2⟩
    rw [List.getElem?_eq_getElem h1] at h2 ⊢
    exact ⟨h1, congrArg some h2⟩
  · rintro ⟨h1, h2⟩
    rw [h2]
    exact ⟨h1, rfl⟩
theorem open_sorted (m : List Nat) : (openL m).Pairwise (· < ·) := by
  unfold openL
  exact List.Pairwise.filter _ List.pairwise_lt_range
theorem open_head {m : List Nat} (h : maskB m = true) : (openL m)[0]? = some 0 := by
  have h1 := maskB_pos h
  have h0 : 0 ∈ openL m := open_get.mpr ⟨h1, by
    unfold maskB at h
    simp only [Bool.and_eq_true, decide_eq_true_eq] at h
    exact h.1.2⟩
  have hs := open_sorted m
  cases e : openL m with
  | nil => rw [e] at h0; cases h0
  | cons a l =>
    rw [e] at h0 hs
    rcases List.mem_cons.mp h0 with z | z
    · rw [← z]; rfl
    · have := (List.pairwise_cons.mp hs).1 0 z
      omega
end HW
set_option maxHeartbeats 4000000
namespace HW
open PySem PySem.Spec PyProof.Rows L2
open SX (S)
/-! ### rows whose views differ much -/
section
variable {X : Cx} {ds : List PyData}
/-- x[:-1] -/
theorem s_listI {z : Int} (e : z = -1) (h : 1 ≤ ds.length) : SlD X (.list ds) none (some z) (.list ds.dropLast) := by
  have h1 := s_list (X := X) (ds := ds) (lo := none) (hi := some z)
  subst e
  have e1 : HT.sIx ds.length ds.length (some (-1)) = ds.length - 1 := by
    unfold HT.sIx
    simp
    omega
  rw [HT.sIx_none, e1, List.drop_zero, Nat.sub_zero] at h1
  rw [List.dropLast_eq_take]
  exact h1
end
theorem views_128 {l m : List Nat} (h : ∀ x ∈ l, x < 128) : ∀ v ∈ viewsL l m, ∀ c ∈ v, c < 128 := by
  intro v hv c hc
  unfold viewsL viewL at hv
  obtain ⟨p, _, rfl⟩ := List.mem_map.mp hv
  obtain ⟨a, _, rfl⟩ := List.mem_map.mp hc
  rw [List.getD_eq_getElem?_getD]
  cases e : l[p + a]? with
  | none => decide
  | some x => exact h x (List.mem_of_getElem? e)
end HW
set_option maxHeartbeats 4000000
namespace HW
open PySem PySem.Spec PyProof.Rows L2
open SX (S)
/-! ### shorter turns -/
theorem wk_n : wk [] [] := trivial
theorem wk_s {a : DV} {as bs : List DV} (h : wk as bs) : wk (a :: as) (a :: bs) := ⟨.inr rfl, h⟩
theorem wk_0 {a : DV} {as bs : List DV} (h : wk as bs) : wk (a :: as) (.no :: bs) := ⟨.inl rfl, h⟩
/-- a state that has Γ' and μ' -/
def Stt (K : PySem.W.Frag) (W : Wd) (Γ' : List DV) (μ' : Mu) : L2.St → Hp → Prop := StP K W (fun Γ μ => wk Γ Γ' ∧ μ = μ')
section
variable {X : Cx} {W : Wd} {Γ Γ' : List DV} {μ μ' : Mu} {α : Type} {iter : Expr} {a b body rest : List Stmt} {pos p : Pos} {enc : α → PyData} {D : Ends} {n : Str} {c : Expr}
/-- the end of a turn, a branch -/
theorem run_e {rt : VK} {bk ct : L2.St → Hp → Prop} (hm : μ = μ' := by rfl) (w : wk Γ Γ' := by repeat (first | exact wk_n | refine wk_s ?_ | refine wk_0 ?_)) : Run X W Γ μ [] ⟨Stt X.K W Γ' μ', rt, bk, ct⟩ := run_turn rfl ⟨w, hm⟩
/-- for n in iter: before turn i the state is Γ0 i, μ0 i -/
theorem run_forS {xs : List α} (k : Nat) (hi : IterD X W Γ μ (.Name n p) iter enc xs) (Γ0 : Nat → List DV) (μ0 : Nat → Mu)
    (hs : ∀ W1, Wle W W1 → ∀ i x, xs[i]? = some x → Run X W1 ((Γ0 i).set k (.d (enc x))) (μ0 i) body { D with nx := Stt X.K W1 (Γ0 (i + 1)) (μ0 (i + 1)), ct := Stt X.K W1 (Γ0 (i + 1)) (μ0 (i + 1)), bk := wSs X rest D })
    (hd' : Run X W (Γ0 xs.length) (μ0 xs.length) rest D) (hN : X.N.Nodup) (hk : ∀ i, (Γ0 i)[k]? = some .no := by intro _; rfl) (hm : μ = μ0 0 := by first | rfl | (simp; done)) (w : wk Γ (Γ0 0) := by repeat (first | exact wk_n | refine wk_s ?_ | refine wk_0 ?_)) (hn : X.N[k]? = some n := by rfl) (hx : Loc X.env.scope n := by first | exact Or.inl rfl | exact Or.inr rfl) (hff : X.fn n = true ∨ X.env.scope.names.lookup n = some .local := by first | exact .inr rfl | exact .inl rfl)
    (hp : PassesOwn (model X.prog X.w) X.A X.env X.xe := by exact PassesOwn.never) (hc : X.calm = true := by rfl) (hf : ∀ x, foldedSetIterable iter X.env x = pure x := by intro _; rfl) :
    Run X W Γ μ (.For (.Name n p) iter body [] pos :: rest) D :=
  run_for k hi (fun i Γ μ => wk Γ (Γ0 i) ∧ μ = μ0 i) ⟨w, hm⟩ (fun W1 l i x Γ' μ' h ⟨w', e⟩ => by
    subst e
    refine run_weak (hs W1 l i x h) ?_
    exact wk_set w' k) (fun Γ' μ' ⟨w', e⟩ => by
    subst e
    exact run_weak hd' w') hN hn hx hff hp hc hf
where
  wk_set : ∀ {Γ Γ' : List DV}, wk Γ Γ' → ∀ k {d : DV}, wk (Γ.set k d) (Γ'.set k d)
    | [], [], _, _, _ => trivial
    | a :: as, b :: bs, h, 0, d => ⟨.inr rfl, h.2⟩
    | a :: as, b :: bs, h, k + 1, d => ⟨h.1, wk_set h.2 k⟩
/-- if, both ways on to one state -/
theorem run_ifS {k : Bool} (Γ1 : List DV) (μ1 : Mu) (hc : EdT X W Γ μ c k) (h1 : k = true → Run X W Γ μ a { D with nx := Stt X.K W Γ1 μ1 }) (h2 : k = false → Run X W Γ μ b { D with nx := Stt X.K W Γ1 μ1 }) (hr : Run X W Γ1 μ1 rest D) : Run X W Γ μ (.If c a b pos :: rest) D :=
  run_ifJ (fun Γ μ => wk Γ Γ1 ∧ μ = μ1) hc h1 h2 fun Γ' μ' ⟨w, e⟩ => by
    subst e
    exact run_weak hr w
end
/-! ### len and the like, short -/
section
variable {X : Cx} {W : Wd} {Γ : List DV} {μ : Mu} {a : Expr} {pos p : Pos} {l : List Nat} {ds : List PyData}
theorem lenS (G : Gs X.mg) (h : Ed X W Γ μ a (sD l)) (hl : l.length ≤ 16777216 := by omega) (hg : Gl X "len" := by rfl) (he : starEach [a] X.env = (false, eval a X.env) :: starEach [] X.env := by rfl) : Ed X W Γ μ (.Call (.Name "len" p) [a] [] pos) (nn l.length) := ed_callB G.len boot_len (ea_cons h ea_nil he) (c_lenS hl) hg (he := he)
theorem lenL (G : Gs X.mg) (h : Ed X W Γ μ a (.list ds)) (hg : Gl X "len" := by rfl) (he : starEach [a] X.env = (false, eval a X.env) :: starEach [] X.env := by rfl) : Ed X W Γ μ (.Call (.Name "len" p) [a] [] pos) (nn ds.length) := ed_callB G.len boot_len (ea_cons h ea_nil he) c_lenL hg (he := he)
theorem lenLw {ws : List (List Nat)} (G : Gs X.mg) (h : Ed X W Γ μ a (wD ws)) (hg : Gl X "len" := by rfl) (he : starEach [a] X.env = (false, eval a X.env) :: starEach [] X.env := by rfl) : Ed X W Γ μ (.Call (.Name "len" p) [a] [] pos) (nn ws.length) := (lenL G h hg he).to (by rw [List.length_map])
theorem lenT (G : Gs X.mg) (h : Ed X W Γ μ a (.tuple ds)) (hg : Gl X "len" := by rfl) (he : starEach [a] X.env = (false, eval a X.env) :: starEach [] X.env := by rfl) : Ed X W Γ μ (.Call (.Name "len" p) [a] [] pos) (nn ds.length) := ed_callB G.len boot_len (ea_cons h ea_nil he) c_lenT hg (he := he)
end
end HW
set_option maxHeartbeats 4000000
namespace HW
open PySem PySem.Spec PyProof.Rows L2
open SX (S)
/-! ### what it is to be told -/
/-! ### distances -/
theorem views_small (l m : List Nat) : ∀ v ∈ viewsL l m, v.length ≤ m.length := fun v hv => by
  unfold viewsL at hv
  obtain ⟨p, _, rfl⟩ := List.mem_map.mp hv
  rw [viewL_len]
  exact seenL_len m
end HW
set_option maxHeartbeats 4000000
namespace HW
open PySem PySem.Spec PyProof.Rows L2
open SX (S)
/-! ### methods of texts with one text: find, index, count -/
section
variable {X : Cx} {W : Wd} {Γ : List DV} {μ : Mu} {o e : Expr} {apos pos : Pos} {l : List Nat} {c : Nat}
end
/-! ### turned letters, masks with one place more open -/
theorem chgL_get (l : List Nat) (i c a : Nat) (hi : i < l.length) : (chgL l i c)[a]? = if a = i then some c else l[a]? := by
  unfold chgL
  by_cases h : a = i
  · subst h
    rw [if_pos rfl, List.getElem?_append_left (by simp; omega), List.getElem?_append_right (by simp; omega)]
    have : a - (l.take a).length = 0 := by simp; omega
    rw [this]
    rfl
  · rw [if_neg h]
    rcases Nat.lt_or_ge a i with q | q
    · rw [List.getElem?_append_left (by simp; omega), List.getElem?_append_left (by simp; omega), List.getElem?_take_of_lt q]
    · rw [List.getElem?_append_right (by simp; omega)]
      rw [List.getElem?_drop]
      congr 1
      simp
      omega
end HW
set_option maxHeartbeats 4000000
namespace HW
open PySem PySem.Spec PyProof.Rows L2
open SX (S)
open PySem.W (dataLt minD maxD AlikeAll AllAlike Sortable EachIs dataLe alike)
/-! ### the order of data: <, min, max, sorted -/
section
variable {X : Cx} {pins : List (Addr × Obj)} {σ : L2.St} {H : Hp} {s : Shared} {L : List Addr}
end
/-! sorted -/
section
variable {X : Cx}
end
/-! texts: the order is that of their signs -/
end HW
set_option maxHeartbeats 4000000
namespace HW
open PySem PySem.Spec PyProof.Rows L2
open SX (S)
/-! ### turns that carry a fact -/
section
variable {X : Cx} {W : Wd} {Γ Γ' : List DV} {μ μ' : Mu} {α : Type} {iter a b : Expr} {body rest : List Stmt} {pos p : Pos} {enc : α → PyData} {D : Ends} {n : Str} {c : Expr}
end
/-! ### rings -/
theorem Small.words {m : List Nat} {n k : Nat} (h : Small m n) (hk : k ≤ n ^ (seenL m).length) : (words n k).length ≤ 8388608 := by
  have h1 := h.pos
  exact Nat.le_trans (words_len h.hi k) (Nat.le_trans (Nat.pow_le_pow_right h.lo (by omega)) h.bound.1)
end HW
set_option maxHeartbeats 4000000
namespace HW
open PySem PySem.Spec PyProof.Rows L2
open SX (S)
open PySem.W (dataLt minD maxD AlikeAll AllAlike Sortable EachIs dataLe alike)
/-! ### pairs (number, text) in order -/
section
variable {X : Cx}
end
/-! ### "".join of signs that are drawn -/
section
variable {X : Cx} {W : Wd} {Γ : List DV} {μ : Mu} {α : Type} {iter elt o : Expr} {scope : Scope} {pos pos2 apos p : Pos} {enc : α → PyData} {n : Str} {P : List α → Prop} {Q : Nat → Prop}
theorem ev_joinN (k : Nat) (ho : Ed X W Γ μ o (.str (S []))) (hi : IterV X W Γ μ (.Name n p) iter enc P) (hz : ∀ xs, P xs → xs.length ≤ 100000)
    (he : ∀ xs, P xs → ∀ x ∈ xs, ∀ W1, Wle W W1 → ∀ s H C cl fp, Ev (blkOf X scope s H C cl fp) W1 ((wipeD [k] Γ).set k (.d (enc x))) μ elt (fun z => ∃ c, z = sg c ∧ Q c)) (hN : X.N.Nodup) (hn : X.N[k]? = some n := by rfl)
    (hv : ∀ s H C cl fp, Loc (blkOf X scope s H C cl fp).env.scope n := by intro _ _ _ _ _; first | exact Or.inl rfl | exact Or.inr rfl) (hf : ∀ s H C cl fp, (blkOf X scope s H C cl fp).fn n = true ∨ (blkOf X scope s H C cl fp).env.scope.names.lookup n = some .local := by intro _ _ _ _ _; first | exact .inr rfl | exact .inl rfl) (hb : BlkOk X.N X.env.scope scope [(n, k)] := by exact blkOk_by (by kernel_rfl))
    (hc : X.calm = true := by rfl) (hfs : ∀ x, foldedSetIterable iter X.env x = pure x := by intro _; rfl)
    (hs : starEach [.ListComp elt [⟨.Name n p, iter, [], 0⟩] scope pos2] X.env = [(false, eval (.ListComp elt [⟨.Name n p, iter, [], 0⟩] scope pos2) X.env)] := by rfl) (hbase : attributeBase o "join" X.env (eval o X.env) = eval o X.env := by rfl) (hline : (apos.endLine == pos.line) = true := by rfl) :
    Ev X W Γ μ (.Call (.Attribute o "join" apos) [.ListComp elt [⟨.Name n p, iter, [], 0⟩] scope pos2] [] pos) (fun d => ∃ cs : List Nat, d = sD cs ∧ (∀ c ∈ cs, Q c) ∧ ∃ xs, P xs ∧ cs.length = xs.length) := by
  have h := (lcNV (E := fun _ z => ∃ c, z = sg c ∧ Q c) (elt := elt) (scope := scope) k hi (fun xs px => Nat.le_trans (hz xs px) (by decide)) he hN hn hv hf hb).ev (pos := pos2) hN hc hfs
  refine ev_joinC (Ws := fun cs => (∀ c ∈ cs, Q c) ∧ ∃ xs, P xs ∧ cs.length = xs.length) ho (h.imp fun d ⟨ys, e, xs, px, hp⟩ => ?_) (fun cs ⟨_, xs, px, e⟩ => by have := hz xs px; omega) hs hbase hline
  obtain ⟨cs, e2, h3⟩ := paired_sg hp
  refine ⟨cs, by rw [e, e2], h3, xs, px, ?_⟩
  have := plen hp
  rw [e2, List.length_map] at this
  exact this.symm
/-- "ab"[draw] and the like -/
theorem ev_sgn {e i : Expr} {pos : Pos} (l : List Nat) (hl : l.length ≤ 1000) (he : Ed X W Γ μ e (sD l)) (hi : Ev X W Γ μ i (fun d => ∃ q : Nat, d = nn q ∧ q < l.length)) (hs : PlainIx i := by exact fun _ _ => rfl) : Ev X W Γ μ (.Subscript e i pos) (fun z => ∃ c, z = sg c ∧ c ∈ l) := ev_sign l hl he hi hs
end
/-! ### mending -/
end HW
set_option maxHeartbeats 4000000
namespace HW
open PySem PySem.Spec PyProof.Rows L2
open SX (S)
open PySem.W (dataLt minD maxD AlikeAll AllAlike Sortable EachIs dataLe alike)
/-! ### a list in strict order is the sorted one -/
/-! ### looks -/
def lookB (m t : List Nat) : Bool := decide (t.length = (seenL m).length) && t.all fun c => decide (c ∈ [97, 98, 99, 100, 63])
def missN (v t : List Nat) : Nat := ((v.zip t).filter fun q => decide (q.2 ≠ 63) && decide (q.1 ≠ q.2)).length
def R_is_view (ds : List PyData) (d : PyData) : Prop := ∃ m t : List Nat, ds = [sD m, sD t] ∧ m.length ≤ 4000 ∧ lookB m t = true ∧ d = .bool true
def R_misses (ds : List PyData) (d : PyData) : Prop := ∃ v t : List Nat, ds = [sD v, sD t] ∧ v.length ≤ 4000 ∧ t.length ≤ 4000 ∧ d = nn (missN v t)
def R_lmisses (ds : List PyData) (d : PyData) : Prop := ∃ v t : List Nat, ds = [sD v, sD t] ∧ v.length ≤ 4000 ∧ v.length = t.length ∧ d = nn (missN v t)
theorem miss_law (v t : List Nat) (h : v.length = t.length) : ((List.range v.length).filter fun i => decide (t.getD i 0 ≠ 63) && decide (t.getD i 0 ≠ v.getD i 0)).length = missN v t := by
  unfold missN
  have e : v.zip t = (List.range v.length).map fun i => (v.getD i 0, t.getD i 0) := by
    apply List.ext_getElem?
    intro i
    rw [List.getElem?_map]
    by_cases hi : i < v.length
    · have hb : i < t.length := by omega
      rw [List.getElem?_range hi, List.getElem?_eq_getElem (by simp; omega), List.getElem_zip]
      show some (v[i], t[i]) = some (v.getD i 0, t.getD i 0)
      rw [List.getD_eq_getElem?_getD, List.getD_eq_getElem?_getD, List.getElem?_eq_getElem hi, List.getElem?_eq_getElem hb]
      rfl
    · rw [List.getElem?_eq_none (by simp; omega), List.getElem?_eq_none (by simp; omega)]
      rfl
  rw [e, List.filter_map, List.length_map]
  congr 1
  refine List.filter_congr fun i _ => ?_
  show _ = (decide (t.getD i 0 ≠ 63) && decide (v.getD i 0 ≠ t.getD i 0))
  congr 1
  exact decide_eq_decide.mpr ⟨fun h e => h e.symm, fun h e => h e.symm⟩
theorem lookB_iff {m t : List Nat} : lookB m t = true ↔ t.length = (seenL m).length ∧ ∀ c ∈ t, c = 63 ∨ 97 ≤ c ∧ c < 101 := by
  unfold lookB
  rw [Bool.and_eq_true, decide_eq_true_iff, List.all_eq_true]
  constructor
  · rintro ⟨h1, h2⟩
    exact ⟨h1, fun c hc => by have := of_decide_eq_true (h2 c hc); simp at this; omega⟩
  · rintro ⟨h1, h2⟩
    exact ⟨h1, fun c hc => decide_eq_true (by have := h2 c hc; simp; omega)⟩
def pre_look (ds : List PyData) : Prop := ∃ l m : List Nat, ds = [sD l, sD m] ∧ l.length ≤ 4000 ∧ lowL 4 l ∧ maskB m = true
def post_look (ds : List PyData) (d : PyData) : Prop := ∃ l m t : List Nat, ds = [sD l, sD m] ∧ d = sD t ∧ lookB m t = true
theorem maskB_seen {m : List Nat} (h : maskB m = true) : 1 ≤ (seenL m).length := by
  have h0 := open_head h
  rw [open_seen] at h0
  cases e : seenL m with
  | nil => rw [e] at h0; cases h0
  | cons a l => simp
theorem lookB_chg {m t : List Nat} {i c : Nat} (h : lookB m t = true) (hi : i < t.length) (hc : c = 63 ∨ 97 ≤ c ∧ c < 101) : lookB m (chgL t i c) = true := by
  obtain ⟨h1, h2⟩ := lookB_iff.mp h
  refine lookB_iff.mpr ⟨by rw [chgL_len t i c hi]; exact h1, fun x hx => ?_⟩
  obtain ⟨a, ha⟩ := List.mem_iff_getElem?.mp hx
  rw [chgL_get t i c a hi] at ha
  by_cases q : a = i
  · rw [if_pos q] at ha
    rw [← Option.some.inj ha]
    exact hc
  · rw [if_neg q] at ha
    exact h2 x (List.mem_of_getElem? ha)
theorem lookB_view {l m : List Nat} {p : Nat} (hl : lowL 4 l) (h : p + m.length ≤ l.length) : lookB m (viewL l m p) = true := lookB_iff.mpr ⟨viewL_len l m p, fun c hc => .inr (by have := viewL_low hl h c hc; omega)⟩
/-! ### either way -/
abbrev Stand := Nat × Bool
def backL (l m : List Nat) (p : Nat) : List Nat := (seenL m).map fun a => l.getD (p - a) 0
def standAt (l m : List Nat) (p : Nat) : List (Stand × List Nat) := (if m.length ≤ p + 1 then [((p, false), backL l m p)] else []) ++ (if p + m.length ≤ l.length then [((p, true), viewL l m p)] else [])
end HW
set_option maxHeartbeats 4000000
namespace HW
open PySem PySem.Spec PyProof.Rows L2
open SX (S)
section
variable {X : Cx} {W : Wd} {Γ Γ' : List DV} {μ μ' : Mu} {α : Type} {iter : Expr} {body rest : List Stmt} {pos : Pos} {D : Ends}
/-- for n in iter, over whatever comes: Φ stays -/
theorem run_forV {n : Str} {p : Pos} {enc : α → PyData} {P : List α → Prop} (k : Nat) (hi : IterV X W Γ μ (.Name n p) iter enc P) (Φ : List DV → Mu → Prop) (h0 : Φ Γ μ)
    (hs : ∀ xs, P xs → ∀ W1, Wle W W1 → ∀ x ∈ xs, ∀ Γ' μ', Φ Γ' μ' → Run X W1 (Γ'.set k (.d (enc x))) μ' body { D with nx := StP X.K W1 Φ, ct := StP X.K W1 Φ, bk := wSs X rest D })
    (hd' : ∀ Γ' μ', Φ Γ' μ' → Run X W Γ' μ' rest D) (hN : X.N.Nodup) (hn : X.N[k]? = some n := by rfl) (hx : Loc X.env.scope n := by first | exact Or.inl rfl | exact Or.inr rfl) (hff : X.fn n = true ∨ X.env.scope.names.lookup n = some .local := by first | exact .inr rfl | exact .inl rfl)
    (hp : PassesOwn (model X.prog X.w) X.A X.env X.xe := by exact PassesOwn.never) (hc : X.calm = true := by rfl) (hf : ∀ x, foldedSetIterable iter X.env x = pure x := by intro _; rfl) :
    Run X W Γ μ (.For (.Name n p) iter body [] pos :: rest) D :=
  run_forG hi (tg_name k) (pg_name hN hn hx hff) (fun _ _ _ _ => trivial) (fun _ _ => Φ) (fun _ _ => h0) (fun xs px W1 l i x Γ' μ' h j => hs xs px W1 l x (List.mem_of_getElem? h) Γ' μ' j) (fun _ _ Γ' μ' j => hd' Γ' μ' j) hp hc hf
end
section
variable {X : Cx} {W : Wd} {Γ : List DV} {μ : Mu} {a b : Expr} {pos p p2 : Pos} {n : Str} {r scr : Addr} {ns : List Int} {k : Nat} {l m : List Nat}
/-- _law_look(_law_row, a, b) -/
theorem ev_look (F : Fd X.prog X.w X.K X.mg X.base k "_law_look" ["_law_row", "_law_line_here", "_law_mask_here"] (spW X.K pre_look post_look)) (hr : Room k X.A) (hrow : W.row = some (r, scr, ns)) (j : Nat) (ha : Ed X W Γ μ a (sD l)) (hb : Ed X W Γ μ b (sD m)) (hl : l.length ≤ 4000) (hlow : lowL 4 l) (hm : maskB m = true)
    (hi : Γ[j]? = some (.r r) := by rfl) (hN : X.N[j]? = some n := by rfl) (hv : Vis X.env.scope n := by first | exact Or.inl rfl | exact Or.inr (Or.inl rfl) | exact Or.inr (Or.inr rfl))
    (h1 : (n == ("__debug__" : Str)) = false := by decide) (h2 : (n == ("__classdict__" : Str)) = false := by decide) (hg : Gl X "_law_look" := by rfl)
    (he : starEach (.Name n p2 :: [a, b]) X.env = (false, eval (.Name n p2) X.env) :: starEach [a, b] X.env := by rfl) (hpl : (backTo pos (starEach [a, b] X.env)).any (·.1) = false := by rfl) (he2 : starEach [a, b] X.env = (false, eval a X.env) :: starEach [b] X.env := by rfl) (he3 : starEach [b] X.env = (false, eval b X.env) :: starEach [] X.env := by rfl) :
    Ev X W Γ μ (.Call (.Name "_law_look" p) (.Name n p2 :: [a, b]) [] pos) (fun d => ∃ t : List Nat, d = sD t ∧ lookB m t = true) :=
  (ev_draw F hr hrow j (A := fun ds => ds = [sD l, sD m]) ((ea_cons ha (ea_cons hb ea_nil he3) he2).ev rfl) (fun ds e => ⟨l, m, e, hl, hlow, hm⟩) hi hN hv h1 h2 hg (by decide) he hpl).imp fun d ⟨ds, e, hp⟩ => by
    obtain ⟨l', m', t, e2, e3, ht⟩ := hp
    rw [e] at e2
    have := PyData.str.inj (List.cons.inj (List.cons.inj e2).2).1
    rw [← S_inj this] at ht
    exact ⟨t, e3, ht⟩
end
/-! ### the first like ones -/
end HW
set_option maxHeartbeats 4000000
namespace HW
open PySem PySem.Spec PyProof.Rows L2
open SX (S)
/-! ### local dicts whose keys are numbers or texts -/
section
variable {κ : Type} [DecidableEq κ]
end
section
variable {κ : Type} [DecidableEq κ] {K : PySem.W.Frag} {H : Hp} {ks : List (κ × V)} {kvs : List (κ × PyData)} {k : κ} {v : V} {d : PyData}
end
section
variable {X : Cx} {W W0 : Wd} {Γ : List DV} {μ : Mu} {e b value : Expr} {rest : List Stmt} {D : Ends} {pos p p1 p2 pd pos' : Pos} {n n1 n2 : Str} {k : L2.Key} {kvs : List (L2.Key × PyData)} {l : Addr} {d y : PyData}
end
/-! ### xs.index(text); x or "a" -/
section
variable {X : Cx} {W : Wd} {Γ : List DV} {μ : Mu} {o e a b : Expr} {apos pos : Pos} {ws : List (List Nat)} {w : List Nat} {j : Nat}
end
/-! ### draws of great numbers -/
section
variable {X : Cx} {W : Wd} {Γ : List DV} {μ : Mu} {a : Expr} {pos p p2 : Pos} {n : Str} {r scr : Addr} {ns : List Int} {k : Nat}
end
end HW
set_option maxHeartbeats 4000000
namespace HW
open PySem PySem.Spec PyProof.Rows L2
open SX (S)
/-! ### rows without end -/
end HW
set_option maxHeartbeats 4000000
namespace HW
open PySem PySem.Spec PyProof.Rows L2
open SX (S)
/-! ### local lists: copied, read, written at a place -/
section
variable {X : Cx} {W W0 : Wd} {Γ : List DV} {μ : Mu} {e value i' : Expr} {rest : List Stmt} {D : Ends} {pos p p1 p2 pos' : Pos} {n : Str} {l : Addr} {d y : PyData} {ds ys : List PyData} {z : Int}
end
/-! ### rows put together -/
abbrev gL (f : List Nat) : PyData := .list (f.map sg)
end HW
set_option maxHeartbeats 4000000
namespace HW
open PySem PySem.Spec PyProof.Rows L2
open SX (S)
/-! ### enumerate over text, list or tuple -/
open Sem (wp) in
open AutoSeq1 (wpAny_loadPart') in
section
variable {X : Cx} {W : Wd} {Γ : List DV} {μ : Mu} {α : Type} {a : Expr} {pos p tpos : Pos} {elts : List Expr} {kk : Nat} {d : PyData} {enc : α → PyData} {xs : List α}
end
/-! ### looks laid -/
section
variable {X : Cx} {W : Wd} {Γ : List DV} {μ : Mu} {a b : Expr} {pos p p2 : Pos} {n : Str} {r scr : Addr} {ns : List Int} {k : Nat} {l m : List Nat}
end
end HW
set_option maxHeartbeats 4000000
namespace HW
open PySem PySem.Spec PyProof.Rows L2
open SX (S)
/-! ### sets whose table can be walked -/
/-- the table's places rise, and their order is the table's own -/
def WalkT (w : World) (t : SetTable) : Prop := Ris t.place.toList ∧ (w.params.followText "set-order" = true ∨ t.led = true)
theorem WalkT.off {w : World} {t : SetTable} (h : WalkT w t) : WalkT w { t with plain := false } := h
theorem WalkT.lay {w : World} {t : SetTable} (g : WalkT w t) (es : Array (Int × Value)) (h : Int) (x : Value) : WalkT w (layNew t es h x).2.1 := ⟨layNew_ris t es h x g.1, g.2.imp id fun e => (layNew_led t es h x).trans e⟩
section
variable {prog : Program} {w : World} {K : Type} [DecidableEq K] (knd : KeyKind prog w K)
/-- the elements es are the n keys of S -/
structure HasK (S : K → Bool) (n : Nat) (es : Array (Int × Value)) (t : SetTable) : Prop where
  els : ElemsOf knd es.toList
  mem : ∀ k, S k = true ↔ ∃ e ∈ es.toList, knd.is k e.2 = true
  few : es.size < scanBound
  fits : t.fits es.size = true
  num : es.size = n
  walk : WalkT w t
def SetG (h : Heap) (a : Addr) (S : K → Bool) (n : Nat) : Prop := ∃ o es ep t, h.get? a = some o ∧ o.ExactSet ∧ o.data = .set es ep t ∧ HasK knd S n es t
variable {knd}
theorem SetG.keep {h h' : Heap} {a : Addr} {S : K → Bool} {n : Nat} (g : SetG knd h a S n) (k : ∀ o, h.get? a = some o → h'.get? a = some o) : SetG knd h' a S n :=
  let ⟨o, es, ep, t, ho, r⟩ := g; ⟨o, es, ep, t, k o ho, r⟩
theorem SetG.eq {h : Heap} {a : Addr} {S S' : K → Bool} {n n' : Nat} (g : SetG knd h a S n) (e : ∀ k, S k = S' k) (en : n = n') : SetG knd h a S' n' := by
  have : S = S' := funext e
  subst this
  subst en
  exact g
theorem SetG.fresh {h : Heap} : SetG knd (h.push { cls := .type "set", dict := none, data := .set #[] 0 (.fresh 0 0 (!w.params.followText "set-order")) }) h.objs.size (fun _ => false) 0 :=
  ⟨_, #[], 0, _, Heap.get?_push_size _ rfl, ⟨rfl, rfl, rfl⟩, rfl, { els := fun e he => by simp at he, mem := fun k => by simp, few := by decide, fits := by rfl, num := rfl, walk := ⟨List.Pairwise.nil, by
    show _ ∨ (!w.params.followText "set-order") = true
    cases w.params.followText "set-order"
    · exact .inr rfl
    · exact .inl rfl⟩ }⟩
/-- the elements in another order, under another table -/
theorem HasK.perm {S : K → Bool} {n : Nat} {es es' : Array (Int × Value)} {t t' : SetTable} (g : HasK knd S n es t) (p : es'.toList.Perm es.toList) (hf : t'.fits es'.size = true) (hw : WalkT w t') : HasK knd S n es' t' := by
  have hz : es'.size = es.size := by rw [← Array.length_toList, p.length_eq, Array.length_toList]
  exact { els := g.els.perm p, mem := fun k => (g.mem k).trans ⟨fun ⟨e, he, q⟩ => ⟨e, p.mem_iff.mpr he, q⟩, fun ⟨e, he, q⟩ => ⟨e, p.mem_iff.mp he, q⟩⟩, few := by rw [hz]; exact g.few, fits := hf, num := hz.trans g.num, walk := hw }
/-- one more -/
theorem HasK.push {S : K → Bool} {n : Nat} {es es' : Array (Int × Value)} {t t' : SetTable} {k : K} {x : Value} (g : HasK knd S n es t) (hk : knd.is k x = true) (hx : x.scannable = true) (p : es'.toList.Perm (es.toList ++ [(knd.hash k, x)])) (hf : t'.fits es'.size = true) (hw : WalkT w t') (hn : n + 1 < scanBound) :
    HasK knd (fun j => S j || decide (j = k)) (n + 1) es' t' := by
  have hz : es'.size = n + 1 := by rw [← Array.length_toList, p.length_eq, List.length_append, Array.length_toList, g.num]; rfl
  exact { els := (g.els.push hk hx).perm p, mem := mem_push_iff hk g.mem p, few := by rw [hz]; exact hn, fits := hf, num := hz, walk := hw }
section
variable {A : Around} {E : Value → Shared → Prop} {s : Shared} {a : Addr} {S : K → Bool} {n : Nat}
end
end
section
variable {prog : Program} {w : World} {K : Type} [DecidableEq K] {knd : KeyKind prog w K} {A : Around} {R : Result → Shared → Prop} {I : Addr} {fp wr : List Addr} {G : Array GenState → Array GenState → Prop} {n : Nat} {P : Nat → Value → Prop} {St : Nat → Shared → Prop}
end
section
variable {prog : Program} {w : World} {K : Type} [DecidableEq K] {knd : KeyKind prog w K} {A : Around} {E : Value → Shared → Prop} {s : Shared}
end
end HW
set_option maxHeartbeats 4000000
namespace HW
open PySem PySem.Spec PyProof.Rows L2
open SX (S)
open PySem.W (dataLt AlikeAll AllAlike Sortable EachIs dataLe alike)
/-! ### sorted(set(texts)) -/
theorem map_sD_inj : ∀ {a b : List (List Nat)}, a.map sD = b.map sD → a = b
  | [], [], _ => rfl
  | [], _ :: _, e => nomatch e
  | _ :: _, [], e => nomatch e
  | x :: a, y :: b, e => by
    rw [List.map_cons, List.map_cons] at e
    rw [S_inj (PyData.str.inj (List.cons.inj e).1), map_sD_inj (List.cons.inj e).2]
section
variable {prog : Program} {w : World} {A : Around} {E : Value → Shared → Prop} {s : Shared}
theorem EachIs.find {R : Value → List Nat → Prop} : ∀ {vs : List Value} {bs : List (List Nat)}, EachIs R vs bs → ∀ v ∈ vs, ∃ b ∈ bs, R v b
  | _, _, .nil, v, h => nomatch h
  | _, _, .cons h t, v, hv => by
    rcases List.mem_cons.mp hv with e | hv
    · exact ⟨_, List.mem_cons_self, e ▸ h⟩
    · obtain ⟨b, hb, q⟩ := EachIs.find t v hv
      exact ⟨b, List.mem_cons_of_mem _ hb, q⟩
theorem EachIs.len {R : Value → List Nat → Prop} : ∀ {vs : List Value} {bs : List (List Nat)}, EachIs R vs bs → vs.length = bs.length
  | _, _, .nil => rfl
  | _, _, .cons _ t => congrArg (· + 1) (EachIs.len t)
end
section
variable {X : Cx} {W : Wd} {Γ : List DV} {μ : Mu} {a : Expr} {p p2 q pos : Pos} {ws : List (List Nat)}
end
end HW
set_option maxHeartbeats 4000000
namespace HW
open PySem PySem.Spec PyProof.Rows L2
open SX (S)
/-! ### s.count(sign) -/
section
variable {X : Cx} {W : Wd} {Γ : List DV} {μ : Mu} {o e : Expr} {apos pos : Pos} {l : List Nat} {c : Nat}
end
/-! ### rows some letters of which were not read -/
end HW
set_option maxHeartbeats 4000000
namespace HW
open PySem PySem.Spec PyProof.Rows L2
open SX (S)
section
variable {X : Cx} {W : Wd} {Γ Γ' : List DV} {μ μ' : Mu} {α : Type} {iter : Expr} {body rest : List Stmt} {pos : Pos} {D : Ends}
end
/-! ### patterns drawn -/
section
variable {X : Cx} {W : Wd} {Γ : List DV} {μ : Mu} {a b c : Expr} {pos p p2 : Pos} {n : Str} {r scr : Addr} {ns : List Int} {k : Nat} {l m : List Nat}
end
end HW
set_option maxHeartbeats 4000000
namespace HW
open PySem PySem.Spec PyProof.Rows L2
open SX (S)
/-! ### rings turned and read back -/
/-! ### rings in order, and back -/
/-! ### how many -/
end HW
set_option maxHeartbeats 4000000
namespace HW
open PySem PySem.Spec PyProof.Rows L2
open SX (S)
end HW
set_option maxHeartbeats 4000000
namespace HX
open PySem PySem.Spec PyProof.Rows L2 He
/-! the head's Hook with the model's own table of statics -/
def asS (g : Addr → Option Obj) (n : Nat) : List Addr := asD g n ++ [cStatics]
end HX
namespace HW
open PySem PySem.Spec PyProof.Rows L2
open SX (S)
/-! ### exception classes of the program -/
/-- the j-th statement of a class -/
def clsM (st : Stmt) (j : Nat) : Stmt := match st with
  | .ClassDef _ _ _ body _ _ _ _ _ _ _ => body.getD j (.Pass ⟨0, 0, 0, 0⟩)
  | s => s
def oexB (K : PySem.W.Frag) (C : Addr) : Bool := match K.lookup C with
  | some ⟨.type "type", _, .cls cd, sl⟩ => (match cd.mro, sl.toList with
    | .ref C' :: bm, [_, _, _, _, some (.builtin n), _] => C' == C && n == "ValueError.__new__" && !cd.hasDel && cd.hasDict && PySem.HandSPX.refsVE bm
    | _, _ => false)
  | _ => false
theorem oexB_ok {K : PySem.W.Frag} {C : Addr} (q : oexB K C = true) : ∃ nm q N bs bm sn sub ab col dd k0 k1 k2 k3 k5, K.lookup C = some (excClassObj nm q C N bs bm true sn sub ab col dd k0 k1 k2 k3 k5 "ValueError.__new__") ∧ PySem.HandSPX.refsVE bm = true := by
  unfold oexB at q
  split at q
  · rename_i dd cd sl ho
    split at q
    · rename_i C' bm k0 k1 k2 k3 n k5 hm hs
      simp only [Bool.and_eq_true, beq_iff_eq, Bool.not_eq_true'] at q
      obtain ⟨⟨⟨⟨h1, h2⟩, h3⟩, h4⟩, h5⟩ := q
      subst h1
      subst h2
      obtain ⟨nm, bs, mro, ns, qn, hd, sn, sub, ab, col, del⟩ := cd
      dsimp only at hm h3 h4
      subst hm h3 h4
      have hsl : sl = #[k0, k1, k2, k3, some (.builtin "ValueError.__new__"), k5] := by
        obtain ⟨l⟩ := sl
        simp only at hs
        rw [hs]
      subst hsl
      exact ⟨nm, qn, ns, bs, bm, sn, sub, ab, col, dd, k0, k1, k2, k3, k5, ho, h5⟩
    · cases q
  · cases q
/-- the class x: raised, made by its own __init__, its fields read -/
structure ExF (K : PySem.W.Frag) (mg : Str → Option Value) (x : Str) : Prop where
  g : mg x = some (.ref (He.ga K x))
  oex : OexC K (He.ga K x)
  ini : PySem.W.findIn K (.ref (He.ga K x)) "__init__" = some (some (.ref (He.ma K (He.ga K x) "__init__")))
  ty : PySem.W.typeIn K (.ref (He.ma K (He.ga K x) "__init__")) = some (.type "function")
  xf : XfC K (He.ga K x)
def exfB (x : Str) (K : PySem.W.Frag) : Bool := He.eqO (PySem.W.nsIn K mainGlobals x) (some (some (.ref (He.ga K x)))) && (oexB K (He.ga K x) && (He.eqO (PySem.W.findIn K (.ref (He.ga K x)) "__setattr__") (some (some (.builtin "object.__setattr__"))) && (decide (PySem.W.subIn K (.ref (He.ga K x)) (.type "BaseException") = some true) &&
  (decide (PySem.W.typeIn K (.ref (He.ga K x)) = some (.type "type")) && (PySem.W.keepIn K (.ref (He.ga K x)) && (He.eqO (PySem.W.findIn K (.ref (He.ga K x)) "__init__") (some (some (.ref (He.ma K (He.ga K x) "__init__")))) && (decide (PySem.W.typeIn K (.ref (He.ma K (He.ga K x) "__init__")) = some (.type "function")) && xfB K (He.ga K x))))))))
theorem exfB_ok {K : PySem.W.Frag} {h : Heap} {mg : Str → Option Value} {x : Str} (X : K.In h) (G : h.Ns mainGlobals mg) (c : exfB x K = true) : ExF K mg x := by
  unfold exfB at c
  obtain ⟨h1, c⟩ := Bool.and_eq_true_iff.mp c
  obtain ⟨h2, c⟩ := Bool.and_eq_true_iff.mp c
  obtain ⟨h3, c⟩ := Bool.and_eq_true_iff.mp c
  obtain ⟨h4, c⟩ := Bool.and_eq_true_iff.mp c
  obtain ⟨h5, c⟩ := Bool.and_eq_true_iff.mp c
  obtain ⟨h6, c⟩ := Bool.and_eq_true_iff.mp c
  obtain ⟨h7, c⟩ := Bool.and_eq_true_iff.mp c
  obtain ⟨h8, c⟩ := Bool.and_eq_true_iff.mp c
  exact ⟨PySem.W.mg_of X G (He.eqO_ok h1), ⟨oexB_ok h2, He.eqO_ok h3, of_decide_eq_true h4, of_decide_eq_true h5, h6⟩, He.eqO_ok h7, of_decide_eq_true h8, xfB_ok c⟩
/-- the class x is asked for its __init__, which is ValueError's -/
structure BaseF (K : PySem.W.Frag) (mg : Str → Option Value) (x : Str) : Prop where
  g : mg x = some (.ref (He.ga K x))
  rd : PySem.W.readsIn K (He.ga K x) (.type "type") = true
  ga : PySem.W.specialIn K (.ref (He.ga K x)) "__getattribute__" = some (some (.builtin "type.__getattribute__"))
  at_ : PySem.W.findCls K (.ref (He.ga K x)) (.type "type") "__init__" = some (.val (.builtin "ValueError.__init__"))
def baseB (x : Str) (K : PySem.W.Frag) : Bool := He.eqO (PySem.W.nsIn K mainGlobals x) (some (some (.ref (He.ga K x)))) && (PySem.W.readsIn K (He.ga K x) (.type "type") && (He.eqO (PySem.W.specialIn K (.ref (He.ga K x)) "__getattribute__") (some (some (.builtin "type.__getattribute__"))) &&
  (match PySem.W.findCls K (.ref (He.ga K x)) (.type "type") "__init__" with
    | some (.val (.builtin n)) => n == "ValueError.__init__"
    | _ => false)))
theorem baseB_ok {K : PySem.W.Frag} {h : Heap} {mg : Str → Option Value} {x : Str} (X : K.In h) (G : h.Ns mainGlobals mg) (c : baseB x K = true) : BaseF K mg x := by
  unfold baseB at c
  obtain ⟨h1, c⟩ := Bool.and_eq_true_iff.mp c
  obtain ⟨h2, c⟩ := Bool.and_eq_true_iff.mp c
  obtain ⟨h3, c⟩ := Bool.and_eq_true_iff.mp c
  refine ⟨PySem.W.mg_of X G (He.eqO_ok h1), h2, He.eqO_ok h3, ?_⟩
  split at c
  · rename_i n e
    rw [e, beq_iff_eq.mp c]
  · cases c
/-! ### Base.__init__(self, ..) -/
section
variable {X : Cx} {e : Expr} {es : List Expr} {ta : TA} {p1 p2 pos : Pos} {x : Str}
theorem pe_baseInit {pl : Sem Bool} (B : BaseF X.K X.mg x) (hg : Gl X x) (ha : PA X (e :: es) ta) (hdb : (x == ("__debug__" : Str)) = false := by decide)
    (hc : eval (.Call (.Attribute (.Name x p1) "__init__" p2) (e :: es) [] pos) X.env = (do
      let ov ← eval (.Name x p1) X.env
      PySem.standAt p2.atName
      let (f, first) ← holding [ov] (getMethod ov "__init__" pl)
      callWith pos f first (backTo pos (starEach (e :: es) X.env)) (backToKw pos (keywordEach [] X.env))) := by rfl)
    (he : starEach (e :: es) X.env = (false, eval e X.env) :: starEach es X.env := by rfl) (hpl : (backTo pos (starEach es X.env)).any (·.1) = false := by rfl) :
    PE X (.Call (.Attribute (.Name x p1) "__init__" p2) (e :: es) [] pos) (tVeI X.K ta) := by
  refine ⟨fun pins s σ H Q I h => ?_⟩
  refine PySem.W.methodCall_KW (ld_glob I hg B.g ?_ hdb) hc
  refine PySem.W.method_cls I.kIn B.ga (PySem.W.cls_value I.kIn B.rd B.at_ (by decide +kernel) ?_)
  show wpAny _ _ (callWith pos (Value.builtin "ValueError.__init__") [] (backTo pos (starEach (e :: es) X.env)) []) _ _ _
  refine PyProof.Rows.callWith_method1 (thn (ha.run pos pins _ σ H _ (I.tok _) h) fun us s1 ⟨vs, H1, I1, r1, a, C, ws, ev, hl, T, ea, q⟩ => ?_) he hpl
  subst ev
  cases r1 with
  | @cons _ u0 _ ur ra rw' =>
    obtain rfl : u0 = Value.ref a := ra
    have hlen : ur.length ≤ sizeLine := by
      rw [← Paired.length rw', sizeLine_eq]
      omega
    exact oinit_ok T I1 ea hlen fun s' J => ⟨.non, H1, J, rfl, q⟩
end
/-! ### the promises of __init__ -/
/-- an __init__ that stores nothing -/
def spI0 (K : PySem.W.Frag) (C : Addr) : Sp := fun vs H Q _ => ∃ a, vs = [.ref a] ∧ OexC K C ∧ H a = some (exo a C none) ∧ Q .non H
/-- an __init__ that stores its argument in the field f -/
def spI1 (K : PySem.W.Frag) (C : Addr) (f : Str) : Sp := fun vs H Q _ => ∃ a v, vs = [.ref a, v] ∧ OexC K C ∧ PySem.W.findIn K (.ref C) f = some none ∧ H a = some (exo a C none) ∧ ∀ dx, H dx = none → dx ≠ a → Q .non (upd (upd H dx (exd dx [(f, v)])) a (exo a C (some dx)))
section
variable {P : Program} {w : World} {K : PySem.W.Frag} {mg : Str → Option Value} {base : Heap} {x qual : Str} {params : Arguments} {scope : Scope} {f : Addr} {fd : FuncData} {k : Nat} {C : Addr}
theorem fn_init0 {msg : Str} {j : Nat} {p1 p2 p3 p4 p5 p6 : Pos} (F : FunD K x qual params [.Expr (.Call (.Attribute (.Name "WindowError" p1) "__init__" p2) [.Name "self" p3, .Constant (.str msg) j p4] [] p5) p6] scope [] [] f fd) (S : FnScope ["self"] ["self"] scope) (B : BaseF K mg "WindowError")
    (hg : ∀ cdv A outer s H E, Gl (cxOf CX0 P w K mg base ["self"] qual scope f cdv A outer s H E).nox "WindowError")
    (hv : ∀ cdv A outer s H E, Vis (cxOf CX0 P w K mg base ["self"] qual scope f cdv A outer s H E).nox.env.scope "self")
    (hc : ∀ cdv A outer s H E, ∃ pl : Sem Bool, eval (.Call (.Attribute (.Name "WindowError" p1) "__init__" p2) [.Name "self" p3, .Constant (.str msg) j p4] [] p5) (cxOf CX0 P w K mg base ["self"] qual scope f cdv A outer s H E).nox.env = (do
      let ov ← eval (.Name "WindowError" p1) (cxOf CX0 P w K mg base ["self"] qual scope f cdv A outer s H E).nox.env
      PySem.standAt p2.atName
      let (g, first) ← holding [ov] (getMethod ov "__init__" pl)
      callWith p5 g first (backTo p5 (starEach [.Name "self" p3, .Constant (.str msg) j p4] (cxOf CX0 P w K mg base ["self"] qual scope f cdv A outer s H E).nox.env)) (backToKw p5 (keywordEach [] (cxOf CX0 P w K mg base ["self"] qual scope f cdv A outer s H E).nox.env))))
    (hs : ∀ cdv A outer s H E, swapsWith (.Call (.Attribute (.Name "WindowError" p1) "__init__" p2) [.Name "self" p3, .Constant (.str msg) j p4] [] p5) none p6.line (cxOf CX0 P w K mg base ["self"] qual scope f cdv A outer s H E).nox.env = pure false) :
    FnOk P w K mg base CX0 (k + 1) f fd ["self"] (spI0 K C) := by
  refine F.ok S (fun vs H Q E ⟨a, e, _⟩ => by rw [e]; rfl) fun cdv A outer s H vs Q E hr ⟨a, e, T, ha, q⟩ => ?_
  obtain ⟨pl, hcc⟩ := hc cdv A outer s H E
  refine ⟨_, PSs.nox (pss_cons (ps_expr (pe_baseInit (pl := pl) B (hg cdv A outer s H E) (pa_cons (pe_var (i := 0) rfl (hv cdv A outer s H E) (by decide) (by decide)) (pa_cons pe_str pa_nil rfl) rfl) (by decide) hcc) (hs cdv A outer s H E)) pss_nil), ?_⟩
  subst e
  refine ⟨_, rfl, ?_⟩
  exact ⟨a, C, [V.str msg], rfl, (by show 1 ≤ 1000; decide), T, ha, q⟩
end
end HW
set_option maxHeartbeats 4000000
namespace HW
open PySem PySem.Spec PyProof.Rows L2
open SX (S)
/-! ### raise -/
/-- a class whose __init__ keeps one field, ready to be raised -/
structure Ex1 (P : Program) (w : World) (K : PySem.W.Frag) (mg : Str → Option Value) (base : Heap) (k : Nat) (x fld : Str) : Prop where
  f : ExF K mg x
  no : PySem.W.findIn K (.ref (He.ga K x)) fld = some none
  ini : ∃ fd, FnOk P w K mg base CX0 k (He.ma K (He.ga K x) "__init__") fd ["self", fld] (spI1 K (He.ga K x) fld) ∧ Binds K fd ["self", fld] []
/-- .. that keeps none -/
structure Ex0 (P : Program) (w : World) (K : PySem.W.Frag) (mg : Str → Option Value) (base : Heap) (k : Nat) (x : Str) : Prop where
  f : ExF K mg x
  ini : ∃ fd, FnOk P w K mg base CX0 k (He.ma K (He.ga K x) "__init__") fd ["self"] (spI0 K (He.ga K x)) ∧ Binds K fd ["self"] []
/-- what an exception is known by: its class, its field -/
def XO (K : PySem.W.Frag) (L : List Addr) (H0 H' : Hp) (x : Str) (fo : Option (Str × PyData)) (cls : Value) (d : Option Addr) : Prop := cls = .ref (He.ga K x) ∧ Same H0 H' ∧ match fo with
  | none => True
  | some (f, y) => ∃ dd v, d = some dd ∧ H0 dd = none ∧ H' dd = some (.xd [(f, v)]) ∧ Va K (off L H') v y
/-- a def that raises -/
def spX (K : PySem.W.Frag) (R : List PyData → Str → Option (Str × PyData) → Prop) : Sp := fun vs H Q E => ∃ (L : List Addr) (ds : List PyData) (x : Str) (fo : Option (Str × PyData)), (∀ a ∈ L, H a ≠ none) ∧ VaAll K (off L H) vs ds ∧ R ds x fo ∧ ∀ cls d H', XO K L H H' x fo cls d → E cls d H'
structure FdX (P : Program) (w : World) (K : PySem.W.Frag) (mg : Str → Option Value) (base : Heap) (k : Nat) (x : Str) (ps : List Str) (R : List PyData → Str → Option (Str × PyData) → Prop) : Prop where
  ex : ∃ (f : Addr) (fd : FuncData), FnOk P w K mg base (L2.CX P w) k f fd ps (spX K R) ∧ mg x = some (.ref f) ∧ PySem.W.keepIn K (.ref f) = true ∧ Binds K fd ps []
theorem Ex1.mono {P : Program} {w : World} {K : PySem.W.Frag} {mg : Str → Option Value} {base : Heap} {j k : Nat} {x fld : Str} (F : Ex1 P w K mg base j x fld) (h : j ≤ k) : Ex1 P w K mg base k x fld := by
  obtain ⟨fd, h1, h2⟩ := F.ini
  exact ⟨F.f, F.no, fd, h1.mono h, h2⟩
theorem Ex0.mono {P : Program} {w : World} {K : PySem.W.Frag} {mg : Str → Option Value} {base : Heap} {j k : Nat} {x : Str} (F : Ex0 P w K mg base j x) (h : j ≤ k) : Ex0 P w K mg base k x := by
  obtain ⟨fd, h1, h2⟩ := F.ini
  exact ⟨F.f, fd, h1.mono h, h2⟩
theorem FdX.mono {P : Program} {w : World} {K : PySem.W.Frag} {mg : Str → Option Value} {base : Heap} {j k : Nat} {x : Str} {ps : List Str} {R : List PyData → Str → Option (Str × PyData) → Prop} (F : FdX P w K mg base j x ps R) (h : j ≤ k) : FdX P w K mg base k x ps R := by
  obtain ⟨f, fd, h1, h2⟩ := F.ex
  exact ⟨f, fd, h1.mono h, h2⟩
theorem same_trans {a b c : Hp} (h1 : Same a b) (h2 : Same b c) : Same a c := fun x o e => h2 x o (h1 x o e)
section
variable {X : Cx} {W : Wd} {Γ : List DV} {μ : Mu} {a : Expr} {rest : List Stmt} {D : Ends} {y : PyData} {x fld : Str} {k : Nat} {p pos pos2 : Pos} {W0 : WX}
end
section
variable {P : Program} {w : World} {K : PySem.W.Frag} {mg : Str → Option Value} {base : Heap} {x qual : Str} {params : Arguments} {body : List Stmt} {scope : Scope} {f : Addr} {fd : FuncData} {N ps : List Str} {k : Nat}
end
end HW
set_option maxHeartbeats 4000000
namespace HW
open PySem PySem.Spec PyProof.Rows L2
open SX (S)
/-! ### calls that raise, try -/
theorem XO.down {K : PySem.W.Frag} {L L' : List Addr} {H0 H' : Hp} {x : Str} {fo : Option (Str × PyData)} {cls : Value} {d : Option Addr} (h : XO K L H0 H' x fo cls d) (hl : ∀ a ∈ L', a ∈ L) : XO K L' H0 H' x fo cls d := by
  obtain ⟨h1, h2, h3⟩ := h
  refine ⟨h1, h2, ?_⟩
  cases fo with
  | none => trivial
  | some fy =>
    obtain ⟨f, y⟩ := fy
    obtain ⟨dd, v, e1, e2, e3, e4⟩ := h3
    exact ⟨dd, v, e1, e2, e3, e4.up (same_offs hl)⟩
theorem slots_no {K : PySem.W.Frag} {H : Hp} {σ : L2.St} {Γ : List DV} (h : Slots K H σ Γ) (i : Nat) : Slots K H (σ.set i none) (Γ.set i .no) := ⟨by rw [List.length_set, List.length_set, h.len], fun j dv q => by
  by_cases e : i = j
  · subst e
    have hl : i < Γ.length := by
      have := (List.getElem?_eq_some_iff.mp q).1
      simpa using this
    rw [List.getElem?_set_self hl] at q
    cases q
    exact ⟨none, by rw [List.getElem?_set_self (by rw [h.len]; exact hl)], trivial⟩
  · rw [List.getElem?_set_ne e] at q ⊢
    exact h.at_ j dv q⟩
/-- evaluating e raises -/
def EdX (X : Cx) (W : Wd) (Γ : List DV) (μ : Mu) (e : Expr) : Prop := ∀ σ H, Rep X.K W Γ μ σ H → ∀ Q : VK, wE X e σ H Q
abbrev DF : Ends := { nx := fun _ _ => False, rt := fun _ _ => False, bk := fun _ _ => False, ct := fun _ _ => False }
section
variable {X : Cx} {W : Wd} {Γ : List DV} {μ : Mu} {e : Expr} {es : List Expr} {rest : List Stmt} {D : Ends} {ds : List PyData} {x f : Str} {fo : Option (Str × PyData)} {ps : List Str} {k : Nat} {p pos : Pos} {W0 : WX} {R : List PyData → Str → Option (Str × PyData) → Prop}
end
/-! ### try: .. except x as n: m = e -/
section
variable {X : Cx} {W : Wd} {Γ : List DV} {μ : Mu} {rest body : List Stmt} {D : Ends} {x xr n nm : Str} {fo : Option (Str × PyData)} {np pos pos' q1 q2 : Pos} {e0 : Expr} {y0 : PyData} {W0 : WX}
/-- what is known of the exception in its suite -/
structure Caught (X : Cx) (W W1 : Wd) (Γ : List DV) (μ : Mu) (xr : Str) (fo : Option (Str × PyData)) (a : Addr) (oe : Obj) (cls : Value) (d : Option Addr) : Prop where
  le : Wle W W1
  z : Zc cls d oe
  fields : ∃ vs, oe.data = .fields vs
  cls : cls = .ref (He.ga X.K xr)
  fld : match fo with
    | none => True
    | some (f, y) => ∃ dd v, d = some dd ∧ (∀ σ H (Γ' : List DV) (μ' : Mu), Rep X.K W1 Γ' μ' σ H → H dd = some (.xd [(f, v)]) ∧ Va X.K (off (hd W1 μ') H) v y)
end
end HW
set_option maxHeartbeats 4000000
namespace HW
open PySem PySem.Spec PyProof.Rows L2
open SX (S)
/-! ### what is refused -/
end HW
set_option maxHeartbeats 4000000
namespace HW
open PySem PySem.Spec PyProof.Rows L2
open SX (S)
/-! ### the least masks -/
end HW
set_option maxHeartbeats 4000000
namespace HW
open PySem PySem.Spec PyProof.Rows L2
open SX (S)
/-! ### rows counted -/
end HW
set_option maxHeartbeats 4000000
namespace HW
open PySem PySem.Spec PyProof.Rows L2
open SX (S)
/-! ### raise X() -/
section
variable {X : Cx}
theorem mk_endN {pins : List (Addr × Obj)} {σ : L2.St} {H1 H2 : Hp} {Q : XK} {hp hp2 h2 : Heap} {g1 g2 : Array GenState} {d1 d2 : Drawn} {t1 t2 : Nat} {os1 os2 : OsState} {a C : Addr} (T : Raises X (.ref C)) (I1 : Inv X pins σ H1 ⟨hp, g1, d1, t1, os1⟩)
    (ha : hp.objs.size ≤ a) (k : ∀ b o, hp.get? b = some o → hp2.get? b = some o) (un : Un (frs X.stack) [] (upd H1 a (exo a C none)) H2 hp2 h2) (hok : HOk X.prog X.w H2 h2) (ho : os2 = os1) (hb : AllBare g2)
    (ea : H2 a = some (exo a C none)) (q : Q (.ref C) none (del H2 a)) : MkP X pins σ Q (.ref a) ⟨h2, g2, d2, t2, os2⟩ := by
  obtain ⟨t0, hoe⟩ := exo_at hok ea
  have hn : H1 a = none := I1.hok.fresh ha
  obtain ⟨G, g1', g2'⟩ := restrict h2 fun b => decide (b ≠ a)
  have gk : ∀ b, b ≠ a → G.get? b = h2.get? b := fun b hb => g1' b (decide_eq_true hb)
  have ge : G.get? a = none := g2' a (by simp)
  have nha : ∀ {b : Addr} {o : Obj}, hp.get? b = some o → b ≠ a := fun {b o} z => Nat.ne_of_lt (Nat.lt_of_lt_of_le (Heap.lt_size z) ha)
  have up : ∀ {b : Addr}, b ≠ a → H1 b = none → upd H1 a (exo a C none) b = none := fun {b} hb n => by rw [upd_ne hb]; exact n
  have U : Un (frs X.stack) [] H1 (del H2 a) hp G := {
    keep := fun b o z n hf hx => by
      rw [gk b (nha z)]
      exact un.keep b o (k b o z) (up (nha z) n) hf hx
    slot := fun b o z n hf hx => by
      rw [gk b (nha z)]
      exact un.slot b o (k b o z) (up (nha z) n) hf hx
    free := fun b o z n hx => by
      rw [del_ne (nha z)]
      exact un.free b o (k b o z) (up (nha z) n) hx
    there := fun b o z hx => by
      rw [gk b (nha z)]
      exact un.there b o (k b o z) hx
    tups := fun b xs z => by
      rw [del_ne (ne_of_none z hn)]
      exact un.tups b xs (by rw [upd_ne (ne_of_none z hn)]; exact z)
    frzs := fun b o v z => by
      rw [del_ne (ne_of_none z hn)]
      exact un.frzs b o v (by rw [upd_ne (ne_of_none z hn)]; exact z)
    tbls := fun b ps z => by
      rw [del_ne (ne_of_none z hn)]
      exact un.tbls b ps (by rw [upd_ne (ne_of_none z hn)]; exact z) }
  have hok3 : HOk X.prog X.w (del H2 a) G := fun b o z => by
    have hba : b ≠ a := fun e => by
      rw [e, del_same] at z
      cases z
    rw [del_ne hba] at z
    have noa : ∀ {c : Addr}, H2 c = some (.own b) → c ≠ a := fun {c} hc => at_ne ea hc exo_own
    exact (hok b o z).stay (fun c v hc y => by
        have hca : c ≠ a := by
          rcases hc with hc | hc
          · rw [hc]
            exact hba
          · exact noa hc
        rw [gk c hca]
        exact y)
      (fun c hc => by rw [del_ne (noa hc)]; exact hc) (fun c xs hc => by rw [del_ne (at_ne ea hc exo_tup)]; exact hc)
  have J : Inv X pins σ (del H2 a) ⟨G, g2, d2, t2, os2⟩ := I1.call' (ch := []) ho U hok3 hb (fun b z => absurd z (by simp))
  refine ⟨a, _, _, ⟨G, g2, d2, t2, os2⟩, _, .ref C, none, rfl, J, fun b o z => ?_, ge, hoe, ⟨rfl, rfl⟩, rfl, rfl, by rw [del_same], rfl, hb, T, q⟩
  by_cases hba : b = a
  · rw [hba, ge] at z
    cases z
  · exact (gk b hba).symm.trans z
/-- C(), C's own __init__ keeping sp, nothing kept in it -/
theorem pmk_oex0 {CX : CXT} {x : Str} {C fI : Addr} {k : Nat} {fd : FuncData} {ps : List Str} {sp : Sp} {ds : List Value} {dvs : List V} {p pos : Pos} (T : OexC X.K C) (iC : PySem.W.findIn X.K (.ref C) "__init__" = some (some (.ref fI))) (tI : PySem.W.typeIn X.K (.ref fI) = some (.type "function"))
    (F1 : FnOk X.prog X.w X.K X.mg X.base CX k fI fd ps sp) (hr : Room (k + 1) X.A) (hb : Binds X.K fd ps ds) (hd : Vals dvs ds) (hx : Passes CX X (fun _ _ _ => False)) (hg : Gl X x) (hm : X.mg x = some (.ref C))
    (hdb : (x == ("__debug__" : Str)) = false := by decide) :
    PMk X (.Call (.Name x p) [] [] pos) (fun _ H1 Q => ∀ a, H1 a = none → sp (.ref a :: dvs) (upd H1 a (exo a C none)) (fun v H2 => v = .non ∧ H2 a = some (exo a C none) ∧ Q (.ref C) none (del H2 a)) (fun _ _ _ => False)) := by
  intro pins s σ H Q I h
  obtain ⟨nm, q, N, bs, bm, sn, sub, ab, col, dd, k0, k1, k2, k3, k5, hC, hbm⟩ := T.cls
  refine wpAny_Call_Name_kw (ld_glob I hg hm ?_ hdb)
  refine PySem.W.callWith_K0 I.kIn T.kC ?_
  show wpAny _ _ (call (.ref C) []) _ _ _
  obtain ⟨hp, g, dr, tk, os⟩ := s
  have hsz : hp.objs.size ≤ hp.objs.size + 1 := Nat.le_succ _
  have hn : H (hp.objs.size + 1) = none := I.hok.fresh hsz
  have hq := h (hp.objs.size + 1) hn
  have kk : ∀ b o, hp.get? b = some o → ((hp.push (PySem.W.kdv_tup [])).push (PySem.HandSPX.excO C hp.objs.size)).get? b = some o := fun b o e => Heap.get?_push_of_some _ (Heap.get?_push_of_some _ e)
  have hget : ((hp.push (PySem.W.kdv_tup [])).push (PySem.HandSPX.excO C hp.objs.size)).get? (hp.objs.size + 1) = some (PySem.HandSPX.excO C hp.objs.size) := by heap_get
  have I2 : Inv X pins σ (upd H (hp.objs.size + 1) (exo (hp.objs.size + 1) C none)) ⟨(hp.push (PySem.W.kdv_tup [])).push (PySem.HandSPX.excO C hp.objs.size), g, dr, tk, os⟩ :=
    I.laid (t' := tk) (a := hp.objs.size + 1) (o := exo (hp.objs.size + 1) C none) (h' := (hp.push (PySem.W.kdv_tup [])).push (PySem.HandSPX.excO C hp.objs.size)) kk hsz (exo_ok hget)
  have r2 : Vals (V.ref (hp.objs.size + 1) :: dvs) ([Value.ref (hp.objs.size + 1)] ++ ds) := .cons rfl hd
  have hl : ([Value.ref (hp.objs.size + 1)] ++ ds).length = ps.length := by
    have e := r2.length
    rw [F1.len _ _ _ _ hq] at e
    exact e.symm
  refine wpAny_call (PySem.HandSPX.call_own F.excBase_ValueError (fun Y => PySem.HandSPX.refsVE_contains Y bm hbm) (I.kIn _ _ hC) (PySem.W.looks_findIn I.kIn iC) (fun self => PySem.W.bind_fn I.kIn self tI) (Nat.zero_le _)
    (codeAny_mono (F1.run _ X.stack _ _ ⟨[Value.ref (hp.objs.size + 1)], []⟩ ([Value.ref (hp.objs.size + 1)] ++ ds) _ _ (fun _ _ _ => False) (hr.make C [] []) (I2.env0.make C [] []) (hb _ [Value.ref (hp.objs.size + 1)] I2.kIn hl) r2 hq) fun r s' hq' => ?_))
  cases r with
  | error er => exact hx pins σ _ _ er s' I2 hq'
  | ok fl =>
    cases fl with
    | ret u =>
      obtain ⟨v, H2, os2, bare2, un2, hok2, rv, ev, ea, q2⟩ := hq'
      subst ev
      obtain ⟨h2, g2, d2, t2, os'⟩ := s'
      exact ⟨rv, mk_endN (raises_own T.exC T.tyC) I hsz kk un2 hok2 os2 bare2 ea q2⟩
    | next => exact False.elim hq'
    | brk => exact False.elim hq'
    | cont => exact False.elim hq'
end
section
variable {X : Cx} {W : Wd} {Γ : List DV} {μ : Mu} {rest : List Stmt} {D : Ends} {x : Str} {k : Nat} {p pos pos2 : Pos} {W0 : WX}
/-- raise X() -/
theorem run_raise0 (F : Ex0 X.prog X.w X.K X.mg X.base k x) (hr : Room (k + 1) X.A) (tk : Takes X W0) (h : ∀ σ H, Rep X.K W Γ μ σ H → ∀ cls d H', XO X.K W.M H H' x none cls d → W0 cls d σ H') (hg : Gl X x := by rfl) (hc : X.calm = true := by rfl)
    (hdb : (x == ("__debug__" : Str)) = false := by decide) : Run X W Γ μ (.Raise (some (.Call (.Name x p) [] [] pos)) none pos2 :: rest) D := fun σ H R => by
  obtain ⟨fd, F1, hb⟩ := F.ini
  refine wSs_cons ((ps_raise hc tk (pmk_oex0 F.f.oex F.f.ini F.f.ty F1 hr hb .nil pass0 hg F.f.g hdb)).w fun a0 hna => ⟨a0, rfl, F.f.oex, upd_same, rfl, upd_same, ?_⟩)
  have sm : Same H (del (upd H a0 (exo a0 (He.ga X.K x) none)) a0) := fun b o e => by
    have h1 : b ≠ a0 := fun z => by rw [z, hna] at e; cases e
    rw [del_ne h1, upd_ne h1]
    exact e
  exact h σ H R _ _ _ ⟨rfl, sm, trivial⟩
end
end HW
set_option maxHeartbeats 4000000
namespace HW
open PySem PySem.Spec PyProof.Rows L2
open SX (S)
/-! ### try with several clauses without `as` -/
/-- the clauses name classes of the program -/
inductive AllCl (X : Cx) : List ExceptHandler → Prop
  | nil : AllCl X []
  | cons {x : Str} {b0 : Stmt} {st : List Stmt} {np pos' : Pos} {hds : List ExceptHandler} (F : Names X x (.ref (He.ga X.K x))) (r : AllCl X hds) : AllCl X (.ExceptHandler (some (.Name x np)) none (b0 :: st) pos' :: hds)
/-- of the clauses, st is the suite that xr comes to -/
inductive Chosen (X : Cx) (xr : Str) : List ExceptHandler → List Stmt → Prop
  | here {x : Str} {b0 : Stmt} {st : List Stmt} {np pos' : Pos} {hds : List ExceptHandler} (F : Names X x (.ref (He.ga X.K x))) (hm : PySem.W.exmOne X.K (.ref (He.ga X.K xr)) (.ref (He.ga X.K x)) = some true) (r : AllCl X hds) :
      Chosen X xr (.ExceptHandler (some (.Name x np)) none (b0 :: st) pos' :: hds) (b0 :: st)
  | there {x : Str} {b0 : Stmt} {st st2 : List Stmt} {np pos' : Pos} {hds : List ExceptHandler} (F : Names X x (.ref (He.ga X.K x))) (hm : PySem.W.exmOne X.K (.ref (He.ga X.K xr)) (.ref (He.ga X.K x)) = some false) (r : Chosen X xr hds st2) :
      Chosen X xr (.ExceptHandler (some (.Name x np)) none (b0 :: st) pos' :: hds) st2
theorem AllCl.app {X : Cx} {hds : List ExceptHandler} (h : AllCl X hds) : ∃ l, HdsOk X hds l := by
  induction h with
  | nil => exact ⟨_, .nil⟩
  | @cons x b0 st np pos' hds F r ih =>
    obtain ⟨l, hl⟩ := ih
    exact ⟨_, .cons (ts := fun a cls d D σ H => ∀ (oe : Obj) (pn : List (Addr × Obj)), Zc cls d oe → (∃ vs, oe.data = .fields vs) → wSs (X.suite a ((a, oe) :: pn)) (b0 :: st) D σ H) F (fun a oe cls d pn hz hv => ⟨fun pins s σ H D I h => h oe pn hz hv pins s I⟩) hl⟩
theorem Chosen.app {X : Cx} {xr : Str} {hds : List ExceptHandler} {st : List Stmt} (h : Chosen X xr hds st) : ∃ l, HdsOk X hds l ∧ ∀ (Wout : WX) (D : Ends) (σ : L2.St) (H : Hp) (d : Option Addr),
    (∀ a, H a = none → ∀ (oe : Obj) (pn : List (Addr × Obj)), Zc (.ref (He.ga X.K xr)) d oe → (∃ vs, oe.data = .fields vs) → wSs (X.suite a ((a, oe) :: pn)) st D σ H) → wMany X.K Wout D l (.ref (He.ga X.K xr)) d σ H := by
  induction h with
  | @here x b0 st np pos' hds F hm r =>
    obtain ⟨l, hl⟩ := r.app
    exact ⟨_, .cons (ts := fun a cls d D σ H => ∀ (oe : Obj) (pn : List (Addr × Obj)), Zc cls d oe → (∃ vs, oe.data = .fields vs) → wSs (X.suite a ((a, oe) :: pn)) (b0 :: st) D σ H) F (fun a oe cls d pn hz hv => ⟨fun pins s σ H D I h => h oe pn hz hv pins s I⟩) hl,
      fun Wout D σ H d q => ⟨true, hm, fun _ a na oe pn hz hv => q a na oe pn hz hv, fun z => nomatch z⟩⟩
  | @there x b0 st st2 np pos' hds F hm r ih =>
    obtain ⟨l, hl, hq⟩ := ih
    exact ⟨_, .cons (ts := fun a cls d D σ H => ∀ (oe : Obj) (pn : List (Addr × Obj)), Zc cls d oe → (∃ vs, oe.data = .fields vs) → wSs (X.suite a ((a, oe) :: pn)) (b0 :: st) D σ H) F (fun a oe cls d pn hz hv => ⟨fun pins s σ H D I h => h oe pn hz hv pins s I⟩) hl,
      fun Wout D σ H d q => ⟨false, hm, (fun z => nomatch z), fun _ => hq Wout D σ H d q⟩⟩
section
variable {X : Cx} {W : Wd} {Γ : List DV} {μ : Mu} {rest body : List Stmt} {D : Ends} {xr nm : Str} {fo : Option (Str × PyData)} {h0 : ExceptHandler} {hds : List ExceptHandler} {pos q1 q2 : Pos} {e0 : Expr} {y0 : PyData} {W0 : WX}
end
end HW
set_option maxHeartbeats 4000000
namespace HW
open PySem PySem.Spec PyProof.Rows L2
open SX (S)
/-! ### texts that are no masks, no rows, no views -/
def R_is_view_t (ds : List PyData) (d : PyData) : Prop := ∃ m t : List Nat, ds = [sD m, sD t] ∧ m.length ≤ 4000 ∧ t.length ≤ 4000 ∧ d = .bool (lookB m t)
end HW
set_option maxHeartbeats 4000000
namespace HW
open PySem PySem.Spec PyProof.Rows L2
open SX (S)
/-! ### text.split(text) -/
section
variable {X : Cx} {W : Wd} {Γ : List DV} {μ : Mu} {o e : Expr} {a b : Str} {apos pos : Pos}
end
end HW
set_option maxHeartbeats 4000000
namespace HW
open PySem PySem.Spec PyProof.Rows L2
open SX (S)
/-! ### law 27: ten wrong calls -/
end HW
set_option maxHeartbeats 4000000
namespace HW
open PySem PySem.Spec PyProof.Rows L2
open SX (S)
/-! ### try: of all clauses, with `as` and without, the one that takes the exception -/
/-- of the clauses, the one that an exception of the class cr comes to: the slot of its name, its suite -/
inductive Pick (X : Cx) (cr : Value) : List ExceptHandler → Option Nat → Stmt → List Stmt → Prop
  | bare {x : Str} {c : Value} {b0 : Stmt} {st : List Stmt} {np hp : Pos} {hds : List ExceptHandler} (F : Names X x c) (hm : PySem.W.exmOne X.K cr c = some true) : Pick X cr (.ExceptHandler (some (.Name x np)) none (b0 :: st) hp :: hds) none b0 st
  | named {x n : Str} {c : Value} {i : Nat} {b0 : Stmt} {st : List Stmt} {np hp : Pos} {hds : List ExceptHandler} (F : Names X x c) (hm : PySem.W.exmOne X.K cr c = some true) (hi : X.N[i]? = some n) (hl : X.env.kindOf n = some .local) :
      Pick X cr (.ExceptHandler (some (.Name x np)) (some n) (b0 :: st) hp :: hds) (some i) b0 st
  | skip {x : Str} {c : Value} {nm : Option Str} {b0 : Stmt} {st s2 : List Stmt} {np hp : Pos} {hds : List ExceptHandler} {o : Option Nat} (F : Names X x c) (hm : PySem.W.exmOne X.K cr c = some false) (r : Pick X cr hds o b0 st) :
      Pick X cr (.ExceptHandler (some (.Name x np)) nm s2 hp :: hds) o b0 st
def slotE (o : Option Nat) (v : Option V) (σ : L2.St) : L2.St := match o with
  | none => σ
  | some i => σ.set i v
def endsE (o : Option Nat) (D : Ends) : Ends := ⟨fun σ H => D.nx (slotE o none σ) H, D.rt, fun σ H => D.bk (slotE o none σ) H, fun σ H => D.ct (slotE o none σ) H⟩
def seekX (X : Cx) (pins : List (Addr × Obj)) (D : Ends) (hl : List ExceptHandler) : Value → Shared → Prop := fun e s1 => wpAny (model X.prog X.w) X.A (noteFrame e X.env) (fun _ s2 => wpAny (model X.prog X.w) X.A (setFlight e none)
  (fun _ s3 => wpAny (model X.prog X.w) X.A (handleBy e X.env hl) (SP X pins D) X.xe s3) X.xe s2) X.xe s1
section
variable {X : Cx} {body : List Stmt} {h0 : ExceptHandler} {hds : List ExceptHandler} {pos : Pos} {tb : WX → TS} {cr : Value} {o : Option Nat} {b0 : Stmt} {st : List Stmt} {ts : Addr → Option Addr → TS}
theorem ps_try_pick (hs : X.stack = X.env :: X.outer) (hf : X.env.frame = some X.env.locals) (nd : X.N.Nodup) (pk : Pick X cr (h0 :: hds) o b0 st)
    (hb : ∀ (W : WX) (pn : List (Addr × Obj)) (xe : Value → Shared → Prop), Takes (X.tr pn xe) W → PassesOwn (model X.prog X.w) X.A X.env xe → PSs (X.tr pn xe) body (tb W))
    (hsu : ∀ (a : Addr) (oe : Obj) (d : Option Addr) (pn : List (Addr × Obj)), Zc cr d oe → (∃ vs, oe.data = .fields vs) → PSs (X.suite a ((a, oe) :: pn)) (b0 :: st) (ts a d)) :
    PS X (.Try body (h0 :: hds) [] [] pos) (fun D σ H => tb (fun cls d σ H => cls = cr ∧ ∀ a, H a = none → ts a d (endsE o D) (slotE o (some (.ref a)) σ) H) D σ H) := by
  constructor
  intro pins s σ H D I h
  have k0 := I.ok
  have kf : X.A.frames = some (X.env :: X.outer) := k0.frames.trans (congrArg some hs)
  refine wpAny_Try_except (wpAny_mono ((hb _ (X.pn ++ pins) (seekX X pins D (h0 :: hds)) (fun u s1 z => ?_) PassesOwn.looking).run [] s σ H D (I.toTry _) h) (fun f s1 z => ?_) fun _ _ z => z)
  · obtain ⟨xa, fB, s0, pins0, σ1, H1, cls, d, rfl, J0, nb, up, sky, na, os, ag, ec, w⟩ := z
    subst ec
    have J : Inv X pins σ1 H1 s0 := J0.ofTry k0
    have sk : Sky fB (X.env :: X.outer) xa (Zc cls d) X.env.locals s1.heap := hs ▸ sky
    show wpAny (model X.prog X.w) X.A (noteFrame (.ref xa) X.env) _ _ _
    refine Sky.land Zc.steady kf hf sk fun g fl ug => ?_
    have Jg : Inv X pins σ1 H1 { s1 with heap := g } := J.landed nb fl.1 (up.trans ug) os ag
    obtain ⟨ox, vx, gx, zx, dx⟩ := fl.there
    have offF : xa ∉ frs (X.env :: X.outer) := fun hm => by
      obtain ⟨_, o2, e2, nf⟩ := fl.2.2.1.mem hm
      rw [gx] at e2
      cases e2
      exact nf _ dx
    have offL : xa ≠ X.env.locals := fun z => offF (List.mem_filterMap.mpr ⟨_, List.mem_cons_self, hf.trans (congrArg some z.symm)⟩)
    have offS : xa ∉ X.fs := fun hm => by
      obtain ⟨e2, h2, q2⟩ := List.mem_filterMap.mp hm
      exact offF (List.mem_filterMap.mpr ⟨e2, List.mem_cons_of_mem _ h2, q2⟩)
    have Sg := Jg.suite gx dx na offL offS
    have nameOk : ∀ {x : Str} {c : Value} {np : Pos} {Q E : Value → Shared → Prop}, Names X x c → Q c { s1 with heap := g } → wpAny (model X.prog X.w) (X.A.mark (some (.ref xa))) (eval (.Name x np) X.env) Q E { s1 with heap := g } := fun {x c np Q E} F q => by
      rcases F with ⟨f1, f2, f3 | ⟨f3, f4, f5⟩⟩
      · exact ld_glob (X := X.suite xa ((xa, ox) :: (X.pn ++ pins))) Sg f1 f3 q f2
      · exact ld_blt (X := X.suite xa ((xa, ox) :: (X.pn ++ pins))) Sg f1 f3 f4 q f5 f2
    have LT : PySem.W.Looks (model X.prog X.w) g (typeOf (.ref xa)) cls := fun A Q E s k q => wpAny_typeOf_ref (k _ _ gx) (zx.1 ▸ q)
    clear h
    revert pk
    generalize h0 :: hds = hl
    intro pk
    induction pk with
    | @skip x c nm b0 st s2 np hp hds o F hm r ih =>
      refine wpAny_handleBy_cons (codeAny_handlers_test (nameOk F ((PySem.W.exm_one (M := model X.prog X.w) Jg.kIn LT hm).here ?_))) (nomatch ·)
      exact ih w hsu
    | @bare x c b0 st np hp hds F hm =>
      refine wpAny_handleBy_cons (codeAny_handlers_test (nameOk F ((PySem.W.exm_one (M := model X.prog X.w) Jg.kIn LT hm).here ?_))) (nomatch ·)
      refine codeAny_handlers_suite (HandSPX.lands_againZ fl fun g2 fl2 ug2 => ?_)
      have J2 : Inv X pins σ1 H1 { s1 with heap := g2 } := J.landed nb fl2.1 ((up.trans ug).trans ug2) os ag
      obtain ⟨ox2, vx2, gx2, zx2, dx2⟩ := fl2.there
      refine wpAny_mono ((hsu xa ox2 d (X.pn ++ pins) zx2 ⟨_, dx2⟩).run [] _ _ H1 _ (J2.suite gx2 dx2 na offL offS) (w xa na)) (fun f s6 z => ?_) fun _ _ z => z.elim
      cases f with
      | next => obtain ⟨σ6, H6, S6, q6⟩ := z; exact ⟨σ6, H6, S6.unsuite k0, q6⟩
      | brk => obtain ⟨σ6, H6, S6, q6⟩ := z; exact ⟨σ6, H6, S6.unsuite k0, q6⟩
      | cont => obtain ⟨σ6, H6, S6, q6⟩ := z; exact ⟨σ6, H6, S6.unsuite k0, q6⟩
      | ret u => obtain ⟨v6, σ6, H6, S6, r6, q6⟩ := z; exact ⟨v6, σ6, H6, S6.unsuite k0, r6, q6⟩
    | @named x n c i b0 st np hp hds F hm hi hln =>
      refine wpAny_handleBy_cons (codeAny_handlers_test (nameOk F ((PySem.W.exm_one (M := model X.prog X.w) Jg.kIn LT hm).here ?_))) (nomatch ·)
      refine codeAny_handlers_suite_as (HandSPX.lands_againZ fl fun g2 fl2 ug2 => ?_)
      have J2 : Inv X pins σ1 H1 { s1 with heap := g2 } := J.landed nb fl2.1 ((up.trans ug).trans ug2) os ag
      obtain ⟨ox2, vx2, gx2, zx2, dx2⟩ := fl2.there
      refine store_ok (X := X.suite xa ((xa, ox2) :: (X.pn ++ pins))) (v := .ref xa) (J2.suite gx2 dx2 na offL offS) nd hi (.inl hln) rfl (fun s5 S5 => ?_) (.inr hln)
      refine wpAny_mono ((hsu xa ox2 d (X.pn ++ pins) zx2 ⟨_, dx2⟩).run [] s5 _ H1 _ S5 (w xa na)) (fun f s6 z => ?_) fun _ _ z => z.elim
      cases f with
      | next => obtain ⟨σ6, H6, S6, q6⟩ := z; exact gone_ok (S6.unsuite k0) nd hi hln fun s7 J7 => ⟨_, H6, J7, q6⟩
      | brk => obtain ⟨σ6, H6, S6, q6⟩ := z; exact gone_ok (S6.unsuite k0) nd hi hln fun s7 J7 => ⟨_, H6, J7, q6⟩
      | cont => obtain ⟨σ6, H6, S6, q6⟩ := z; exact gone_ok (S6.unsuite k0) nd hi hln fun s7 J7 => ⟨_, H6, J7, q6⟩
      | ret u => obtain ⟨v6, σ6, H6, S6, r6, q6⟩ := z; exact gone_ok (S6.unsuite k0) nd hi hln fun s7 J7 => ⟨v6, _, H6, J7, r6, q6⟩
  · cases f with
    | next => obtain ⟨σ1, H1, J, q⟩ := z; exact wpAny_execs_nil ⟨σ1, H1, J.ofTry k0, q⟩
    | brk => obtain ⟨σ1, H1, J, q⟩ := z; exact ⟨σ1, H1, J.ofTry k0, q⟩
    | cont => obtain ⟨σ1, H1, J, q⟩ := z; exact ⟨σ1, H1, J.ofTry k0, q⟩
    | ret u => obtain ⟨v, σ1, H1, J, r, q⟩ := z; exact ⟨v, σ1, H1, J.ofTry k0, r, q⟩
end
/-! ### .. over a state of data -/
def setO (o : Option Nat) (a : Addr) (Γ : List DV) : List DV := match o with
  | none => Γ
  | some i => Γ.set i (.r a)
def clrO (o : Option Nat) (Γ : List DV) : List DV := match o with
  | none => Γ
  | some i => Γ.set i .no
section
variable {X : Cx} {W : Wd} {Γ : List DV} {μ : Mu} {rest body : List Stmt} {D : Ends} {xr nm : Str} {fo : Option (Str × PyData)} {h0 : ExceptHandler} {hds : List ExceptHandler} {pos q1 q2 : Pos} {e0 : Expr} {y0 : PyData} {o : Option Nat}
theorem caught_now {a : Addr} {oe : Obj} {cls : Value} {d : Option Addr} {σ2 : L2.St} {H2 H' : Hp} (R2 : Rep X.K W Γ μ σ2 H2) (xo : XO X.K (hd W μ) H2 H' xr fo cls d) (hz : Zc cls d oe) (hv : ∃ vs, oe.data = .fields vs) : Caught X W (W.now μ H') Γ μ xr fo a oe cls d := by
  have R3 : Rep X.K W Γ μ σ2 H' := R2.same xo.2.1
  refine ⟨R3.now_le, hz, hv, xo.1, ?_⟩
  obtain ⟨_, _, h3⟩ := xo
  cases fo with
  | none => trivial
  | some fy =>
    obtain ⟨f, y⟩ := fy
    obtain ⟨dd, v, e1, e2, e3, e4⟩ := h3
    refine ⟨dd, v, e1, fun σ3 H3 Γ3 μ3 R6 => ?_⟩
    have pool : Same (off (hd W μ) H') (off (hd (W.now μ H') μ3) H3) := fun b o e => by
      obtain ⟨h1, h2⟩ := off_some e
      have z : (W.now μ H').H0 b = some o := by
        show off (μ.map (·.1)) H' b = some o
        rw [off_out (fun z => h1 (List.mem_append_right _ z))]
        exact h2
      rw [off_out (fun q => by
        rcases List.mem_append.mp q with q | q
        · exact h1 (List.mem_append_left _ q)
        · obtain ⟨p, hp, rfl⟩ := List.mem_map.mp q
          rw [(R6.mu p hp).1] at z
          cases z)]
      exact R6.fr.keep b o (fun q => h1 (List.mem_append_left _ (Rep.isRow_M R3.wd q))) z
    have hdd : dd ∉ hd W μ := fun q => R2.ne dd q e2
    refine ⟨(off_some (pool dd _ (by rw [off_out hdd]; exact e3))).2, e4.up pool⟩
/-- try: body (which raises xr); the clause that takes it says nm = e0 -/
theorem run_tryP (j : Nat) (pk : Pick X (.ref (He.ga X.K xr)) (h0 :: hds) o (.Assign [.Name nm q1] e0 q2) []) (ho : o ≠ some j)
    (hbody : ∀ (pn : List (Addr × Obj)) (xe : Value → Shared → Prop) (Wx : WX), Takes (X.tr pn xe) Wx → PassesOwn (model X.prog X.w) X.A X.env xe → (∀ σ H, Rep X.K W Γ μ σ H → ∀ cls d H', XO X.K (hd W μ) H H' xr fo cls d → Wx cls d σ H') → Run (X.tr pn xe) W Γ μ body DF)
    (he0 : ∀ (W1 : Wd) (a : Addr) (oe : Obj) (pn : List (Addr × Obj)) (cls : Value) (d : Option Addr), Caught X W W1 Γ μ xr fo a oe cls d → Ed (X.suite a ((a, oe) :: pn)) W1 (setO o a Γ) μ e0 y0)
    (h : Run X W ((clrO o Γ).set j (.d y0)) μ rest D) (nd : X.N.Nodup) (hj : X.N[j]? = some nm := by rfl) (hx : Loc X.env.scope nm := by first | exact Or.inl rfl | exact Or.inr rfl)
    (hsw : swapsWith e0 (some (.Name nm q1)) q2.line X.env = pure false := by rfl) (hfn : X.fn nm = true ∨ X.env.scope.names.lookup nm = some .local := by first | exact .inr rfl | exact .inl rfl)
    (hs : X.stack = X.env :: X.outer := by rfl) (hf : X.env.frame = some X.env.locals := by rfl) :
    Run X W Γ μ (.Try body (h0 :: hds) [] [] pos :: rest) D := fun σ H R => by
  refine wSs_cons ((ps_try_pick (tb := fun Wx D σ H => ∀ (pn : List (Addr × Obj)) (xe : Value → Shared → Prop), Takes (X.tr pn xe) Wx → PassesOwn (model X.prog X.w) X.A X.env xe → wSs (X.tr pn xe) body D σ H)
    (ts := fun a d D σ H => ∀ (oe : Obj) (pn : List (Addr × Obj)), Zc (.ref (He.ga X.K xr)) d oe → (∃ vs, oe.data = .fields vs) → wSs (X.suite a ((a, oe) :: pn)) [.Assign [.Name nm q1] e0 q2] D σ H)
    hs hf nd pk (fun Wx pn xe t hp => ⟨fun pins s σ H D I h => h pn xe t hp pins s I⟩) (fun a oe d pn hz hv => ⟨fun pins s σ H D I h => h oe pn hz hv pins s I⟩)).w ?_)
  intro pn xe t hp
  refine Run.mono (hbody pn xe _ t hp fun σ2 H2 R2 cls d H' xo => ⟨xo.1, fun a na oe pn2 hz hv => ?_⟩) (fun _ _ z => z.elim) (fun _ _ z => z.elim) (fun _ _ z => z.elim) (fun _ _ z => z.elim) σ H R
  obtain rfl : cls = .ref (He.ga X.K xr) := xo.1
  have R3 : Rep X.K W Γ μ σ2 H' := R2.same xo.2.1
  have R4 := R3.now
  have R5 : Rep X.K (W.now μ H') (setO o a Γ) μ (slotE o (some (.ref a)) σ2) H' := by
    cases o with
    | none => exact R4
    | some i => exact ⟨R4.wd, R4.fr, R4.sl.setr i, R4.mu, R4.nd⟩
  have cg := caught_now (a := a) R2 xo hz hv
  refine run_set (X := X.suite a ((a, oe) :: pn2)) j (he0 _ a oe pn2 _ d cg) (run_nil fun σ3 H3 R6 => ?_) nd hj hx hsw hfn _ _ R5
  have R7 : Rep X.K W ((setO o a Γ).set j (.d y0)) μ σ3 H3 := R6.wdown R3.now_le R3.wd
  refine h _ _ ?_
  cases o with
  | none => exact R7
  | some i =>
    have hij : i ≠ j := fun e => ho (congrArg some e)
    have z := slots_no R7.sl i
    have e : ((Γ.set i (.r a)).set j (.d y0)).set i .no = (Γ.set i .no).set j (.d y0) := by
      rw [List.set_comm _ _ (Ne.symm hij), List.set_set]
    have z' : Slots X.K (off (hd W μ) H3) (σ3.set i none) ((Γ.set i .no).set j (.d y0)) := e ▸ z
    exact ⟨R7.wd, R7.fr, z', R7.mu, R7.nd⟩
/-- a try whose body raises nothing -/
theorem run_tryN (hbody : Run X.nox W Γ μ body { D with nx := wSs X rest D }) : Run X W Γ μ (.Try body (h0 :: hds) [] [] pos :: rest) D := fun σ H R =>
  wSs_cons ((ps_try_thru0 (t := fun D σ H => wSs X.nox body D σ H) wSs.ps).w (hbody σ H R))
end
/-! ### f(..), f any expression that gives a def -/
section
variable {X : Cx} {W : Wd} {Γ : List DV} {μ : Mu} {fe e : Expr} {es : List Expr} {ds : List PyData} {d : PyData} {x : Str} {ps : List Str} {k : Nat} {f : Addr} {fd : FuncData} {pos : Pos} {CX : CXT} {sp : Sp} {E : L2.St → XK} {t : TA} {tf : TE}
end
section
variable {X : Cx} {W : Wd} {Γ : List DV} {μ : Mu} {fe e : Expr} {es : List Expr} {ds : List PyData} {d : PyData} {x y : Str} {fo : Option (Str × PyData)} {ps : List Str} {k : Nat} {f : Addr} {pos : Pos} {W0 : WX}
theorem FdX.at {P : Program} {w : World} {K : PySem.W.Frag} {mg : Str → Option Value} {base : Heap} {R : List PyData → Str → Option (Str × PyData) → Prop} (F : FdX P w K mg base k x ps R) : ∃ f, mg x = some (.ref f) := by
  obtain ⟨f, _, _, h, _⟩ := F.ex
  exact ⟨f, h⟩
theorem Fd.at {P : Program} {w : World} {K : PySem.W.Frag} {mg : Str → Option Value} {base : Heap} {sp : Sp} (F : Fd P w K mg base k x ps sp) : ∃ f, mg x = some (.ref f) := by
  obtain ⟨f, _, _, h, _⟩ := F.ex
  exact ⟨f, h⟩
end
end HW
set_option maxHeartbeats 4000000
namespace HW
open PySem PySem.Spec PyProof.Rows L2
open SX (S)
/-! ### values of any kind that are refused -/
/-- no text -/
def oddS (v : PyData) : Prop := v = .none ∨ (∃ b, v = .bool b) ∨ (∃ i, v = .int i) ∨ (∃ xs, v = .list xs) ∨ (∃ xs, v = .tuple xs) ∨ v = .dict []
def noLook (m : List Nat) (v : PyData) : Prop := oddS v ∨ ∃ t : List Nat, v = sD t ∧ t.length ≤ 4000 ∧ lookB m t = false
section
variable {X : Cx} {W : Wd} {Γ : List DV} {μ : Mu} {e : Expr} {d : PyData} {pos p p2 : Pos}
/-- isinstance(e, str) of what is no text -/
theorem ed_isiS (ho : oddS d) (he : Ed X W Γ μ e d) (hm : X.mg "isinstance" = none) (hmT : X.mg "str" = none) (hg : Gl X "isinstance" := by rfl) (hgT : Gl X "str" := by rfl)
    (hs : starEach [e, .Name "str" p2] X.env = (false, eval e X.env) :: starEach [.Name "str" p2] X.env := by rfl) (hs2 : starEach [.Name "str" p2] X.env = (false, eval (.Name "str" p2) X.env) :: starEach [] X.env := by rfl) (hpl : (backTo pos (starEach [.Name "str" p2] X.env)).any (·.1) = false := by rfl) :
    Ed X W Γ μ (.Call (.Name "isinstance" p) [e, .Name "str" p2] [] pos) (.bool false) := by
  rcases ho with rfl | ⟨_, rfl⟩ | ⟨_, rfl⟩ | ⟨_, rfl⟩ | ⟨_, rfl⟩ | rfl <;> exact ed_isi (T := "str") he hm hmT (by decide +kernel) (fun K => rfl) rfl hg hgT (by decide) (by decide) hs hs2 hpl
end
def R_is_view_o (ds : List PyData) (d : PyData) : Prop := ∃ m v : PyData, ds = [m, v] ∧ oddS v ∧ d = .bool false
/-! what is raised: x behind the argument -/
end HW
set_option maxHeartbeats 4000000
namespace HW
open PySem PySem.Spec PyProof.Rows L2
open SX (S)
/-! ### what the defs raise, one error after the other (printed by genchain.py) -/
end HW
set_option maxHeartbeats 4000000
namespace HW
open PySem PySem.Spec PyProof.Rows L2
open SX (S)
/-! ### text * number, none too -/
theorem o_mulZ {X : Cx} {l : List Nat} {n : Nat} (h : l.length * n ≤ 16777216) (h2 : n ≤ 1000000000) : OpD X (binaryOp .Mult) (.str (S l)) (nn n) (.str (S (List.replicate n l).flatten)) := by
  rcases Nat.eq_zero_or_pos n with h0 | h1
  · subst h0
    intro pins s σ H x y v u Q I rx ry q
    obtain ⟨L, _, ha, hb, k⟩ := q
    cases ha; cases hb
    obtain ⟨t, rfl⟩ := rx
    obtain ⟨t', rfl⟩ := ry
    exact P.mul_str_none (by decide) (by decide) ⟨.str _, H, I.tok _, ⟨_, rfl⟩, k _ _ (Same.refl _) (.str _)⟩
  · exact o_mulS h h1 h2
theorem rep_one (c q : Nat) : (List.replicate q [c]).flatten = List.replicate q c := by
  induction q with
  | zero => rfl
  | succ q ih => rw [List.replicate_succ, List.flatten_cons, ih]; rfl
/-! ### law 10 -/
end HW
set_option maxHeartbeats 4000000
namespace HW
open PySem PySem.Spec PyProof.Rows L2
open SX (S)
/-! ### how far a row can be made longer -/
/-! ### slices whose bound is drawn -/
def rAnyS (X : Cx) : V → Option Int → Option Int → Hp → VK → Prop := fun v l u H Q => ∃ d z, SlD X d l u z ∧ rDs X.K d l u z v l u H Q
theorem rAnyS.ok {X : Cx} : L2.SlR X (rAnyS X) := fun pins s σ H x v vl vu lo hi sl Q I rx hs pl pu ⟨d, z, h, q⟩ => h pins s σ H x v vl vu lo hi sl Q I rx hs pl pu q
section
variable {X : Cx} {W : Wd} {Γ : List DV} {μ : Mu} {a lo hi : Expr} {p2 pos : Pos} {A C : PyData → Prop} {U L : Int → Prop}
end
end HW
set_option maxHeartbeats 4000000
namespace HW
open PySem PySem.Spec PyProof.Rows L2
open SX (S)
/-! ### tuple * number: none and one, too -/
theorem tmul_one (l : Addr) (items : Array Value) (n : Nat) (dd : Option Addr) (sl : Array (Option Value)) (u : Tok) :
    Meets (Builtin.«tuple.__mul__» ⟨[.ref l, .int 1 u], []⟩) (fun _ R s => s.heap.get? l = some { cls := .type "tuple", dict := dd, data := .seq items n, slots := sl } ∧ R (.ok (.ret (.ref l))) s) :=
  .of_wp fun prog w A R s hyp => by
    obtain ⟨h0, g0, d0, t0, o0⟩ := s
    obtain ⟨hl, hq⟩ := hyp
    have f1 := AutoSeq1.idx_int
    have c1 : (items.isEmpty || (1 : Int) == 1) = true := by simp
    wp_walk using wpAny_loadPart' hl
    exact ⟨_, rfl, hq⟩
theorem tmul_none (l : Addr) (items : Array Value) (n : Nat) (dd : Option Addr) (sl : Array (Option Value)) (u : Tok) (hi : items.isEmpty = false) :
    Meets (Builtin.«tuple.__mul__» ⟨[.ref l, .int 0 u], []⟩) (fun _ R s => s.heap.get? l = some { cls := .type "tuple", dict := dd, data := .seq items n, slots := sl } ∧ R (.ok (.ret (Value.ref s.heap.objs.size))) { s with heap := s.heap.push { cls := Value.type "tuple", data := Data.seq #[] }, toks := s.toks }) :=
  .of_wp fun prog w A R s hyp => by
    obtain ⟨h0, g0, d0, t0, o0⟩ := s
    obtain ⟨hl, hq⟩ := hyp
    have f1 := AutoSeq1.idx_int
    have c1 : (items.isEmpty || (0 : Int) == 1) = false := by rw [hi]; rfl
    wp_walk using wpAny_loadPart' hl
    exact ⟨_, rfl, hq⟩
/-- the multiplication's road to the two of them -/
theorem tmul_road {X : Cx} {pins : List (Addr × Obj)} {σ : L2.St} {H : Hp} {s : Shared} {a : Addr} {xs : List V} {j : Int} {t : Tok} {Q E : Value → Shared → Prop} (I : Inv X pins σ H s) (hT : SqT X.K H a xs)
    (k : ∀ (items : Array Value) (n : Nat) (dd : Option Addr) (sl : Array (Option Value)), (xs ≠ [] → items.isEmpty = false) → s.heap.get? a = some { cls := .type "tuple", dict := dd, data := .seq items n, slots := sl } →
      wpAny (model X.prog X.w) X.A (call (.builtin "tuple.__mul__") [.ref a, .int j t]) Q E s) : wpAny (model X.prog X.w) X.A (binaryOp .Mult (.ref a) (.int j t)) Q E s := by
  obtain ⟨its, r, ⟨⟨c0, dd, dt, sl⟩, ho, hc, n, he⟩, _⟩ := I.tuple hT
  obtain rfl : c0 = .type "tuple" := hc
  obtain rfl : dt = .seq its.toArray n := he
  refine wpAny_binaryOp_repeat_ref (by decide) ⟨_, ho, rfl⟩ (fun s2 => typeIs_int s2 j t) noFill_tuple_mul F.fills_int_mul F.slot_int_rmul repeat_tuple F.slot_int_index.lookup ?_
  exact call_meets F.slot_int_rmul (typeIs_int s j t) F.entry_int_rmul (F.args_int_rmul_2 _ _) (int_rmul_tuple j t a its.toArray n dd sl) ⟨ho, rfl, ⟨_, ho, rfl⟩, k _ n dd sl (fun hne => by
    cases its with
    | nil => exact absurd (List.length_eq_zero_iff.mp r.length) hne
    | cons y ys => rfl) ho⟩
theorem o_mulT {X : Cx} {ds : List PyData} {j : Int} (hne : ds ≠ []) (h0 : 0 ≤ j) (h1 : j ≤ 1000) (hl : ds.length ≤ 1000) : OpD X (binaryOp .Mult) (.tuple ds) (.int j) (.tuple (List.replicate j.toNat ds).flatten) := by
  by_cases h2 : 2 ≤ j
  · exact OpR.to op_repT fun a b H Q ⟨L, hL, ha, hb, k⟩ => by
      cases hb
      cases ha with
      | tup ha hs =>
        refine ⟨_, _, _, rfl, rfl, SqT.up same_off ha, fun e => hne ?_, h2, h1, by rw [hs.length]; exact hl, fun p hp => k _ _ (same_new hp) (.tup (.inl (.inl (off_upd (new_out hL hp)))) ((vaAll_rep hs _).up (XT.same (same_new hp))))⟩
        have := hs.length
        rw [e] at this
        exact List.length_eq_zero_iff.mp this.symm
  · intro pins s σ H x y v u Q I rx ry ⟨L, hL, ha, hb, k⟩
    cases hb
    cases ha with
    | @tup a xs _ ha hs =>
      cases rx
      obtain ⟨t, rfl⟩ := ry
      have hx : xs ≠ [] := fun e => hne (by
        have := hs.length
        rw [e] at this
        exact List.length_eq_zero_iff.mp this.symm)
      have hj : j = 0 ∨ j = 1 := by omega
      refine tmul_road I (SqT.up same_off ha) fun items n dd sl hi ho => ?_
      rcases hj with rfl | rfl
      · refine call_meets F.slot_tuple_mul ⟨_, ho, rfl⟩ F.entry_tuple_mul (F.args_tuple_mul_2 _ _) (tmul_none a items n dd sl t (hi hx)) ⟨ho, ?_⟩
        have hn : H s.heap.objs.size = none := I.hok.fresh (Nat.le_refl _)
        refine ⟨.ref s.heap.objs.size, _, I.laid (t' := s.toks) (o := .tup []) (fun b ob q => Heap.get?_push_of_some _ q) (Nat.le_refl _) ⟨Nat.zero_le _, _, .nil, IsTup.new _ _⟩, rfl, ?_⟩
        exact k _ _ (same_new hn) (.tup (.inl (.inl (off_upd (new_out hL hn)))) .nil)
      · refine call_meets F.slot_tuple_mul ⟨_, ho, rfl⟩ F.entry_tuple_mul (F.args_tuple_mul_2 _ _) (tmul_one a items n dd sl t) ⟨ho, ?_⟩
        have e : (List.replicate (1 : Int).toNat ds).flatten = ds := by simp
        rw [e] at k
        exact ⟨.ref a, H, I, rfl, k _ _ (Same.refl _) (.tup ha hs)⟩
/-! ### {} as data -/
theorem ed_dict0 {X : Cx} {W : Wd} {Γ : List DV} {μ : Mu} {pos : Pos} : Ed X W Γ μ (.Dict [] [] pos) (.dict []) := fun σ H R Q q =>
  pe_dnewK.w fun l hl => q _ _ (R.same (same_new hl)) (XT.same (same_new hl)) (.dct (off_upd (new_out R.ne hl)))
/-! ### places found -/
theorem shp_nD (l : List Nat) : Shp 1 (nD l) := Shp.list fun x hx => by
  obtain ⟨i, _, rfl⟩ := List.mem_map.mp hx
  exact Shp.int
/-! ### law 5 -/
def pre_odd (ds : List PyData) : Prop := ∃ m : List Nat, ds = [sD m] ∧ maskB m = true
def post_odd (ds : List PyData) (d : PyData) : Prop := ∃ m : List Nat, ds = [sD m] ∧ noLook m d
/-! ### what is no list, no tuple -/
section
variable {X : Cx} {W : Wd} {Γ : List DV} {μ : Mu} {e : Expr} {d : PyData} {pos p q1 q2 pt : Pos} {kt : Nat}
end
/-! ### law 18 -/
abbrev wMany : PyData := sD [109, 97, 110, 121]
end HW
set_option maxHeartbeats 4000000
namespace HW
open PySem PySem.Spec PyProof.Rows L2
open SX (S)
open PySem.W (dataLt AlikeAll AllAlike Sortable EachIs dataLe alike)
/-! ### sorted(set(..)) over any keys -/
section
variable {prog : Program} {w : World} {A : Around} {E : Value → Shared → Prop} {s : Shared} {K : Type} [DecidableEq K] {knd : KeyKind prog w K}
end
section
variable {X : Cx} {W : Wd} {Γ : List DV} {μ : Mu} {a : Expr} {p p2 q pos : Pos} {ws zs : List Nat}
end
/-! ### masks laid together -/
/-! ### law 2 -/
end HW
set_option maxHeartbeats 4000000
namespace HW
open PySem PySem.Spec PyProof.Rows L2
open SX (S)
open PySem.W (dataLt AlikeAll AllAlike Sortable EachIs dataLe alike)
/-! ### a local dict becomes data: locked -/
section
variable {X : Cx} {W : Wd} {Γ : List DV} {μ : Mu} {sts : List Stmt} {D : Ends} {l : Addr}
end
section
variable {X : Cx} {W : Wd} {Γ : List DV} {μ : Mu} {tg e : Expr} {apos cpos : Pos} {kvs : List (Key × PyData)}
end
/-! ### d.get(k, other) of a local dict -/
section
variable {X : Cx} {W : Wd} {Γ : List DV} {μ : Mu} {e f : Expr} {pos p apos : Pos} {n : Str} {l : Addr} {kvs : List (Key × PyData)} {k : Key} {d : PyData}
end
/-! ### list.index with a start -/
section
variable {X : Cx} {W : Wd} {Γ : List DV} {μ : Mu} {o e f : Expr} {apos pos : Pos} {ws : List (List Nat)} {w : List Nat} {j st : Nat}
end
/-! ### like views -/
section
variable (ws : List (List Nat))
/-! the first like ones -/
end
end HW
set_option maxHeartbeats 4000000
namespace HW
open PySem PySem.Spec PyProof.Rows L2
section
variable {ws : List (List Nat)} {z : List Nat} {i : Nat}
end
end HW
set_option maxHeartbeats 4000000
namespace HW
open PySem PySem.Spec PyProof.Rows L2
open SX (S)
/-! ### what raises within an expression -/
section
variable {X : Cx} {W : Wd} {Γ : List DV} {μ : Mu} {e a b : Expr} {es : List Expr} {rest : List Stmt} {D : Ends} {p pos : Pos}
end
/-! ### n1, n2, n3 = a, b, c -/
section
variable {X : Cx} {W : Wd} {Γ : List DV} {μ : Mu} {a b c : Expr} {rest : List Stmt} {D : Ends} {n1 n2 n3 : Str} {p1 p2 p3 pos : Pos}
end
/-! ### patterns, looks, steps -/
/-! ### the calls of law 33 -/
end HW
set_option maxHeartbeats 4000000
namespace HW
open PySem PySem.Spec PyProof.Rows L2
open SX (S)
/-! ### sets of tuples, whatever kind of key the items are (fewer than 64 of them) -/
section
variable {pr : Program} {wo : World} {κ : Type} [DecidableEq κ] {kd : PySem.KeyKind pr wo κ} {A : Around} {Er : Value → Shared → Prop} {st : Shared}
abbrev hT (kd : PySem.KeyKind pr wo κ) (ks : List κ) : Int := tupleKeyHash kd ks
/-! ### the set -/
def entL (kd : PySem.KeyKind pr wo κ) (L : List (Addr × List κ)) : List (Int × Value) := L.map fun p => (hT kd p.2, Value.ref p.1)
abbrev hsL (kd : PySem.KeyKind pr wo κ) (L : List (Addr × List κ)) : List Int := L.map fun p => hT kd p.2
structure TSet (kd : PySem.KeyKind pr wo κ) (h : Heap) (a : Addr) (L : List (Addr × List κ)) (es : Array (Int × Value)) (ep : Nat) (t : SetTable) : Prop where
  obj : ∃ o, h.get? a = some o ∧ o.ExactSet ∧ o.data = .set es ep t
  ents : es.toList = entL kd L
  tab : TabOk t (hsL kd L)
  uniq : (L.map (·.2)).Nodup
  keys : ∀ p ∈ L, IsTupleKey kd h p.2 p.1
  room : L.length * 5 < t.mask * 3
  few : L.length < 64
variable {a : Addr} {L : List (Addr × List κ)} {es : Array (Int × Value)} {ep : Nat} {t : SetTable}
theorem ent_len {es : Array (Int × Value)} {L : List (Addr × List κ)} (h : es.toList = entL kd L) : es.size = L.length := by
  have z := congrArg List.length h
  rw [Array.length_toList, entL, List.length_map] at z
  exact z
theorem fits_of {es : Array (Int × Value)} {t : SetTable} (h1 : t.place.size = es.size) (h2 : t.dummies = #[]) (h3 : es.size ≤ t.mask) : t.fits es.size = true := by
  rw [SetTable.fits, SetTable.fill, h2, Bool.and_eq_true, beq_iff_eq, decide_eq_true_eq]
  exact ⟨h1, by show t.place.size + 0 ≤ t.mask; omega⟩
theorem TSet.size (R : TSet kd st.heap a L es ep t) : es.size = L.length := ent_len R.ents
theorem TSet.plen (R : TSet kd st.heap a L es ep t) : t.place.size = L.length := by rw [R.tab.sz, List.length_map]
theorem TSet.fits (R : TSet kd st.heap a L es ep t) : t.fits es.size = true := by
  have h1 := R.plen
  have h2 := R.size
  have h3 := R.room
  exact fits_of (by omega) R.tab.dm (by omega)
end
section
variable {pr : Program} {wo : World} {κ : Type} [DecidableEq κ] {kd : PySem.KeyKind pr wo κ} {A : Around} {Er : Value → Shared → Prop} {st : Shared} {a : Addr} {L : List (Addr × List κ)} {es : Array (Int × Value)} {ep : Nat} {t : SetTable}
end
section
variable {pr : Program} {wo : World} {κ : Type} [DecidableEq κ] {kd : PySem.KeyKind pr wo κ} {A : Around} {Er : Value → Shared → Prop} {st : Shared}
theorem TSet.kept {h h' : Heap} {a : Addr} {L : List (Addr × List κ)} {es : Array (Int × Value)} {ep : Nat} {t : SetTable} (R : TSet kd h a L es ep t) (ha : ∀ o, h.get? a = some o → h'.get? a = some o) (hk : ∀ p ∈ L, IsTupleKey kd h' p.2 p.1) : TSet kd h' a L es ep t := by
  obtain ⟨o, ho, r⟩ := R.obj
  exact ⟨⟨o, ha o ho, r⟩, R.ents, R.tab, R.uniq, hk, R.room, R.few⟩
/-- the set holds the first i keys -/
def Holds (kd : PySem.KeyKind pr wo κ) (h : Heap) (S : Addr) (ks : List (Addr × List κ)) (i : Nat) : Prop := ∃ L es ep t, TSet kd h S L es ep t ∧ (∀ p ∈ L, p ∈ ks) ∧ L.length ≤ i ∧ ∀ k, k ∈ L.map (·.2) ↔ k ∈ (ks.take i).map (·.2)
end
/-! ### len(set(xs)), xs a list of fewer than 64 tuples of texts -/
section
variable {X : Cx} {W : Wd} {Γ : List DV} {μ : Mu} {a : Expr} {p p2 q pos : Pos} {ts : List (List (List Nat))}
end
end HW
set_option maxHeartbeats 4000000
namespace HW
open PySem PySem.Spec PyProof.Rows L2
open SX (S)
/-! ### words, split by spaces -/
section
variable {X : Cx} {W : Wd} {Γ : List DV} {μ : Mu} {o e : Expr} {apos pos : Pos} {ws : List (List Nat)}
end
section
variable {X : Cx} {i : Nat} {xs : List Nat}
end
/-! ### law 23's words -/
end HW
set_option maxHeartbeats 4000000
namespace HW
open PySem PySem.Spec PyProof.Rows L2
open SX (S)
/-! ### so many views, one behind the other -/
end HW
set_option maxHeartbeats 4000000
namespace HW
open PySem PySem.Spec PyProof.Rows L2
open SX (S)
/-! ### local lists that begin with an item; the last item of a local list -/
section
variable {X : Cx} {W W0 : Wd} {Γ : List DV} {μ : Mu} {e value i' : Expr} {rest : List Stmt} {D : Ends} {pos p p1 p2 pos' : Pos} {n : Str} {l : Addr} {d y : PyData} {ds ys : List PyData} {z : Int}
theorem Slots.toR {K : PySem.W.Frag} {H : Hp} {σ : L2.St} {Γ : List DV} {i : Nat} {a : Addr} (h : Slots K H σ Γ) (hi : Γ[i]? = some (.d (ptD a))) : Slots K H σ (Γ.set i (.r a)) := ⟨by rw [List.length_set]; exact h.len, fun j dv q => by
  by_cases hj : j = i
  · subst hj
    rw [List.getElem?_set_self (List.getElem?_eq_some_iff.mp hi).1] at q
    cases q
    obtain ⟨o, e1, v, e2, r⟩ := h.at_ _ _ hi
    cases r
    exact ⟨o, e1, e2⟩
  · rw [List.getElem?_set_ne (Ne.symm hj)] at q
    exact h.at_ j dv q⟩
end
section
variable {X : Cx} {W : Wd} {Γ : List DV} {μ : Mu} {iter tg : Expr} {α : Type} {enc : α → PyData} {xs : List α}
end
/-! ### moves -/
end HW
set_option maxHeartbeats 4000000
namespace HW
open PySem PySem.Spec PyProof.Rows L2
open SX (S)
/-! ### three names at once; a dict displayed and asked at once -/
section
variable {X : Cx} {W W0 : Wd} {Γ : List DV} {μ : Mu} {a b c e f v1 v2 : Expr} {rest : List Stmt} {D : Ends} {pos p p1 p2 p3 apos : Pos} {n1 n2 n3 : Str} {x y z d x1 x2 : PyData}
theorem va_all3 {K : PySem.W.Frag} {H : Hp} {vs : List V} (h : VaAll K H vs [x, y, z]) : ∃ u v w, vs = [u, v, w] ∧ Va K H u x ∧ Va K H v y ∧ Va K H w z := by
  cases h with
  | cons h1 h =>
    cases h with
    | cons h2 h =>
      cases h with
      | cons h3 h =>
        cases h
        exact ⟨_, _, _, rfl, h1, h2, h3⟩
end
end HW
set_option maxHeartbeats 4000000
namespace HW
open PySem PySem.Spec PyProof.Rows L2
open SX (S)
end HW
set_option maxHeartbeats 4000000
namespace HW
open PySem PySem.Spec PyProof.Rows L2
open SX (S)
/-! ### how many rows there are: counted by numbers -/
end HW
set_option maxHeartbeats 4000000
namespace HW
open PySem PySem.Spec PyProof.Rows L2
open SX (S)
end HW
set_option maxHeartbeats 4000000
namespace HW
open PySem PySem.Spec PyProof.Rows L2
open SX (S)
/-! ### expressions that change or make local objects -/
def EvM (X : Cx) (W : Wd) (Γ : List DV) (μ : Mu) (e : Expr) (P : PyData → Mu → Prop) : Prop := ∀ σ H, Rep X.K W Γ μ σ H → ∀ Q : VK, (∀ v d μ' H2, Rep X.K W Γ μ' σ H2 → Same (off (hd W μ) H) (off (hd W μ') H2) → Va X.K (off (hd W μ') H2) v d → P d μ' → Q v H2) → wE X e σ H Q
def EvAM (X : Cx) (W : Wd) (Γ : List DV) (μ : Mu) (es : List Expr) (P : List PyData → Mu → Prop) : Prop := ∀ σ H, Rep X.K W Γ μ σ H → ∀ Q : List V → Hp → Prop, (∀ vs ds μ' H2, Rep X.K W Γ μ' σ H2 → Same (off (hd W μ) H) (off (hd W μ') H2) → VaAll X.K (off (hd W μ') H2) vs ds → P ds μ' → Q vs H2) → wA X es σ H Q
def EvTM (X : Cx) (W : Wd) (Γ : List DV) (μ : Mu) (e : Expr) (P : Bool → Mu → Prop) : Prop := ∀ σ H, Rep X.K W Γ μ σ H → ∀ Q : Bool → Hp → Prop, (∀ b μ' H2, Rep X.K W Γ μ' σ H2 → Same (off (hd W μ) H) (off (hd W μ') H2) → P b μ' → Q b H2) → wT X e σ H Q
def EvWM (X : Cx) (W : Wd) (Γ : List DV) (μ : Mu) (e : Expr) (P : Bool → Mu → Prop) : Prop := ∀ σ H, Rep X.K W Γ μ σ H → ∀ Q : Bool → Hp → Prop, (∀ b μ' H2, Rep X.K W Γ μ' σ H2 → Same (off (hd W μ) H) (off (hd W μ') H2) → P b μ' → Q b H2) → wW X e σ H Q
section
variable {X : Cx} {W W0 : Wd} {Γ : List DV} {μ : Mu} {e a b : Expr} {es : List Expr} {rest : List Stmt} {D : Ends} {pos p p1 p2 p3 : Pos} {n n1 n2 n3 : Str} {P A : PyData → Mu → Prop} {l : Addr}
theorem Ev.m {Q : PyData → Prop} (h : Ev X W Γ μ e Q) : EvM X W Γ μ e (fun d μ' => Q d ∧ μ' = μ) := fun σ H R q k => h σ H R q fun v d H2 R2 e2 r p => k v d μ H2 R2 e2 r ⟨p, rfl⟩
theorem Ed.m {d : PyData} (h : Ed X W Γ μ e d) : EvM X W Γ μ e (fun z μ' => z = d ∧ μ' = μ) := Ev.m h.ev
theorem EvM.imp (h : EvM X W Γ μ e A) (i : ∀ d μ', A d μ' → P d μ') : EvM X W Γ μ e P := fun σ H R q k => h σ H R q fun v d μ' H2 R2 e2 r p => k v d μ' H2 R2 e2 r (i d μ' p)
/-- where the local objects stay as they are -/
theorem EvM.ev {Q : PyData → Prop} (h : EvM X W Γ μ e (fun d μ' => Q d ∧ μ' = μ)) : Ev X W Γ μ e Q := fun σ H R q k => h σ H R q fun v d μ' H2 R2 e2 r ⟨p, eq⟩ => by
  subst eq
  exact k v d H2 R2 e2 r p
theorem EvM.ed {d : PyData} (h : EvM X W Γ μ e (fun z μ' => z = d ∧ μ' = μ)) : Ed X W Γ μ e d := (EvM.ev h).ed
theorem EvT.m {Q : Bool → Prop} (h : EvT X W Γ μ e Q) : EvTM X W Γ μ e (fun d μ' => Q d ∧ μ' = μ) := fun σ H R q k => h σ H R q fun b H2 R2 e2 p => k b μ H2 R2 e2 ⟨p, rfl⟩
theorem EdT.m {k : Bool} (h : EdT X W Γ μ e k) : EvTM X W Γ μ e (fun z μ' => z = k ∧ μ' = μ) := EvT.m (h.ev (P := fun z => z = k) rfl)
theorem EvTM.imp {P A : Bool → Mu → Prop} (h : EvTM X W Γ μ e A) (i : ∀ d μ', A d μ' → P d μ') : EvTM X W Γ μ e P := fun σ H R q k => h σ H R q fun b μ' H2 R2 e2 p => k b μ' H2 R2 e2 (i b μ' p)
theorem eam_nil : EvAM X W Γ μ [] (fun ds μ' => ds = [] ∧ μ' = μ) := fun σ H R q k => pa_nil.w (k [] [] μ H R (Same.refl _) .nil ⟨rfl, rfl⟩)
theorem eam_cons {B : PyData → Mu → List PyData → Mu → Prop} (h : EvM X W Γ μ e A) (hr : ∀ d μ1, A d μ1 → EvAM X W Γ μ1 es (B d μ1)) (hs : starEach (e :: es) X.env = (false, eval e X.env) :: starEach es X.env := by rfl) : EvAM X W Γ μ (e :: es) (fun ds μ' => ∃ d μ1 r, A d μ1 ∧ B d μ1 r μ' ∧ ds = d :: r) := fun σ H R q k =>
  (pa_cons wE.pe wA.pa hs).w (h σ H R _ fun v d μ1 H2 R2 s2 r2 p2 => hr d μ1 p2 σ H2 R2 _ fun vs ds μ2 H3 R3 s3 r3 p3 => k _ _ μ2 H3 R3 (same_trans s2 s3) (.cons (r2.up s3) r3) ⟨d, μ1, ds, p2, p3, rfl⟩)
theorem EvAM.imp {P A : List PyData → Mu → Prop} (h : EvAM X W Γ μ es A) (i : ∀ d μ', A d μ' → P d μ') : EvAM X W Γ μ es P := fun σ H R q k => h σ H R q fun v d μ' H2 R2 e2 r p => k v d μ' H2 R2 e2 r (i d μ' p)
/-- a comparison as a test -/
theorem tcm {op : CmpOp} {B : PyData → Mu → PyData → Mu → Prop} {P : Bool → Mu → Prop} (ha : EvM X W Γ μ a A) (hb : ∀ x μ1, A x μ1 → EvM X W Γ μ1 b (B x μ1)) (hz : ∀ x μ1 y μ2, A x μ1 → B x μ1 y μ2 → ∃ k, P k μ2 ∧ OpD X (compareOp op) x y (.bool k)) (hm : behindInMarks op b = false := by first | exact nomark _ | rfl) : EvTM X W Γ μ (.Compare a [op] [b] pos) P := fun σ H R q k => by
  refine (pt_cmpR (rAny.ok (X := X)) wE.pe wE.pe hm).w ?_
  refine ha σ H R _ fun va x μ1 H1 R1 s1 r1 p1 => hb x μ1 p1 σ H1 R1 _ fun vb y μ2 H2 R2 s2 r2 p2 => ?_
  obtain ⟨c, pc, o⟩ := hz x μ1 y μ2 p1 p2
  refine ⟨x, y, .bool c, o, hd W μ2, R2.ne, r1.up s2, r2, fun v H3 e3 r3 => ?_⟩
  cases r3
  exact ⟨c, rfl, k c μ2 H3 (R2.same e3) (same_trans (same_trans s1 s2) (XT.same e3)) pc⟩
theorem twm_or1 {P : Bool → Mu → Prop} (h : EvTM X W Γ μ a P) : EvWM X W Γ μ (.BoolOp .Or [a] pos) P := fun σ H R q k => (pw_or1 wT.pt).w (h σ H R q k)
theorem twm_or {rs : List Expr} {A P : Bool → Mu → Prop} (h : EvTM X W Γ μ a A) (h2 : ∀ μ1, A false μ1 → EvWM X W Γ μ1 (.BoolOp .Or (b :: rs) pos) P) (h3 : ∀ μ1, A true μ1 → P true μ1) : EvWM X W Γ μ (.BoolOp .Or (a :: b :: rs) pos) P := fun σ H R q k => (pw_or wT.pt wW.pw).w (h σ H R _ fun c μ1 H2 R2 e2 p => by
  cases c with
  | true => exact iteT (k true μ1 H2 R2 e2 (h3 μ1 p))
  | false => exact iteF (h2 μ1 p σ H2 R2 q fun c μ2 H3 R3 e3 p3 => k c μ2 H3 R3 (same_trans e2 e3) p3))
theorem EvWM.t {P : Bool → Mu → Prop} (h : EvWM X W Γ μ e P) : EvTM X W Γ μ e P := fun σ H R q k => wW.pw.pt.w (h σ H R q k)
/-- statements -/
theorem run_ifM {c : Expr} {sa sb : List Stmt} {A : Bool → Mu → Prop} (hc : EvTM X W Γ μ c A) (h1 : ∀ μ1, A true μ1 → Run X W Γ μ1 sa { D with nx := wSs X rest D }) (h2 : ∀ μ1, A false μ1 → Run X W Γ μ1 sb { D with nx := wSs X rest D }) : Run X W Γ μ (.If c sa sb pos :: rest) D := fun σ H R =>
  wSs_cons ((ps_if wT.pt wSs.ps wSs.ps).w (hc σ H R _ fun k μ1 H2 R2 e2 p => by
    cases k with
    | true => exact iteT (h1 μ1 p σ H2 R2)
    | false => exact iteF (h2 μ1 p σ H2 R2)))
theorem run_setM (i : Nat) (he : EvM X W Γ μ e P) (h : ∀ d μ1, P d μ1 → Run X W (Γ.set i (.d d)) μ1 rest D) (nd : X.N.Nodup) (hN : X.N[i]? = some n := by rfl) (hx : Loc X.env.scope n := by first | exact Or.inl rfl | exact Or.inr rfl)
    (hs : swapsWith e (some (.Name n p)) pos.line X.env = pure false := by rfl) (hf : X.fn n = true ∨ X.env.scope.names.lookup n = some .local := by first | exact .inr rfl | exact .inl rfl) : Run X W Γ μ (.Assign [.Name n p] e pos :: rest) D := fun σ H R =>
  wSs_cons ((ps_set nd hN hx wE.pe hs hf).w (he σ H R _ fun v d μ1 H2 R2 e2 r p => h d μ1 p _ _ ⟨R2.wd, R2.fr, R2.sl.set i r, R2.mu, R2.nd⟩))
theorem run_parM {P : List PyData → Mu → Prop} (i j : Nat) {kt k2 : Nat} {pt pt2 : Pos} (ha : EvAM X W Γ μ [a, b] P) (h : ∀ ds μ1, P ds μ1 → ∃ x y, ds = [x, y] ∧ Run X W ((Γ.set i (.d x)).set j (.d y)) μ1 rest D) (hN : X.N.Nodup) (hij : i ≠ j := by decide) (hi : X.N[i]? = some n1 := by rfl) (hj : X.N[j]? = some n2 := by rfl)
    (hx : X.env.scope.names.lookup n1 = some .local := by rfl) (hy : X.env.scope.names.lookup n2 = some .local := by rfl) (hc : X.calm = true := by rfl)
    (hw : swappedStores [.Tuple [.Name n1 p1, .Name n2 p2] kt pt] (.Tuple [a, b] k2 pt2) X.env = pure (some [n1, n2]) := by rfl)
    (hs : swapsWithSole [.Tuple [.Name n1 p1, .Name n2 p2] kt pt] (.Tuple [a, b] k2 pt2) pos.line X.env = pure false := by rfl) :
    Run X W Γ μ (.Assign [.Tuple [.Name n1 p1, .Name n2 p2] kt pt] (.Tuple [a, b] k2 pt2) pos :: rest) D := fun σ H R =>
  wSs_cons ((ps_par hc hN hi hj hij hx hy wA.pa hw hs).w (ha σ H R _ fun vs ds μ1 H2 R2 e2 r pa => by
    obtain ⟨x, y, rfl, hr⟩ := h ds μ1 pa
    cases r with
    | cons r1 r =>
      cases r with
      | cons r2 r =>
        cases r
        exact ⟨_, _, rfl, hr _ _ ⟨R2.wd, R2.fr, (R2.sl.set i r1).set j r2, R2.mu, R2.nd⟩⟩))
theorem run_par3M {c : Expr} {P : List PyData → Mu → Prop} (i j l : Nat) {kt k2 : Nat} {pt pt2 : Pos} (ha : EvAM X W Γ μ [a, b, c] P) (h : ∀ ds μ1, P ds μ1 → ∃ x y z, ds = [x, y, z] ∧ Run X W (((Γ.set i (.d x)).set j (.d y)).set l (.d z)) μ1 rest D) (hN : X.N.Nodup) (hij : i ≠ j := by decide) (hil : i ≠ l := by decide) (hjl : j ≠ l := by decide) (hi : X.N[i]? = some n1 := by rfl) (hj : X.N[j]? = some n2 := by rfl) (hl : X.N[l]? = some n3 := by rfl)
    (hx : X.env.scope.names.lookup n1 = some .local := by rfl) (hy : X.env.scope.names.lookup n2 = some .local := by rfl) (hz : X.env.scope.names.lookup n3 = some .local := by rfl) (hc : X.calm = true := by rfl)
    (hw : swappedStores [.Tuple [.Name n1 p1, .Name n2 p2, .Name n3 p3] kt pt] (.Tuple [a, b, c] k2 pt2) X.env = pure (some [n1, n2, n3]) := by rfl)
    (hs : swapsWithSole [.Tuple [.Name n1 p1, .Name n2 p2, .Name n3 p3] kt pt] (.Tuple [a, b, c] k2 pt2) pos.line X.env = pure false := by rfl) :
    Run X W Γ μ (.Assign [.Tuple [.Name n1 p1, .Name n2 p2, .Name n3 p3] kt pt] (.Tuple [a, b, c] k2 pt2) pos :: rest) D := fun σ H R =>
  wSs_cons ((ps_par3 hc hN hi hj hl hij hil hjl hx hy hz wA.pa hw hs).w (ha σ H R _ fun vs ds μ1 H2 R2 e2 r pa => by
    obtain ⟨x, y, z, rfl, hr⟩ := h ds μ1 pa
    obtain ⟨u, v, w, rfl, r1, r2, r3⟩ := va_all3 r
    exact ⟨u, v, w, rfl, hr _ _ ⟨R2.wd, R2.fr, ((R2.sl.set i r1).set j r2).set l r3, R2.mu, R2.nd⟩⟩))
/-- a slot whose place is known -/
theorem run_toR (i : Nat) (l : Addr) (h : Run X W (Γ.set i (.r l)) μ rest D) (hi : Γ[i]? = some (.d (ptD l)) := by rfl) : Run X W Γ μ rest D := fun σ H R => h σ H ⟨R.wd, R.fr, Slots.toR R.sl hi, R.mu, R.nd⟩
/-- a name whose place is known, as data -/
theorem ed_ptr (i : Nat) {a : Addr} (hi : Γ[i]? = some (.r a) := by rfl) (hN : X.N[i]? = some n := by rfl) (hv : Vis X.env.scope n := by first | exact Or.inl rfl | exact Or.inr (Or.inl rfl) | exact Or.inr (Or.inr rfl))
    (h1 : (n == ("__debug__" : Str)) = false := by decide) (h2 : (n == ("__classdict__" : Str)) = false := by decide) : Ed X W Γ μ (.Name n pos) (ptD a) := fun σ H R Q q => by
  refine (pe_var hN hv h1 h2).w ?_
  obtain ⟨o, e1, e2⟩ := R.sl.at_ i _ hi
  have e2' : o = some (.ref a) := e2
  subst e2'
  exact ⟨_, e1, q _ H R XT.refl (.ptr a)⟩
/-- return, where the local objects are looked at -/
theorem run_retR {d : PyData} (he : Ed X W Γ μ e d) (hD : ∀ v σ H, Rep X.K W Γ μ σ H → Va X.K (off (hd W μ) H) v d → D.rt v H) : Run X W Γ μ (.Return (some e) pos :: rest) D := fun σ H R =>
  wSs_cons ((ps_ret wE.pe).w (he σ H R _ fun v H2 R2 e2 r => hD v σ H2 R2 r))
end
end HW
set_option maxHeartbeats 4000000
namespace HW
open PySem PySem.Spec PyProof.Rows L2
open SX (S)
/-! ### instances of a class of the program -/
abbrev FvR (K : PySem.W.Frag) (H : Hp) (gs : List (Str × V)) (fs : List (Str × PyData)) : Prop := Paired (fun (p : Str × V) (q : Str × PyData) => p.1 = q.1 ∧ Va K H p.2 q.2) gs fs
def putFD (f : Str) (d : PyData) : List (Str × PyData) → List (Str × PyData)
  | [] => [(f, d)]
  | (g, x) :: r => if g = f then (g, d) :: r else (g, x) :: putFD f d r
section
variable {K : PySem.W.Frag} {H H' : Hp} {gs : List (Str × V)} {fs : List (Str × PyData)}
theorem FvR.up (e : Same H H') (h : FvR K H gs fs) : FvR K H' gs fs := pmp h fun _ _ z => ⟨z.1, z.2.up e⟩
theorem fv_some {f : Str} {d : PyData} : ∀ {gs : List (Str × V)} {fs : List (Str × PyData)}, FvR K H gs fs → fs.lookup f = some d → ∃ v, gs.lookup f = some v ∧ Va K H v d
  | _, _, .nil, e => by cases e
  | (g, v) :: gs, (g', d') :: fs, .cons h t, e => by
    obtain ⟨h1, h2⟩ := h
    have h1 : g = g' := h1
    subst h1
    rw [List.lookup_cons] at e ⊢
    cases q : (f == g) with
    | true =>
      rw [q] at e
      cases e
      exact ⟨v, rfl, h2⟩
    | false =>
      rw [q] at e
      exact fv_some t e
theorem fv_none {f : Str} : ∀ {gs : List (Str × V)} {fs : List (Str × PyData)}, FvR K H gs fs → fs.lookup f = none → gs.lookup f = none
  | _, _, .nil, _ => rfl
  | (g, v) :: gs, (g', d') :: fs, .cons h t, e => by
    obtain ⟨h1, h2⟩ := h
    have h1 : g = g' := h1
    subst h1
    rw [List.lookup_cons] at e ⊢
    cases q : (f == g) with
    | true => rw [q] at e; cases e
    | false => rw [q] at e; exact fv_none t e
theorem fv_put {f : Str} {y : V} {d : PyData} (r : Va K H y d) : ∀ {gs : List (Str × V)} {fs : List (Str × PyData)}, FvR K H gs fs → FvR K H (putF f y gs) (putFD f d fs)
  | _, _, .nil => .cons ⟨rfl, r⟩ .nil
  | (g, v) :: gs, (g', d') :: fs, .cons h t => by
    obtain ⟨h1, h2⟩ := h
    have h1 : g = g' := h1
    subst h1
    unfold putF putFD
    by_cases q : g = f
    · rw [if_pos q, if_pos q]
      exact .cons ⟨rfl, r⟩ t
    · rw [if_neg q, if_neg q]
      exact .cons ⟨rfl, h2⟩ (fv_put r t)
theorem fv_len (h : FvR K H gs fs) : gs.length = fs.length := plen h
end
theorem keys_set {μ : Mu} {j : Nat} {D : Addr} {m m' : MO} (hj : μ[j]? = some (D, m)) : (μ.set j (D, m')).map (·.1) = μ.map (·.1) := by
  rw [List.map_set]
  obtain ⟨hl, he⟩ := List.getElem?_eq_some_iff.mp hj
  apply List.ext_getElem (by simp)
  intro i h1 h2
  by_cases q : i = j
  · subst q
    simp [he]
  · rw [List.getElem_set_ne (Ne.symm q)]
/-- a call has changed one local object -/
theorem Rep.chgM {K : PySem.W.Frag} {W : Wd} {Γ : List DV} {μ : Mu} {σ : L2.St} {H H' : Hp} {D : Addr} {m m' : MO} {j : Nat} (R : Rep K W Γ μ σ H) (hj : μ[j]? = some (D, m)) (keep : ∀ b o, b ≠ D → H b = some o → H' b = some o) (hm : MOk K (off (hd W μ) H') H' D m') : Rep K W Γ (μ.set j (D, m')) σ H' ∧ Same (off (hd W μ) H) (off (hd W (μ.set j (D, m'))) H') := by
  have hmem : (D, m) ∈ μ := List.mem_of_getElem? hj
  have h0 : W.H0 D = none := (R.mu _ hmem).1
  have keys := keys_set (m' := m') hj
  have hh : hd W (μ.set j (D, m')) = hd W μ := by unfold hd; rw [keys]
  have inD : D ∈ hd W μ := List.mem_append_right _ (List.mem_map.mpr ⟨_, hmem, rfl⟩)
  have oe : Same (off (hd W μ) H) (off (hd W μ) H') := fun a o e => by
    obtain ⟨h1, h2⟩ := off_some e
    rw [off_out h1]
    exact keep a o (fun z => h1 (by rw [z]; exact inD)) h2
  have nrow : ¬ W.isRow D := fun ⟨scr, ns, e⟩ => (R.wd.hid D (R.wd.row _ _ _ e).1) h0
  refine ⟨⟨R.wd, ⟨fun a u n e => keep a u (fun z => by rw [z, h0] at e; cases e) (R.fr.keep a u n e), fun r scr ns e => ?_⟩, ?_, fun p hp => ?_, by rw [keys]; exact R.nd⟩, by rw [hh]; exact oe⟩
  · obtain ⟨i, s, q, e1, e2⟩ := R.fr.row r scr ns e
    exact ⟨i, s, q, keep r _ (fun (z : r = D) => nrow ⟨scr, ns, by rw [← z]; exact e⟩) e1, e2⟩
  · rw [hh]
    exact R.sl.up oe
  · rw [hh]
    obtain ⟨i, hi⟩ := List.getElem?_of_mem hp
    by_cases q : i = j
    · subst q
      rw [List.getElem?_set_self (List.getElem?_eq_some_iff.mp hj).1] at hi
      cases hi
      exact ⟨h0, hm⟩
    · rw [List.getElem?_set_ne (Ne.symm q)] at hi
      have hp' : p ∈ μ := List.mem_of_getElem? hi
      have ne : p.1 ≠ D := fun z => by
        have n := R.nd
        have e1 : (μ.map (·.1))[i]? = some D := by rw [List.getElem?_map, hi]; exact congrArg some z
        have e2 : (μ.map (·.1))[j]? = some D := by rw [List.getElem?_map, hj]; rfl
        exact q (nd_ix n e1 e2)
      exact ⟨(R.mu p hp').1, (R.mu p hp').2.up oe fun u e => keep _ _ ne e⟩
/-- a def whose first argument is an instance, which it may change -/
def spT (K : PySem.W.Frag) (C : Addr) (pre : List (Str × PyData) → List PyData → Prop) (post : List (Str × PyData) → List PyData → List (Str × PyData) → PyData → Prop) : Sp := fun vs H Q _ => ∃ (M : List Addr) (a dx : Addr) (gs : List (Str × V)) (fs : List (Str × PyData)) (ws : List V) (ds : List PyData), vs = .ref a :: ws ∧ (∀ b ∈ M, H b ≠ none) ∧ a ∈ M ∧ H a = some (.ins C dx gs) ∧ FvR K (off M H) gs fs ∧ VaAll K (off M H) ws ds ∧ pre fs ds ∧
  ∀ v H' d fs' dx' gs', post fs ds fs' d → (∀ b o, b ≠ a → H b = some o → H' b = some o) → H' a = some (.ins C dx' gs') → FvR K (off M H') gs' fs' → Va K (off M H') v d → Q v H'
def RetT (K : PySem.W.Frag) (W : Wd) (a C : Addr) (P : List (Str × PyData) → PyData → Prop) : VK := fun v H => Fr W H ∧ ∃ d fs dx gs, P fs d ∧ H a = some (.ins C dx gs) ∧ FvR K (off (W.M ++ [a]) H) gs fs ∧ Va K (off (W.M ++ [a]) H) v d
section
variable {P : Program} {w : World} {K : PySem.W.Frag} {mg : Str → Option Value} {base : Heap} {x qual : Str} {params : Arguments} {body : List Stmt} {scope : Scope} {f : Addr} {fd : FuncData} {N ps : List Str} {k : Nat}
theorem fd_meth (F : FunD K x qual params body scope [] [] f fd) (Sc : FnScope N ps scope) (C : Addr) (pre : List (Str × PyData) → List PyData → Prop) (post : List (Str × PyData) → List PyData → List (Str × PyData) → PyData → Prop) (hlen : ∀ fs ds, pre fs ds → ds.length + 1 = ps.length)
    (h : ∀ (cdv : Value) (A : Around) (outer : List Env) (s : Shared) (H : Hp) (E : XK), Room k (A.deeper (envOfC qual scope s.heap.objs.size f cdv)) → ∀ (W : Wd) (a : Addr) (fs : List (Str × PyData)) (ds : List PyData), W.row = none → pre fs ds →
      Run (cxOf CX0 P w K mg base N qual scope f cdv A outer s H E).nox W (.r a :: (ds.map .d ++ List.replicate (N.length - ps.length) .no)) [(a, .ins C fs)] body { nx := fun _ H' => RetT K W a C (post fs ds) .non H', rt := RetT K W a C (post fs ds) }) :
    FnOk P w K mg base CX0 (k + 1) f fd ps (spT K C pre post) := by
  refine F.ok Sc (fun vs H Q E ⟨M, a, dx, gs, fs, ws, ds, e, _, _, _, _, hv, hpre, _⟩ => by rw [e, List.length_cons, hv.length]; exact hlen fs ds hpre) fun cdv A outer s H vs Q E hr ⟨M, a, dx, gs, fs, ws, ds, e, hM, haM, ha, hf, hv, hp, q⟩ => ?_
  refine ⟨_, PSs.nox wSs.ps, ?_⟩
  let W : Wd := ⟨off [a] H, M.filter fun b => decide (b ≠ a), none⟩
  have memW : ∀ b, b ∈ W.M ↔ b ∈ M ∧ b ≠ a := fun b => by
    show b ∈ M.filter _ ↔ _
    rw [List.mem_filter, decide_eq_true_iff]
  have mem : ∀ b, b ∈ hd W [(a, MO.ins C fs)] ↔ b ∈ M := fun b => by
    show b ∈ W.M ++ [a] ↔ _
    rw [List.mem_append, memW, List.mem_singleton]
    constructor
    · rintro (h | h)
      · exact h.1
      · rw [h]; exact haM
    · intro h
      by_cases q : b = a
      · exact .inr q
      · exact .inl ⟨h, q⟩
  have nr : ∀ a, ¬ W.isRow a := fun a ⟨_, _, e⟩ => nomatch e
  have ok : WdOk K W := ⟨fun b hb => by
    obtain ⟨h1, h2⟩ := (memW b).mp hb
    show off [a] H b ≠ none
    rw [off_out (by simpa using h2)]
    exact hM b h1, fun _ _ _ e => nomatch e⟩
  have oc : ∀ H', off (hd W [(a, MO.ins C fs)]) H' = off M H' := fun H' => off_cong mem
  have sl : Slots K (off (hd W [(a, MO.ins C fs)]) H) (start N vs) (.r a :: (ds.map .d ++ List.replicate (N.length - ps.length) .no)) := by
    rw [oc]
    show Slots K (off M H) (vs.map some ++ List.replicate (N.length - vs.length) none) _
    rw [e, List.length_cons, hv.length, hlen fs ds hp]
    have z := slots_start (K := K) (N.length - ps.length) hv
    refine ⟨by simp [z.len, hv.length], fun i dv hi => ?_⟩
    cases i with
    | zero => cases hi; exact ⟨_, rfl, rfl⟩
    | succ i => exact z.at_ i dv hi
  have ret : ∀ v H', RetT K W a C (post fs ds) v H' → Q v H' := fun v H' ⟨fr, d', fs', dx', gs', e, ea, ef, ev⟩ => by
    have o2 : off (W.M ++ [a]) H' = off M H' := oc H'
    rw [o2] at ef ev
    exact q v H' d' fs' dx' gs' e (fun b o n e => fr.keep b o (nr b) (by show off [a] H b = some o; rw [off_out (by simpa using n)]; exact e)) ea ef ev
  intro pins st I
  have z := h cdv A outer s H E hr W a fs ds rfl hp (start N vs) H ⟨ok, ⟨fun b o _ e => (off_some e).2, fun _ _ _ e => nomatch e⟩, sl, fun p hp => by
    rw [List.mem_singleton.mp hp]
    exact ⟨off_in List.mem_cons_self, dx, gs, ha, by rw [oc]; exact hf⟩, by simp⟩ pins st I
  refine wpAny_mono z (fun fl s' hq => ?_) fun _ _ z => z
  cases fl with
  | next =>
    obtain ⟨σ', H', I', q'⟩ := hq
    exact ⟨σ', H', I', ret _ _ q'⟩
  | brk => exact hq
  | cont => exact hq
  | ret u =>
    obtain ⟨v', σ', H', I', rv, q'⟩ := hq
    exact ⟨v', σ', H', I', rv, ret _ _ q'⟩
end
/-- a method of a class, ready to be called -/
structure FdM (P : Program) (w : World) (K : PySem.W.Frag) (mg : Str → Option Value) (base : Heap) (k : Nat) (C : Addr) (m : Str) (ps : List Str) (sp : Sp) : Prop where
  ex : ∃ (f : Addr) (fd : FuncData), FnOk P w K mg base CX0 k f fd ps sp ∧ Meth K C m f ∧ Binds K fd ps []
theorem FdM.mono {P : Program} {w : World} {K : PySem.W.Frag} {mg : Str → Option Value} {base : Heap} {j k : Nat} {C : Addr} {m : Str} {ps : List Str} {sp : Sp} (F : FdM P w K mg base j C m ps sp) (h : j ≤ k) : FdM P w K mg base k C m ps sp := by
  obtain ⟨f, fd, h1, h2, h3⟩ := F.ex
  exact ⟨f, fd, h1.mono h, h2, h3⟩
section
variable {X : Cx} {W W0 : Wd} {Γ : List DV} {μ : Mu} {e value : Expr} {es : List Expr} {rest : List Stmt} {D : Ends} {pos p p1 p2 pos' apos : Pos} {n m fn : Str} {a C : Addr} {fs : List (Str × PyData)} {ds : List PyData} {d : PyData} {k : Nat} {ps : List Str}
/-- what a local instance is -/
theorem ins_at {σ : L2.St} {H : Hp} (R : Rep X.K W Γ μ σ H) {j : Nat} (hj : μ[j]? = some (a, .ins C fs)) : ∃ dx gs, H a = some (.ins C dx gs) ∧ FvR X.K (off (hd W μ) H) gs fs := (R.mu _ (List.mem_of_getElem? hj)).2
/-- o.f -/
theorem ed_fld (i j : Nat) (c : Cls X.K C) (nf : NoAttr X.K C fn) (hl : fs.lookup fn = some d) (hi : Γ[i]? = some (.r a) := by rfl) (hj : μ[j]? = some (a, .ins C fs) := by rfl) (hN : X.N[i]? = some n := by rfl) (hv : Vis X.env.scope n := by first | exact Or.inl rfl | exact Or.inr (Or.inl rfl) | exact Or.inr (Or.inr rfl))
    (h1 : (n == ("__debug__" : Str)) = false := by decide) (h2 : (n == ("__classdict__" : Str)) = false := by decide) (hb : attributeBase (.Name n p) fn X.env (eval (.Name n p) X.env) = eval (.Name n p) X.env := by rfl) : Ed X W Γ μ (.Attribute (.Name n p) fn pos) d := fun σ H R Q q => by
  refine (pe_fld (pe_var hN hv h1 h2) hb).w ?_
  obtain ⟨o, g1, g2⟩ := R.sl.at_ i _ hi
  have g2' : o = some (.ref a) := g2
  subst g2'
  obtain ⟨dx, gs, ha, hf⟩ := ins_at R hj
  obtain ⟨v, hv1, hv2⟩ := fv_some hf hl
  exact ⟨_, g1, a, C, dx, gs, v, rfl, ha, c, nf, hv1, q v H R XT.refl hv2⟩
/-- o.f = value -/
theorem run_fset (i j : Nat) (c : Cls X.K C) (nf : NoAttr X.K C fn) (he : Ed X W Γ μ value d) (hlen : fs.length < 1000) (h : Run X W Γ (μ.set j (a, .ins C (putFD fn d fs))) rest D) (hi : Γ[i]? = some (.r a) := by rfl) (hj : μ[j]? = some (a, .ins C fs) := by rfl) (hN : X.N[i]? = some n := by rfl) (hv : Vis X.env.scope n := by first | exact Or.inl rfl | exact Or.inr (Or.inl rfl) | exact Or.inr (Or.inr rfl))
    (h1 : (n == ("__debug__" : Str)) = false := by decide) (h2 : (n == ("__classdict__" : Str)) = false := by decide) (hs : swapsWith value (some (.Attribute (.Name n p) fn pos')) pos.line X.env = pure false := by rfl) : Run X W Γ μ (.Assign [.Attribute (.Name n p) fn pos'] value pos :: rest) D := fun σ H R => by
  refine wSs_cons ((ps_fld (pe_var hN hv h1 h2) wE.pe hs).w (he σ H R _ fun v H2 R2 e2 r2 => ?_))
  obtain ⟨o, g1, g2⟩ := R2.sl.at_ i _ hi
  have g2' : o = some (.ref a) := g2
  subst g2'
  obtain ⟨dx, gs, ha, hf⟩ := ins_at R2 hj
  refine ⟨_, g1, a, C, dx, gs, rfl, ha, c, nf, by rw [fv_len hf]; exact hlen, h _ _ (R2.chg (m := .ins C fs) hj ⟨dx, _, upd_same, fv_put r2 hf⟩)⟩
/-- how a call of a def with an instance ends -/
theorem spT_call {pre : List (Str × PyData) → List PyData → Prop} {post : List (Str × PyData) → List PyData → List (Str × PyData) → PyData → Prop} {σ : L2.St} {H H2 : Hp} {j : Nat} {vs : List V} {E : XK} {Q : VK} (R2 : Rep X.K W Γ μ σ H2) (e2 : Same (off (hd W μ) H) (off (hd W μ) H2)) (hj : μ[j]? = some (a, .ins C fs)) (r2 : VaAll X.K (off (hd W μ) H2) vs ds) (hp : pre fs ds)
    (q : ∀ v d μ' H2, Rep X.K W Γ μ' σ H2 → Same (off (hd W μ) H) (off (hd W μ') H2) → Va X.K (off (hd W μ') H2) v d → (∃ fs', post fs ds fs' d ∧ μ' = μ.set j (a, .ins C fs')) → Q v H2) : spT X.K C pre post (.ref a :: vs) H2 Q E := by
  obtain ⟨dx, gs, ha, hf⟩ := ins_at R2 hj
  refine ⟨hd W μ, a, dx, gs, fs, vs, ds, rfl, R2.ne, List.mem_append_right _ (List.mem_map.mpr ⟨_, List.mem_of_getElem? hj, rfl⟩), ha, hf, r2, hp, fun v H3 d fs' dx' gs' po keep ha' hf' rv => ?_⟩
  obtain ⟨R3, s3⟩ := R2.chgM (m' := .ins C fs') hj keep ⟨dx', gs', ha', hf'⟩
  have hh : hd W (μ.set j (a, .ins C fs')) = hd W μ := by unfold hd; rw [keys_set (m' := .ins C fs') hj]
  exact q v d _ H3 R3 (same_trans e2 s3) (by rw [hh]; exact rv) ⟨fs', po, rfl⟩
/-- o.m(e, ..) -/
theorem em_meth (i j : Nat) {pre : List (Str × PyData) → List PyData → Prop} {post : List (Str × PyData) → List PyData → List (Str × PyData) → PyData → Prop} (F : FdM X.prog X.w X.K X.mg X.base k C m ps (spT X.K C pre post)) (hr : Room k X.A) (c : Cls X.K C) (hl : fs.lookup m = none) (ha : EdA X W Γ μ (e :: es) ds) (hp : pre fs ds) {pl : Sem Bool} (hi : Γ[i]? = some (.r a) := by rfl) (hj : μ[j]? = some (a, .ins C fs) := by rfl) (hN : X.N[i]? = some n := by rfl) (hv : Vis X.env.scope n := by first | exact Or.inl rfl | exact Or.inr (Or.inl rfl) | exact Or.inr (Or.inr rfl))
    (h1 : (n == ("__debug__" : Str)) = false := by decide) (h2 : (n == ("__classdict__" : Str)) = false := by decide)
    (hst : starEach (e :: es) X.env = (false, eval e X.env) :: starEach es X.env := by rfl) (hpl : (backTo pos (starEach es X.env)).any (·.1) = false := by rfl)
    (ht : eval (.Call (.Attribute (.Name n p) m apos) (e :: es) [] pos) X.env = (do
      let ov ← eval (.Name n p) X.env
      PySem.standAt apos.atName
      let (f, first) ← holding [ov] (getMethod ov m pl)
      callWith pos f first (backTo pos (starEach (e :: es) X.env)) (backToKw pos (keywordEach [] X.env))) := by rfl) : EvM X W Γ μ (.Call (.Attribute (.Name n p) m apos) (e :: es) [] pos) (fun d μ' => ∃ fs', post fs ds fs' d ∧ μ' = μ.set j (a, .ins C fs')) := fun σ H R Q q => by
  obtain ⟨f, fd, g1, g2, g3⟩ := F.ex
  refine (pe_meth (pl := pl) (E := fun _ _ _ => True) (pe_var hN hv h1 h2) c g2 g1 hr g3 .nil pass0 wA.pa hst hpl ht).w ?_
  obtain ⟨o, e1, e2⟩ := R.sl.at_ i _ hi
  have e2' : o = some (.ref a) := e2
  subst e2'
  obtain ⟨dx, gs, ha0, hf0⟩ := ins_at R hj
  refine ⟨_, e1, a, dx, gs, rfl, ha0, fv_none hf0 hl, ha σ H R _ fun vs H2 R2 x2 r2 => ?_⟩
  rw [List.append_nil]
  exact spT_call R2 x2 hj r2 hp q
theorem em_meth0 (i j : Nat) {pre : List (Str × PyData) → List PyData → Prop} {post : List (Str × PyData) → List PyData → List (Str × PyData) → PyData → Prop} (F : FdM X.prog X.w X.K X.mg X.base k C m ps (spT X.K C pre post)) (hr : Room k X.A) (c : Cls X.K C) (hl : fs.lookup m = none) (hp : pre fs []) {pl : Sem Bool} (hi : Γ[i]? = some (.r a) := by rfl) (hj : μ[j]? = some (a, .ins C fs) := by rfl) (hN : X.N[i]? = some n := by rfl) (hv : Vis X.env.scope n := by first | exact Or.inl rfl | exact Or.inr (Or.inl rfl) | exact Or.inr (Or.inr rfl))
    (h1 : (n == ("__debug__" : Str)) = false := by decide) (h2 : (n == ("__classdict__" : Str)) = false := by decide)
    (ht : eval (.Call (.Attribute (.Name n p) m apos) [] [] pos) X.env = (do
      let ov ← eval (.Name n p) X.env
      PySem.standAt apos.atName
      let (f, first) ← holding [ov] (getMethod ov m pl)
      callWith pos f first (backTo pos (starEach [] X.env)) (backToKw pos (keywordEach [] X.env))) := by rfl) : EvM X W Γ μ (.Call (.Attribute (.Name n p) m apos) [] [] pos) (fun d μ' => ∃ fs', post fs [] fs' d ∧ μ' = μ.set j (a, .ins C fs')) := fun σ H R Q q => by
  obtain ⟨f, fd, g1, g2, g3⟩ := F.ex
  refine (pe_meth0 (pl := pl) (E := fun _ _ _ => True) (pe_var hN hv h1 h2) c g2 g1 hr g3 .nil pass0 ht).w ?_
  obtain ⟨o, e1, e2⟩ := R.sl.at_ i _ hi
  have e2' : o = some (.ref a) := e2
  subst e2'
  obtain ⟨dx, gs, ha0, hf0⟩ := ins_at R hj
  refine ⟨_, e1, a, dx, gs, rfl, ha0, fv_none hf0 hl, ?_⟩
  show spT X.K C pre post [V.ref a] H Q (fun _ _ _ => True)
  exact spT_call R (Same.refl _) hj .nil hp q
/-- f(o, e, ..) -/
theorem em_call (i j : Nat) {x : Str} {pre : List (Str × PyData) → List PyData → Prop} {post : List (Str × PyData) → List PyData → List (Str × PyData) → PyData → Prop} (F : Fd X.prog X.w X.K X.mg X.base k x ps (spT X.K C pre post)) (hr : Room k X.A) (ha : EdA X W Γ μ es ds) (hp : pre fs ds) (hi : Γ[i]? = some (.r a) := by rfl) (hj : μ[j]? = some (a, .ins C fs) := by rfl) (hN : X.N[i]? = some n := by rfl) (hv : Vis X.env.scope n := by first | exact Or.inl rfl | exact Or.inr (Or.inl rfl) | exact Or.inr (Or.inr rfl))
    (h1 : (n == ("__debug__" : Str)) = false := by decide) (h2 : (n == ("__classdict__" : Str)) = false := by decide) (hg : Gl X x := by rfl)
    (hdb : (x == ("__debug__" : Str)) = false := by decide) (he : starEach (.Name n p2 :: es) X.env = (false, eval (.Name n p2) X.env) :: starEach es X.env := by rfl) (hpl : (backTo pos (starEach es X.env)).any (·.1) = false := by rfl) :
    EvM X W Γ μ (.Call (.Name x p) (.Name n p2 :: es) [] pos) (fun d μ' => ∃ fs', post fs ds fs' d ∧ μ' = μ.set j (a, .ins C fs')) := fun σ H R Q q => by
  obtain ⟨f, fd, g1, g2, g3, g4⟩ := F.ex
  refine (pe_call g1 hr hg g2 g3 g4 .nil pass0 (pa_cons (pe_var hN hv h1 h2) wA.pa he) hdb he hpl).w ?_
  obtain ⟨o, e1, e2⟩ := R.sl.at_ i _ hi
  have e2' : o = some (.ref a) := e2
  subst e2'
  refine ⟨_, e1, ha σ H R _ fun vs H2 R2 x2 r2 => ?_⟩
  show spT X.K C pre post ((V.ref a :: vs) ++ []) H2 Q _
  rw [List.append_nil]
  exact spT_call R2 x2 hj r2 hp q
/-- C(e, ..) -/
theorem em_make {x : Str} {g : Addr} {fd : FuncData} {pre : List (Str × PyData) → List PyData → Prop} {post : List (Str × PyData) → List PyData → List (Str × PyData) → PyData → Prop} (Mk_ : Mk X.K C g) (F : FnOk X.prog X.w X.K X.mg X.base CX0 k g fd ps (spT X.K C pre post)) (hb : Binds X.K fd ps []) (hr : Room (k + 1) X.A) (hm : X.mg x = some (.ref C)) (ha : EdA X W Γ μ (e :: es) ds) (hp : pre [] ds) (hz : ∀ fs' d, post [] ds fs' d → d = .none) (hg : Gl X x := by rfl)
    (hdb : (x == ("__debug__" : Str)) = false := by decide) (he : starEach (e :: es) X.env = (false, eval e X.env) :: starEach es X.env := by rfl) (hpl : (backTo pos (starEach es X.env)).any (·.1) = false := by rfl) :
    EvM X W Γ μ (.Call (.Name x p) (e :: es) [] pos) (fun d μ' => ∃ l fs' z, post [] ds fs' z ∧ d = ptD l ∧ μ' = (l, .ins C fs') :: μ) := fun σ H R Q q => by
  refine (pe_make Mk_ F hr hg hm hb .nil pass0 wA.pa hdb he hpl).w ?_
  refine ha σ H R _ fun vs H2 R2 x2 r2 l dx hl hdx hne => ?_
  rw [List.append_nil]
  have s1 := same_new (o := HO.own l) hdx
  have R3 := R2.same s1
  have hl3 : upd H2 dx (.own l) l = none := by rw [upd_ne (Ne.symm hne)]; exact hl
  have R4 := R3.born (D := l) (m := .ins C []) (o := .ins C dx []) hl3 ⟨dx, [], upd_same, .nil⟩
  have up : ∀ b o, off (hd W μ) H2 b = some o → off (hd W ((l, .ins C []) :: μ)) (upd (upd H2 dx (.own l)) l (.ins C dx [])) b = some o := fun b o e => by
    obtain ⟨z1, z2⟩ := off_some e
    have n1 : b ≠ l := fun z => by rw [z, hl] at z2; cases z2
    rw [off_out, upd_ne n1]
    · exact s1 b o z2
    · intro z
      rcases List.mem_append.mp z with z | z
      · exact z1 (List.mem_append_left _ z)
      · rcases List.mem_cons.mp z with z | z
        · exact n1 z
        · exact z1 (List.mem_append_right _ z)
  refine spT_call (H := upd (upd H2 dx (.own l)) l (.ins C dx [])) (j := 0) (fs := []) R4 (Same.refl _) rfl (r2.up up) hp fun v d μ' H5 R5 s5 r5 ⟨fs', po, eμ⟩ => ?_
  subst eμ
  obtain rfl := hz fs' d po
  cases r5
  exact ⟨rfl, q (.ref l) (ptD l) _ H5 R5 (same_trans x2 (same_trans up s5)) (.ptr l) ⟨l, fs', _, po, rfl, rfl⟩⟩
/-- return from a def with an instance -/
theorem run_retT {P : List (Str × PyData) → PyData → Prop} {nx bk ct : L2.St → Hp → Prop} (j : Nat) (he : Ed X W Γ μ e d) (hp : P fs d) (hj : μ[j]? = some (a, .ins C fs) := by rfl) : Run X W Γ μ (.Return (some e) pos :: rest) ⟨nx, RetT X.K W a C P, bk, ct⟩ :=
  run_retR he fun v σ H R r => by
    have sub : Same (off (hd W μ) H) (off (W.M ++ [a]) H) := same_offs fun b hb => by
      rcases List.mem_append.mp hb with z | z
      · exact List.mem_append_left _ z
      · rw [List.mem_singleton.mp z]
        exact List.mem_append_right _ (List.mem_map.mpr ⟨_, List.mem_of_getElem? hj, rfl⟩)
    obtain ⟨dx, gs, ha, hf⟩ := ins_at R hj
    exact ⟨R.fr, d, fs, dx, gs, hp, ha, hf.up sub, r.up sub⟩
/-- .. by its end -/
theorem run_endT {P : List (Str × PyData) → PyData → Prop} {rt : VK} {bk ct : L2.St → Hp → Prop} (j : Nat) (hp : P fs .none) (hj : μ[j]? = some (a, .ins C fs) := by rfl) : Run X W Γ μ [] ⟨fun _ H' => RetT X.K W a C P .non H', rt, bk, ct⟩ :=
  run_nil fun σ H R => by
    have sub : Same (off (hd W μ) H) (off (W.M ++ [a]) H) := same_offs fun b hb => by
      rcases List.mem_append.mp hb with z | z
      · exact List.mem_append_left _ z
      · rw [List.mem_singleton.mp z]
        exact List.mem_append_right _ (List.mem_map.mpr ⟨_, List.mem_of_getElem? hj, rfl⟩)
    obtain ⟨dx, gs, ha, hf⟩ := ins_at R hj
    exact ⟨R.fr, .none, fs, dx, gs, hp, ha, hf.up sub, .non⟩
end
end HW
set_option maxHeartbeats 4000000
namespace HW
open PySem PySem.Spec PyProof.Rows L2
open SX (S)
/-! ### a class that is made, a method that is called, and raises -/
section
variable {X : Cx} {CX : CXT} {k : Nat} {f C : Addr} {fd : FuncData} {ps : List Str} {sp : Sp} {E : L2.St → XK} {x m : Str} {p pos apos : Pos} {e o : Expr} {es : List Expr} {ta : TE} {t : TA}
def tMethS (C : Addr) (m : Str) (sp : Sp) (E : L2.St → XK) (ta : TE) (t : TA) : TE := fun σ H Q => ta σ H fun x H1 => ∃ a dx fs, x = .ref a ∧ H1 a = some (.ins C dx fs) ∧ fs.lookup m = none ∧
  t σ H1 fun vs H2 => sp (x :: vs) H2 Q (E σ)
theorem pe_methS {pl : Sem Bool} (he : PE X o ta) (c : Cls X.K C) (hm : Meth X.K C m f) (F : FnOk X.prog X.w X.K X.mg X.base CX k f fd ps sp) (hr : Room k X.A) (hb : Binds X.K fd ps []) (hx : ∀ σ, PassesAt CX X σ (E σ)) (ha : PA X (e :: es) t)
    (hst : starEach (e :: es) X.env = (false, eval e X.env) :: starEach es X.env := by rfl) (hpl : (backTo pos (starEach es X.env)).any (·.1) = false := by rfl)
    (ht : eval (.Call (.Attribute o m apos) (e :: es) [] pos) X.env = (do
      let ov ← eval o X.env
      PySem.standAt apos.atName
      let (f, first) ← holding [ov] (getMethod ov m pl)
      callWith pos f first (backTo pos (starEach (e :: es) X.env)) (backToKw pos (keywordEach [] X.env))) := by rfl) :
    PE X (.Call (.Attribute o m apos) (e :: es) [] pos) (tMethS C m sp E ta t) := by
  refine ⟨fun pins s σ H Q I h => ?_⟩
  refine PySem.W.methodCall_KW (pl := pl) (thn (he.run pins s σ H _ I h) fun u s1 ⟨x, H1, I1, rx, a, dx, fs, ex, ea, l, q⟩ => ?_) ht
  subst ex
  obtain rfl : u = Value.ref a := rx
  refine getmeth_ok I1 ea c hm l ?_
  refine PySem.W.callWith_K (first := [.ref a]) (h₀ := X.base) I.ok.mod.kin hm.kp (thn (ha.run pos pins s1 σ H1 _ I1 q) fun us s2 ⟨vs, H2, I2, r, q2⟩ => ⟨I2.kIn, ?_⟩) hst hpl
  exact run_fnS (us := .ref a :: us) (vs := .ref a :: vs) F hr hb (hx σ) I2 (.cons rfl r) q2
end
/-- a class whose making raises -/
structure MkX (P : Program) (w : World) (K : PySem.W.Frag) (mg : Str → Option Value) (base : Heap) (k : Nat) (x : Str) (ps : List Str) (R : List PyData → Str → Option (Str × PyData) → Prop) : Prop where
  ex : ∃ (C f : Addr) (fd : FuncData) (j : Nat), j < k ∧ mg x = some (.ref C) ∧ Mk K C f ∧ FnOk P w K mg base (L2.CX P w) j f fd ps (spX K R) ∧ Binds K fd ps []
theorem MkX.mono {P : Program} {w : World} {K : PySem.W.Frag} {mg : Str → Option Value} {base : Heap} {j k : Nat} {x : Str} {ps : List Str} {R : List PyData → Str → Option (Str × PyData) → Prop} (F : MkX P w K mg base j x ps R) (h : j ≤ k) : MkX P w K mg base k x ps R := by
  obtain ⟨C, f, fd, i, h0, h1, h2, h3, h4⟩ := F.ex
  exact ⟨C, f, fd, i, Nat.lt_of_lt_of_le h0 h, h1, h2, h3, h4⟩
section
variable {X : Cx} {W : Wd} {Γ : List DV} {μ : Mu} {e : Expr} {es : List Expr} {ds : List PyData} {x f : Str} {fo : Option (Str × PyData)} {ps : List Str} {k : Nat} {p pos : Pos} {W0 : WX} {R : List PyData → Str → Option (Str × PyData) → Prop}
end
/-! ### masks and rows refused -/
end HW
namespace HW
open PySem PySem.Spec PyProof.Rows L2
open SX (S)
section
variable {X : Cx} {W : Wd} {Γ : List DV} {μ : Mu} {a b : Expr} {pos : Pos}
end
end HW
set_option maxHeartbeats 4000000
namespace HW
open PySem PySem.Spec PyProof.Rows L2
open SX (S)
/-! ### attributes as targets; len of an instance; an instance that is told -/
section
variable {X : Cx} {o : Expr} {f : Str} {pos : Pos} {to : TE}
def gFld (K : PySem.W.Frag) (to : TE) (f : Str) : TG := fun v σ H Q => to σ H fun x H1 => ∃ a C dx fs, x = .ref a ∧ H1 a = some (.ins C dx fs) ∧ Cls K C ∧ NoAttr K C f ∧ fs.length < 1000 ∧ Q σ (upd H1 a (.ins C dx (putF f v fs)))
theorem pg_fld (ho : PE X o to) : PG X (.Attribute o f pos) (gFld X.K to f) := by
  refine ⟨fun pins s σ H v u Q I r h => ?_⟩
  refine PySem.W.kas_attr (thn (ho.run pins s σ H _ I h) fun ov s1 ⟨x, H1, I1, rx, a, C, dx, fs, ex, ea, c, n, l, q⟩ => ?_)
  subst ex
  obtain rfl : ov = Value.ref a := rx
  exact setattr_ok I1 ea c n l r fun s2 I2 => ⟨σ, _, I2, q⟩
end
theorem off_upd_in {L : List Addr} {H : Hp} {D : Addr} {o : HO} (h : D ∈ L) : off L (upd H D o) = off L H := by
  funext a
  unfold off
  by_cases q : a ∈ L
  · rw [if_pos q, if_pos q]
  · rw [if_neg q, if_neg q, upd_ne (fun (z : a = D) => q (by rw [z]; exact h))]
theorem va_all2 {K : PySem.W.Frag} {H : Hp} {vs : List V} {x y : PyData} (h : VaAll K H vs [x, y]) : ∃ u v, vs = [u, v] ∧ Va K H u x ∧ Va K H v y := by
  cases h with
  | cons h1 h =>
    cases h with
    | cons h2 h =>
      cases h
      exact ⟨_, _, rfl, h1, h2⟩
section
variable {X : Cx} {W W0 : Wd} {Γ : List DV} {μ : Mu} {e value : Expr} {es : List Expr} {rest : List Stmt} {D : Ends} {pos p p1 p2 q1 q2 pos' apos : Pos} {n m f1 f2 : Str} {a C : Addr} {fs : List (Str × PyData)} {ds : List PyData} {d x y : PyData} {k : Nat} {ps : List Str}
/-- o.f1, o.f2 = x, y -/
theorem run_fset2 (i j : Nat) {kt : Nat} {pt : Pos} (c : Cls X.K C) (n1 : NoAttr X.K C f1) (n2 : NoAttr X.K C f2) (he : Ed X W Γ μ e (.tuple [x, y])) (hlen : fs.length < 998) (h : Run X W Γ (μ.set j (a, .ins C (putFD f2 y (putFD f1 x fs)))) rest D) (hi : Γ[i]? = some (.r a) := by rfl) (hj : μ[j]? = some (a, .ins C fs) := by rfl) (hN : X.N[i]? = some n := by rfl) (hv : Vis X.env.scope n := by first | exact Or.inl rfl | exact Or.inr (Or.inl rfl) | exact Or.inr (Or.inr rfl))
    (h1 : (n == ("__debug__" : Str)) = false := by decide) (h2 : (n == ("__classdict__" : Str)) = false := by decide) (hc : X.calm = true := by rfl)
    (hs : swapsWithSole [.Tuple [.Attribute (.Name n p1) f1 q1, .Attribute (.Name n p2) f2 q2] kt pt] e pos.line X.env = pure false := by rfl) (hw : swappedStores [.Tuple [.Attribute (.Name n p1) f1 q1, .Attribute (.Name n p2) f2 q2] kt pt] e X.env = pure none := by rfl)
    (ha : (assignEach [.Tuple [.Attribute (.Name n p1) f1 q1, .Attribute (.Name n p2) f2 q2] kt pt] X.env).map (·.2) = [assign (.Tuple [.Attribute (.Name n p1) f1 q1, .Attribute (.Name n p2) f2 q2] kt pt) X.env] := by rfl) :
    Run X W Γ μ (.Assign [.Tuple [.Attribute (.Name n p1) f1 q1, .Attribute (.Name n p2) f2 q2] kt pt] e pos :: rest) D := fun σ H R => by
  refine wSs_cons ((ps_asg wE.pe (pg_tup hc (pgs_cons (pg_fld (pe_var hN hv h1 h2)) (pgs_cons (pg_fld (pe_var hN hv h1 h2)) pgs_nil))) hs hw ha).w (he σ H R _ fun v H2 R2 e2 r => ?_))
  cases r with
  | tup ht hvs =>
    obtain ⟨u1, u2, rfl, r1, r2⟩ := va_all2 hvs
    obtain ⟨o, g1, g2⟩ := R2.sl.at_ i _ hi
    have g2' : o = some (.ref a) := g2
    subst g2'
    obtain ⟨dx, gs, ha0, hf⟩ := ins_at R2 hj
    have inD : a ∈ hd W μ := List.mem_append_right _ (List.mem_map.mpr ⟨_, List.mem_of_getElem? hj, rfl⟩)
    have R3 := R2.chg (m := .ins C fs) (m' := .ins C (putFD f1 x fs)) (o := .ins C dx (putF f1 u1 gs)) hj ⟨dx, _, upd_same, fv_put r1 hf⟩
    have hl := (List.getElem?_eq_some_iff.mp hj).1
    have hj3 : (μ.set j (a, MO.ins C (putFD f1 x fs)))[j]? = some (a, .ins C (putFD f1 x fs)) := List.getElem?_set_self hl
    obtain ⟨dx3, gs3, ha3, hf3⟩ := ins_at R3 hj3
    have hh : hd W (μ.set j (a, MO.ins C (putFD f1 x fs))) = hd W μ := by unfold hd; rw [keys_set hj]
    have r23 : Va X.K (off (hd W (μ.set j (a, MO.ins C (putFD f1 x fs)))) (upd H2 a (.ins C dx (putF f1 u1 gs)))) u2 y := by
      rw [hh, off_upd_in inD]
      exact r2
    have R4 := R3.chg (m := .ins C (putFD f1 x fs)) (m' := .ins C (putFD f2 y (putFD f1 x fs))) (o := .ins C dx3 (putF f2 u2 gs3)) hj3 ⟨dx3, _, upd_same, fv_put r23 hf3⟩
    rw [List.set_set] at R4
    have hgl := fv_len hf
    refine ⟨_, _, rfl, SqT.up same_off ht, rfl, _, _, rfl, ⟨_, g1, a, C, dx, gs, rfl, ha0, c, n1, by omega, _, _, rfl, ⟨_, g1, a, C, dx3, gs3, rfl, ha3, c, n2, ?_, rfl, h _ _ R4⟩⟩⟩
    rw [fv_len hf3]
    have : ∀ (l : List (Str × PyData)), (putFD f1 x l).length ≤ l.length + 1 := fun l => by
      induction l with
      | nil => exact Nat.le_refl _
      | cons q l ih =>
        obtain ⟨g, z⟩ := q
        unfold putFD
        split
        · simp
        · simp only [List.length_cons]; omega
    have := this fs
    omega
theorem len_own {prog : Program} {w : World} {A : Around} {E : Value → Shared → Prop} {s : Shared} {K : PySem.W.Frag} {x C f : Addr} {ox : Obj} {od : Option Obj} {Q : Value → Shared → Prop} (X₀ : K.In s.heap) (I : PySem.W.InstAt s.heap x ox C od) (hs : PySem.W.findIn K (.ref C) "__len__" = some (some (.ref f))) (hf : PySem.W.isFn K (.ref f) = true)
    (h : wpAny (model prog w) A.in1 (call (.ref f) [.ref x]) (PySem.W.LenBack Q) E s) : wpAny (model prog w) A (call (.builtin "len") [.ref x]) Q E s := by
  refine Calls.call_function_entry kind_len plain_len entry_len (args_len1 _) ?_
  unfold Builtin.«len»
  refine wpAny_bind (m := oneArg "len" _) (wpAny_pure ?_)
  refine wpAny_bind (m := callSpecial? (.ref x) (Str.ofString "__len__")) (PySem.W.special_fn X₀ I hs (beq_iff_eq.mp hf) (wpAny_mono h (fun r s' hr => ?_) fun _ _ y => y))
  cases r <;> first | exact hr.elim | skip
  rename_i n u
  obtain ⟨⟨h0, h1⟩, hq⟩ := hr
  refine wpAny_bind (wpAny_holding (wpAny_pure ?_))
  refine wpAny_bind (wpAny_letGo ?_)
  show wpAny _ _ (if n < 0 then _ else _) _ _ _
  rw [if_neg (by omega)]
  show wpAny _ _ (if n ≥ 2 ^ 63 then _ else _) _ _ _
  rw [if_neg (by omega)]
  exact wpAny_bind (wpAny_mkInt (wpAny_pure ⟨_, rfl, hq⟩))
end
end HW
set_option maxHeartbeats 4000000
namespace HW
open PySem PySem.Spec PyProof.Rows L2
open SX (S)
theorem set_same {α : Type} {l : List α} {j : Nat} {x : α} (h : l[j]? = some x) : l.set j x = l := by
  apply List.ext_getElem?
  intro i
  by_cases q : i = j
  · subst q
    rw [List.getElem?_set_self (List.getElem?_eq_some_iff.mp h).1, h]
  · rw [List.getElem?_set_ne (Ne.symm q)]
/-- a class of the program, ready to be made -/
structure MkT (P : Program) (w : World) (K : PySem.W.Frag) (mg : Str → Option Value) (base : Heap) (k : Nat) (C : Addr) (x : Str) (ps : List Str) (sp : Sp) : Prop where
  ex : ∃ (f : Addr) (fd : FuncData) (j : Nat), j < k ∧ mg x = some (.ref C) ∧ Mk K C f ∧ FnOk P w K mg base CX0 j f fd ps sp ∧ Binds K fd ps []
theorem MkT.mono {P : Program} {w : World} {K : PySem.W.Frag} {mg : Str → Option Value} {base : Heap} {j k : Nat} {C : Addr} {x : Str} {ps : List Str} {sp : Sp} (F : MkT P w K mg base j C x ps sp) (h : j ≤ k) : MkT P w K mg base k C x ps sp := by
  obtain ⟨f, fd, i, h0, h1, h2, h3, h4⟩ := F.ex
  exact ⟨f, fd, i, Nat.lt_of_lt_of_le h0 h, h1, h2, h3, h4⟩
/-- a def that tells a new instance like its own -/
def spC (K : PySem.W.Frag) (C : Addr) (pre : List (Str × PyData) → Prop) : Sp := fun vs H Q _ => ∃ (M : List Addr) (a dx : Addr) (gs : List (Str × V)) (fs : List (Str × PyData)), vs = [.ref a] ∧ (∀ b ∈ M, H b ≠ none) ∧ a ∈ M ∧ H a = some (.ins C dx gs) ∧ FvR K (off M H) gs fs ∧ pre fs ∧
  ∀ l H' dx' gs' dxl gsl, H l = none → (∀ b o, b ≠ a → H b = some o → H' b = some o) → H' a = some (.ins C dx' gs') → FvR K (off (l :: M) H') gs' fs → H' l = some (.ins C dxl gsl) → FvR K (off (l :: M) H') gsl fs → Q (.ref l) H'
def RetC (K : PySem.W.Frag) (W : Wd) (a C : Addr) (fs : List (Str × PyData)) : VK := fun v H => Fr W H ∧ ∃ l dx gs dxl gsl, v = .ref l ∧ W.H0 l = none ∧ l ≠ a ∧ H a = some (.ins C dx gs) ∧ FvR K (off (l :: (W.M ++ [a])) H) gs fs ∧ H l = some (.ins C dxl gsl) ∧ FvR K (off (l :: (W.M ++ [a])) H) gsl fs
section
variable {P : Program} {w : World} {K : PySem.W.Frag} {mg : Str → Option Value} {base : Heap} {x qual : Str} {params : Arguments} {body : List Stmt} {scope : Scope} {f : Addr} {fd : FuncData} {N ps : List Str} {k : Nat}
theorem fd_copy (F : FunD K x qual params body scope [] [] f fd) (Sc : FnScope N ps scope) (C : Addr) (pre : List (Str × PyData) → Prop) (hlen : ps.length = 1)
    (h : ∀ (cdv : Value) (A : Around) (outer : List Env) (s : Shared) (H : Hp) (E : XK), Room k (A.deeper (envOfC qual scope s.heap.objs.size f cdv)) → ∀ (W : Wd) (a : Addr) (fs : List (Str × PyData)), W.row = none → pre fs →
      Run (cxOf CX0 P w K mg base N qual scope f cdv A outer s H E).nox W (.r a :: List.replicate (N.length - 1) .no) [(a, .ins C fs)] body { nx := fun _ H' => RetC K W a C fs .non H', rt := RetC K W a C fs }) :
    FnOk P w K mg base CX0 (k + 1) f fd ps (spC K C pre) := by
  refine F.ok Sc (fun vs H Q E ⟨M, a, dx, gs, fs, e, _⟩ => by rw [e, hlen]; rfl) fun cdv A outer s H vs Q E hr ⟨M, a, dx, gs, fs, e, hM, haM, ha, hf, hp, q⟩ => ?_
  refine ⟨_, PSs.nox wSs.ps, ?_⟩
  let W : Wd := ⟨off [a] H, M.filter fun b => decide (b ≠ a), none⟩
  have memW : ∀ b, b ∈ W.M ↔ b ∈ M ∧ b ≠ a := fun b => by
    show b ∈ M.filter _ ↔ _
    rw [List.mem_filter, decide_eq_true_iff]
  have mem : ∀ b, b ∈ W.M ++ [a] ↔ b ∈ M := fun b => by
    rw [List.mem_append, memW, List.mem_singleton]
    constructor
    · rintro (h | h)
      · exact h.1
      · rw [h]; exact haM
    · intro h
      by_cases q : b = a
      · exact .inr q
      · exact .inl ⟨h, q⟩
  have nr : ∀ a, ¬ W.isRow a := fun a ⟨_, _, e⟩ => nomatch e
  have ok : WdOk K W := ⟨fun b hb => by
    obtain ⟨h1, h2⟩ := (memW b).mp hb
    show off [a] H b ≠ none
    rw [off_out (by simpa using h2)]
    exact hM b h1, fun _ _ _ e => nomatch e⟩
  have oc : ∀ H', off (hd W [(a, MO.ins C fs)]) H' = off M H' := fun H' => off_cong mem
  have sl : Slots K (off (hd W [(a, MO.ins C fs)]) H) (start N vs) (.r a :: List.replicate (N.length - 1) .no) := by
    rw [oc, e]
    have z := slots_start (K := K) (H := off M H) (vs := []) (ds := []) (N.length - 1) .nil
    show Slots K (off M H) (some (V.ref a) :: List.replicate (N.length - 1) none) _
    refine ⟨by simp, fun i dv hi => ?_⟩
    cases i with
    | zero => cases hi; exact ⟨_, rfl, rfl⟩
    | succ i => exact z.at_ i dv hi
  have ret : ∀ v H', RetC K W a C fs v H' → Q v H' := fun v H' ⟨fr, l, dx', gs', dxl, gsl, ev, hl, hla, ea, ef, el, efl⟩ => by
    have o2 : off (l :: (W.M ++ [a])) H' = off (l :: M) H' := off_cong fun b => by
      rw [List.mem_cons, List.mem_cons, mem]
    rw [o2] at ef efl
    subst ev
    refine q l H' dx' gs' dxl gsl ?_ (fun b o n e => fr.keep b o (nr b) (by show off [a] H b = some o; rw [off_out (by simpa using n)]; exact e)) ea ef el efl
    have hl : off [a] H l = none := hl
    rwa [off_out (by simpa using hla)] at hl
  intro pins st I
  have z := h cdv A outer s H E hr W a fs rfl hp (start N vs) H ⟨ok, ⟨fun b o _ e => (off_some e).2, fun _ _ _ e => nomatch e⟩, sl, fun p hp => by
    rw [List.mem_singleton.mp hp]
    exact ⟨off_in List.mem_cons_self, dx, gs, ha, by rw [oc]; exact hf⟩, by simp⟩ pins st I
  refine wpAny_mono z (fun fl s' hq => ?_) fun _ _ z => z
  cases fl with
  | next =>
    obtain ⟨σ', H', I', q'⟩ := hq
    exact ⟨σ', H', I', ret _ _ q'⟩
  | brk => exact hq
  | cont => exact hq
  | ret u =>
    obtain ⟨v', σ', H', I', rv, q'⟩ := hq
    exact ⟨v', σ', H', I', rv, ret _ _ q'⟩
end
/-- a call has told a new local object -/
theorem Rep.chgNew {K : PySem.W.Frag} {W : Wd} {Γ : List DV} {μ : Mu} {σ : L2.St} {H H' : Hp} {D l : Addr} {m ml : MO} {j : Nat} (R : Rep K W Γ μ σ H) (hj : μ[j]? = some (D, m)) (hl : H l = none) (keep : ∀ b o, b ≠ D → H b = some o → H' b = some o) (hm : MOk K (off (l :: hd W μ) H') H' D m) (hml : MOk K (off (l :: hd W μ) H') H' l ml) : Rep K W Γ ((l, ml) :: μ) σ H' ∧ Same (off (hd W μ) H) (off (hd W ((l, ml) :: μ)) H') := by
  have hmem : (D, m) ∈ μ := List.mem_of_getElem? hj
  have h0 : W.H0 D = none := (R.mu _ hmem).1
  have inD : D ∈ hd W μ := List.mem_append_right _ (List.mem_map.mpr ⟨_, hmem, rfl⟩)
  have oc : off (hd W ((l, ml) :: μ)) H' = off (l :: hd W μ) H' := off_cong fun b => by
    show b ∈ W.M ++ l :: μ.map (·.1) ↔ b ∈ l :: (W.M ++ μ.map (·.1))
    simp only [List.mem_append, List.mem_cons]
    constructor <;> (intro h; rcases h with h | h | h <;> simp [h])
  have oe : Same (off (hd W μ) H) (off (l :: hd W μ) H') := fun a o e => by
    obtain ⟨h1, h2⟩ := off_some e
    have n1 : a ≠ l := fun z => by rw [z, hl] at h2; cases h2
    rw [off_out (fun z => by rcases List.mem_cons.mp z with z | z; exact n1 z; exact h1 z)]
    exact keep a o (fun z => h1 (by rw [z]; exact inD)) h2
  have lh0 : W.H0 l = none := by
    cases e : W.H0 l with
    | none => rfl
    | some o => exact absurd hl (R.fr.dom (by rw [e]; simp))
  have lout : l ∉ μ.map (·.1) := fun z => by
    obtain ⟨p, hp, e⟩ := List.mem_map.mp z
    have := (R.mu p hp).2.ne
    rw [e] at this
    exact this hl
  have nrow : ¬ W.isRow D := fun ⟨scr, ns, e⟩ => (R.wd.hid D (R.wd.row _ _ _ e).1) h0
  refine ⟨⟨R.wd, ⟨fun a u n e => keep a u (fun z => by rw [z, h0] at e; cases e) (R.fr.keep a u n e), fun r scr ns e => ?_⟩, ?_, fun p hp => ?_, ?_⟩, by rw [oc]; exact oe⟩
  · obtain ⟨i, s, q, e1, e2⟩ := R.fr.row r scr ns e
    exact ⟨i, s, q, keep r _ (fun (z : r = D) => nrow ⟨scr, ns, by rw [← z]; exact e⟩) e1, e2⟩
  · rw [oc]
    exact R.sl.up oe
  · rw [oc]
    rcases List.mem_cons.mp hp with e | hp'
    · rw [e]
      exact ⟨lh0, hml⟩
    · by_cases q : p.1 = D
      · obtain ⟨i, hi⟩ := List.getElem?_of_mem hp'
        have e1 : (μ.map (·.1))[i]? = some D := by rw [List.getElem?_map, hi]; exact congrArg some q
        have e2 : (μ.map (·.1))[j]? = some D := by rw [List.getElem?_map, hj]; rfl
        have eij : i = j := nd_ix R.nd e1 e2
        subst eij
        rw [hj] at hi
        cases hi
        exact ⟨h0, hm⟩
      · exact ⟨(R.mu p hp').1, (R.mu p hp').2.up oe fun u e => keep _ _ q e⟩
  · rw [List.map_cons]
    exact List.nodup_cons.mpr ⟨lout, R.nd⟩
section
variable {X : Cx} {W W0 : Wd} {Γ : List DV} {μ : Mu} {e value : Expr} {es : List Expr} {rest : List Stmt} {D : Ends} {pos p p1 p2 q1 q2 pos' apos : Pos} {n m f1 f2 : Str} {a C : Addr} {fs : List (Str × PyData)} {ds : List PyData} {d x y : PyData} {k : Nat} {ps : List Str}
/-- a call that leaves its instance -/
theorem EvM.pure_ {P : List (Str × PyData) → PyData → Prop} {j : Nat} (h : EvM X W Γ μ e (fun z μ' => ∃ fs', P fs' z ∧ μ' = μ.set j (a, .ins C fs'))) (hP : ∀ fs' z, P fs' z → fs' = fs ∧ z = d) (hj : μ[j]? = some (a, .ins C fs) := by rfl) : Ed X W Γ μ e d :=
  EvM.ed (EvM.imp h fun z μ' ⟨fs', p, e⟩ => by
    obtain ⟨h1, h2⟩ := hP fs' z p
    subst h1
    exact ⟨h2, by rw [e, set_same hj]⟩)
theorem em_makeT {cx : Str} {pre : List (Str × PyData) → List PyData → Prop} {post : List (Str × PyData) → List PyData → List (Str × PyData) → PyData → Prop} (F : MkT X.prog X.w X.K X.mg X.base k C cx ps (spT X.K C pre post)) (hr : Room k X.A) (ha : EdA X W Γ μ (e :: es) ds) (hp : pre [] ds) (hz : ∀ fs' d, post [] ds fs' d → fs' = fs ∧ d = .none) (hg : Gl X cx := by rfl)
    (hdb : (cx == ("__debug__" : Str)) = false := by decide) (he : starEach (e :: es) X.env = (false, eval e X.env) :: starEach es X.env := by rfl) (hpl : (backTo pos (starEach es X.env)).any (·.1) = false := by rfl) :
    EvM X W Γ μ (.Call (.Name cx p) (e :: es) [] pos) (fun d μ' => ∃ l, d = ptD l ∧ μ' = (l, .ins C fs) :: μ) := by
  obtain ⟨f, fd, i, h0, h1, h2, h3, h4⟩ := F.ex
  exact EvM.imp (em_make h2 h3 h4 (hr.mono h0) h1 ha hp (fun fs' d q => (hz fs' d q).2) hg hdb he hpl) fun d μ' ⟨l, fs', z, po, e1, e2⟩ => ⟨l, e1, by rw [e2, (hz fs' z po).1]⟩
/-- o.copy() -/
theorem em_copy (i j : Nat) {pre : List (Str × PyData) → Prop} (F : FdM X.prog X.w X.K X.mg X.base k C m ps (spC X.K C pre)) (hr : Room k X.A) (c : Cls X.K C) (hl : fs.lookup m = none) (hp : pre fs) {pl : Sem Bool} (hi : Γ[i]? = some (.r a) := by rfl) (hj : μ[j]? = some (a, .ins C fs) := by rfl) (hN : X.N[i]? = some n := by rfl) (hv : Vis X.env.scope n := by first | exact Or.inl rfl | exact Or.inr (Or.inl rfl) | exact Or.inr (Or.inr rfl))
    (h1 : (n == ("__debug__" : Str)) = false := by decide) (h2 : (n == ("__classdict__" : Str)) = false := by decide)
    (ht : eval (.Call (.Attribute (.Name n p) m apos) [] [] pos) X.env = (do
      let ov ← eval (.Name n p) X.env
      PySem.standAt apos.atName
      let (f, first) ← holding [ov] (getMethod ov m pl)
      callWith pos f first (backTo pos (starEach [] X.env)) (backToKw pos (keywordEach [] X.env))) := by rfl) : EvM X W Γ μ (.Call (.Attribute (.Name n p) m apos) [] [] pos) (fun d μ' => ∃ l, d = ptD l ∧ μ' = (l, .ins C fs) :: μ) := fun σ H R Q q => by
  obtain ⟨f, fd, g1, g2, g3⟩ := F.ex
  refine (pe_meth0 (pl := pl) (E := fun _ _ _ => True) (pe_var hN hv h1 h2) c g2 g1 hr g3 .nil pass0 ht).w ?_
  obtain ⟨o, e1, e2⟩ := R.sl.at_ i _ hi
  have e2' : o = some (.ref a) := e2
  subst e2'
  obtain ⟨dx, gs, ha0, hf0⟩ := ins_at R hj
  refine ⟨_, e1, a, dx, gs, rfl, ha0, fv_none hf0 hl, ?_⟩
  show spC X.K C pre [V.ref a] H Q (fun _ _ _ => True)
  refine ⟨hd W μ, a, dx, gs, fs, rfl, R.ne, List.mem_append_right _ (List.mem_map.mpr ⟨_, List.mem_of_getElem? hj, rfl⟩), ha0, hf0, hp, fun l H' dx' gs' dxl gsl hl0 keep ea ef el efl => ?_⟩
  obtain ⟨R3, s3⟩ := R.chgNew (ml := .ins C fs) hj hl0 keep ⟨dx', gs', ea, ef⟩ ⟨dxl, gsl, el, efl⟩
  exact q (.ref l) (ptD l) _ H' R3 s3 (.ptr l) ⟨l, rfl, rfl⟩
/-- return of another instance that is alike -/
theorem run_retC {nx bk ct : L2.St → Hp → Prop} {l : Addr} (i j1 j2 : Nat) (hi : Γ[i]? = some (.r l) := by rfl) (hj1 : μ[j1]? = some (a, .ins C fs) := by rfl) (hj2 : μ[j2]? = some (l, .ins C fs) := by rfl) (hne : j1 ≠ j2 := by decide) (hN : X.N[i]? = some n := by rfl) (hv : Vis X.env.scope n := by first | exact Or.inl rfl | exact Or.inr (Or.inl rfl) | exact Or.inr (Or.inr rfl))
    (h1 : (n == ("__debug__" : Str)) = false := by decide) (h2 : (n == ("__classdict__" : Str)) = false := by decide) : Run X W Γ μ (.Return (some (.Name n p)) pos :: rest) ⟨nx, RetC X.K W a C fs, bk, ct⟩ :=
  run_retR (ed_ptr i hi hN hv h1 h2) fun v σ H R r => by
    have m1 := List.mem_of_getElem? hj1
    have m2 := List.mem_of_getElem? hj2
    have sub : Same (off (hd W μ) H) (off (l :: (W.M ++ [a])) H) := same_offs fun b hb => by
      rcases List.mem_cons.mp hb with z | z
      · rw [z]; exact List.mem_append_right _ (List.mem_map.mpr ⟨_, m2, rfl⟩)
      · rcases List.mem_append.mp z with z | z
        · exact List.mem_append_left _ z
        · rw [List.mem_singleton.mp z]
          exact List.mem_append_right _ (List.mem_map.mpr ⟨_, m1, rfl⟩)
    obtain ⟨dx, gs, ha, hf⟩ := ins_at R hj1
    obtain ⟨dxl, gsl, hla, hlf⟩ := ins_at R hj2
    have hla2 : l ≠ a := fun z => by
      have e1 : (μ.map (·.1))[j1]? = some a := by rw [List.getElem?_map, hj1]; rfl
      have e2 : (μ.map (·.1))[j2]? = some a := by rw [List.getElem?_map, hj2]; exact congrArg some z
      exact hne (nd_ix R.nd e1 e2)
    cases r with
    | ptr => exact ⟨R.fr, l, dx, gs, dxl, gsl, rfl, (R.mu _ m2).1, hla2, ha, hf.up sub, hla, hlf.up sub⟩
/-- len(o), by its own __len__ -/
theorem ed_lenO (i j : Nat) {N : Nat} {pre : List (Str × PyData) → List PyData → Prop} {post : List (Str × PyData) → List PyData → List (Str × PyData) → PyData → Prop} (F : FdM X.prog X.w X.K X.mg X.base k C "__len__" ps (spT X.K C pre post)) (hr : Room (k + 1) X.A) (hm : X.mg "len" = none) (hp : pre fs []) (hP : ∀ fs' z, post fs [] fs' z → fs' = fs ∧ z = nn N) (hN62 : N < 2 ^ 62) (hi : Γ[i]? = some (.r a) := by rfl) (hj : μ[j]? = some (a, .ins C fs) := by rfl) (hN : X.N[i]? = some n := by rfl) (hv : Vis X.env.scope n := by first | exact Or.inl rfl | exact Or.inr (Or.inl rfl) | exact Or.inr (Or.inr rfl))
    (h1 : (n == ("__debug__" : Str)) = false := by decide) (h2 : (n == ("__classdict__" : Str)) = false := by decide) (hg : Gl X "len" := by rfl) (hs1 : starEach [.Name n p] X.env = (false, eval (.Name n p) X.env) :: starEach [] X.env := by rfl) (hpl : (backTo pos (starEach [] X.env)).any (·.1) = false := by rfl) : Ed X W Γ μ (.Call (.Name "len" p2) [.Name n p] [] pos) (nn N) := by
  obtain ⟨f, fd, g1, g2, g3⟩ := F.ex
  have cr : CallR X (.builtin "len") (fun xs H Q => ∃ a dx gs, xs = [.ref a] ∧ H a = some (.ins C dx gs) ∧ spT X.K C pre post [.ref a] H (fun v H2 => ∃ q : Nat, v = .int q ∧ q < 2 ^ 62 ∧ Q (.int q) H2) (fun _ _ _ => True)) := by
    intro pins s σ H xs us Q I rv h
    obtain ⟨a, dx, gs, rfl, ea, h⟩ := h
    obtain ⟨u, rfl, rx⟩ := vals1 rv
    obtain rfl : u = Value.ref a := rx
    obtain ⟨mA, O, _, _, _, _⟩ := ins_get I.hok ea
    obtain ⟨od, J, _⟩ := O.look
    have hl : ([Value.ref a] : List Value).length = ps.length := by rw [← g1.len _ _ _ _ h]; rfl
    have b := g3 s [.ref a] I.kIn (by rw [List.append_nil]; exact hl)
    rw [List.append_nil] at b
    refine len_own I.kIn J g2.at_ g2.fn (wpAny_call (codeAny_mono (g1.run X.A.in1 X.stack s H ⟨[.ref a], []⟩ [.ref a] [.ref a] _ _ hr.in1 I.env0.in1 b (.cons rfl .nil) h) fun r s' hq => ?_))
    cases r with
    | error er => exact pass0 pins σ H s er s' I hq
    | ok fl =>
      cases fl with
      | ret u =>
        obtain ⟨v, H', I3, rv, q, ev, hq62, q3⟩ := I.after hq
        subst ev
        obtain ⟨t, rfl⟩ := rv
        exact ⟨⟨Int.natCast_nonneg q, by omega⟩, .int q, H', I3.tok _, ⟨_, rfl⟩, q3⟩
      | next => exact False.elim hq
      | brk => exact False.elim hq
      | cont => exact False.elim hq
  intro σ H R Q q
  refine (pe_callB cr hg hm boot_len (pa_cons (pe_var hN hv h1 h2) pa_nil hs1) (by decide) (by decide) hs1 hpl).w ?_
  obtain ⟨o, e1, e2⟩ := R.sl.at_ i _ hi
  have e2' : o = some (.ref a) := e2
  subst e2'
  obtain ⟨dx, gs, ha0, hf0⟩ := ins_at R hj
  refine ⟨_, e1, a, dx, gs, rfl, ha0, ?_⟩
  refine spT_call R (Same.refl _) hj .nil hp fun v d μ' H2 R2 s2 r2 ⟨fs', po, eμ⟩ => ?_
  obtain ⟨z1, z2⟩ := hP fs' d po
  subst z1 z2
  rw [set_same hj] at eμ
  subst eμ
  cases r2
  exact ⟨N, rfl, hN62, q _ H2 R2 s2 (.int _)⟩
end
end HW
set_option maxHeartbeats 4000000
namespace HX
open PySem PySem.Spec PyProof.Rows L2 He
/-! the head's Hook with getters of properties -/
def prA (K : PySem.W.Frag) (p : Str × Option Str) : Addr := match PySem.W.recIn K (ma K (ga K p.1) (p.2.getD "")) "property" with
  | some (.ref g :: _) => g
  | _ => 0
def fnA (K : PySem.W.Frag) (a : Addr) : FnW := match K.lookup a with
  | some ⟨_, _, .func fd, _⟩ => some (fd.name, fd.qualname, fd.params, fd.body, fd.scope, fd.globals, fd.closure, fd.builtins)
  | _ => none
def okA (K : PySem.W.Frag) (a : Addr) (d : DefD) : Bool := PySem.W.keepIn K (.ref a) && (match K.lookup a with
  | some ⟨_, _, .func fd, _⟩ => PySem.W.codeIn K fd.code d.qual && (dflB K fd.defaults (d.dvs K) && kwdB K fd.kwdefaults (d.kws K))
  | _ => false)
theorem funD_at {K : PySem.W.Frag} {d : DefD} {a : Addr} (e : fnA K a = d.val) (c : okA K a d = true) : ∃ fd, FunD K d.name d.qual d.params d.body d.scope (d.dvs K) (d.kws K) a fd := by
  obtain ⟨kp, c2⟩ := ba c
  unfold fnA at e
  cases q : K.lookup a with
  | none =>
    rw [q] at c2
    cases c2
  | some o =>
    obtain ⟨oc, od, dt, osl⟩ := o
    rw [q] at c2 e
    cases dt with
    | func fd =>
      obtain ⟨n1, n2, n3, n4, n5, n6, n7, n8, n9, n10, n11, n12, n13, n14, n15⟩ := fd
      have e2 : (some (n1, n2, n3, n4, n5, n6, n7, n15) : FnW) = some (d.name, d.qual, d.params, .stmts d.body, d.scope, mainGlobals, [], builtinsNs) := e
      simp only [Option.some.injEq, Prod.mk.injEq] at e2
      obtain ⟨h1, h2, h3, h4, h5, h6, h7, h8⟩ := e2
      subst h1 h2 h3 h4 h5 h6 h7 h8
      have c3 : (PySem.W.codeIn K n13 d.qual && (dflB K n8 (d.dvs K) && kwdB K n9 (d.kws K))) = true := c2
      obtain ⟨k1, k2⟩ := ba c3
      obtain ⟨k3, k4⟩ := ba k2
      exact ⟨_, ⟨oc, od, n8, n9, n10, n11, n12, n13, n14, osl, rfl, q, k1, dflB_ok k3, kwdB_ok k4⟩, kp⟩
    | _ => cases c2
abbrev AlP : Type := AlE × AlD
def obsQ (pn : List DefD) (K : PySem.W.Frag) : AlD := (pn.all fun d => okA K (prA K d.at_) d, pn.map fun d => fnA K (prA K d.at_))
def SaysP (pn : List DefD) (K : PySem.W.Frag) : Prop := obsQ pn K = valD pn
def obsP (n : Nat) (fa : List Fa) (fn : List DefD) (ex : PySem.W.Frag → Bool) (pn : List DefD) (g : Addr → Option Obj) : AlP := ((obsD fa fn (frG g (asS g n)), ex (frG g (asS g n))), obsQ pn (frG g (asS g n)))
def hookP (n : Nat) (fa : List Fa) (fn : List DefD) (ex : PySem.W.Frag → Bool) (pn : List DefD) : PySem.W.Hook where
  α := AlP
  obs := fun s => obsP n fa fn ex pn s.heap.get?
  val := fun _ => ((valD fn, true), valD pn)
  says := fun _ h => ∃ K : PySem.W.Frag, K.In h ∧ SaysD fa fn K ∧ ex K = true ∧ SaysP pn K
  of := fun _ _ e => ⟨_, frG_in, congrArg (fun z : AlP => z.1.1) e, congrArg (fun z : AlP => z.1.2) e, congrArg (fun z : AlP => z.2) e⟩
  keeps := fun _ _ _ ⟨K, hK, c⟩ k => ⟨K, PySem.W.Frag.In.keeps hK k, c⟩
theorem obsP_eq {n : Nat} {fa : List Fa} {fn : List DefD} {ex : PySem.W.Frag → Bool} {pn : List DefD} {g : Addr → Option Obj} {s : Shared} (h : ∀ a, g a = s.heap.get? a) : obsP n fa fn ex pn g = (hookP n fa fn ex pn).obs s := by
  have e : g = s.heap.get? := funext h
  rw [e] <;> rfl
theorem SaysP.def_ {pn : List DefD} {K : PySem.W.Frag} (c : SaysP pn K) (i : Nat) {d : DefD} (h : pn[i]? = some d := by rfl) : ∃ fd, FunD K d.name d.qual d.params d.body d.scope (d.dvs K) (d.kws K) (prA K d.at_) fd := by
  have c2 : (pn.all fun d => okA K (prA K d.at_) d) = true := congrArg (fun z : AlD => z.1) c
  have e : pn.map (fun d => fnA K (prA K d.at_)) = pn.map DefD.val := congrArg (fun z : AlD => z.2) c
  have e2 : (pn.map fun d => fnA K (prA K d.at_))[i]? = (pn.map DefD.val)[i]? := by rw [e]
  rw [List.getElem?_map, List.getElem?_map, h] at e2
  exact funD_at (Option.some.inj e2) (List.all_eq_true.mp c2 d (List.mem_of_getElem? h))
/-- the class's name is a property -/
def propB (c f : Str) (K : PySem.W.Frag) : Bool := eqO (PySem.W.findIn K (.ref (ga K c)) f) (some (some (.ref (ma K (ga K c) f)))) && (eqO (PySem.W.specialIn K (.ref (ma K (ga K c) f)) "__get__") (some (some (.builtin "property.__get__"))) && (decide (PySem.W.takesIn K (.ref (ma K (ga K c) f)) = some true) && (match PySem.W.recIn K (ma K (ga K c) f) "property" with
  | some (.ref _ :: _) => true
  | _ => false)))
theorem propB_ok {c f : Str} {K : PySem.W.Frag} (h : propB c f K = true) : PropOf K (ga K c) f (ma K (ga K c) f) (prA K (c, some f)) := by
  obtain ⟨h1, h⟩ := ba h
  obtain ⟨h2, h⟩ := ba h
  obtain ⟨h3, h⟩ := ba h
  refine ⟨eqO_ok h1, eqO_ok h2, of_decide_eq_true h3, ?_⟩
  unfold prA
  show ∃ rest, PySem.W.recIn K (ma K (ga K c) f) "property" = some (.ref (match PySem.W.recIn K (ma K (ga K c) f) "property" with
    | some (.ref g :: _) => g
    | _ => 0) :: rest)
  cases e : PySem.W.recIn K (ma K (ga K c) f) "property" with
  | none => rw [e] at h; cases h
  | some l =>
    rw [e] at h
    cases l with
    | nil => cases h
    | cons v r =>
      cases v with
      | ref g => exact ⟨r, rfl⟩
      | _ => cases h
end HX
namespace HW
open PySem PySem.Spec PyProof.Rows L2
open SX (S)
/-- a property of a class, ready to be read -/
structure FdP (P : Program) (w : World) (K : PySem.W.Frag) (mg : Str → Option Value) (base : Heap) (k : Nat) (C : Addr) (m : Str) (ps : List Str) (sp : Sp) : Prop where
  ex : ∃ (p g : Addr) (fd : FuncData), FnOk P w K mg base CX0 k g fd ps sp ∧ PropOf K C m p g ∧ Binds K fd ps []
theorem FdP.mono {P : Program} {w : World} {K : PySem.W.Frag} {mg : Str → Option Value} {base : Heap} {j k : Nat} {C : Addr} {m : Str} {ps : List Str} {sp : Sp} (F : FdP P w K mg base j C m ps sp) (h : j ≤ k) : FdP P w K mg base k C m ps sp := by
  obtain ⟨p, g, fd, h1, h2, h3⟩ := F.ex
  exact ⟨p, g, fd, h1.mono h, h2, h3⟩
/-- a method that raises and leaves all as it is -/
def spXT (K : PySem.W.Frag) (C : Addr) (R : List (Str × PyData) → List PyData → Str → Option (Str × PyData) → Prop) : Sp := fun vs H Q E => ∃ (L : List Addr) (a dx : Addr) (gs : List (Str × V)) (fs : List (Str × PyData)) (ws : List V) (ds : List PyData) (x : Str) (fo : Option (Str × PyData)), vs = .ref a :: ws ∧ (∀ b ∈ L, H b ≠ none) ∧ H a = some (.ins C dx gs) ∧ FvR K (off L H) gs fs ∧ VaAll K (off L H) ws ds ∧ R fs ds x fo ∧ ∀ cls d H', XO K L H H' x fo cls d → E cls d H'
structure FdMX (P : Program) (w : World) (K : PySem.W.Frag) (mg : Str → Option Value) (base : Heap) (k : Nat) (C : Addr) (m : Str) (ps : List Str) (R : List (Str × PyData) → List PyData → Str → Option (Str × PyData) → Prop) : Prop where
  ex : ∃ (f : Addr) (fd : FuncData), FnOk P w K mg base (L2.CX P w) k f fd ps (spXT K C R) ∧ Meth K C m f ∧ Binds K fd ps []
theorem FdMX.mono {P : Program} {w : World} {K : PySem.W.Frag} {mg : Str → Option Value} {base : Heap} {j k : Nat} {C : Addr} {m : Str} {ps : List Str} {R : List (Str × PyData) → List PyData → Str → Option (Str × PyData) → Prop} (F : FdMX P w K mg base j C m ps R) (h : j ≤ k) : FdMX P w K mg base k C m ps R := by
  obtain ⟨f, fd, h1, h2, h3⟩ := F.ex
  exact ⟨f, fd, h1.mono h, h2, h3⟩
section
variable {P : Program} {w : World} {K : PySem.W.Frag} {mg : Str → Option Value} {base : Heap} {x qual : Str} {params : Arguments} {body : List Stmt} {scope : Scope} {f : Addr} {fd : FuncData} {N ps : List Str} {k : Nat}
theorem fd_methX (F : FunD K x qual params body scope [] [] f fd) (Sc : FnScope N ps scope) (C : Addr) (R : List (Str × PyData) → List PyData → Str → Option (Str × PyData) → Prop) (hlen : ∀ fs ds x fo, R fs ds x fo → ds.length + 1 = ps.length)
    (h : ∀ (cdv : Value) (A : Around) (outer : List Env) (s : Shared) (H : Hp) (E : XK), Room k (A.deeper (envOfC qual scope s.heap.objs.size f cdv)) → ∀ (W : Wd) (a dx : Addr) (gs : List (Str × V)) (fs : List (Str × PyData)) (ds : List PyData) (x : Str) (fo : Option (Str × PyData)), W.row = none → W.H0 a = some (.ins C dx gs) → FvR K (off W.M W.H0) gs fs → R fs ds x fo →
      (∀ σ H1 (Γ : List DV) (μ : Mu), Rep K W Γ μ σ H1 → ∀ cls d H', XO K W.M H1 H' x fo cls d → E cls d H') →
      Run (cxOf (L2.CX P w) P w K mg base N qual scope f cdv A outer s H E) W (.r a :: (ds.map .d ++ List.replicate (N.length - ps.length) .no)) [] body { nx := fun _ _ => False, rt := fun _ _ => False, bk := fun _ _ => False, ct := fun _ _ => False }) :
    FnOk P w K mg base (L2.CX P w) (k + 1) f fd ps (spXT K C R) := by
  refine F.ok Sc (fun vs H Q E ⟨L, a, dx, gs, fs, ws, ds, x, fo, e, _, _, _, hv, r, _⟩ => by rw [e, List.length_cons, hv.length]; exact hlen fs ds x fo r) fun cdv A outer s H vs Q E hr ⟨L, a, dx, gs, fs, ws, ds, x, fo, e, hL, ha, hf, hv, r, q⟩ => ?_
  refine ⟨_, wSs.ps, ?_⟩
  let W : Wd := ⟨H, L, none⟩
  have ok : WdOk K W := ⟨hL, fun _ _ _ e => nomatch e⟩
  have nr : ∀ a, ¬ W.isRow a := fun a ⟨_, _, e⟩ => nomatch e
  have sl : Slots K (off (hd W []) H) (start N vs) (.r a :: (ds.map .d ++ List.replicate (N.length - ps.length) .no)) := by
    show Slots K (off (L ++ []) H) (vs.map some ++ List.replicate (N.length - vs.length) none) _
    rw [List.append_nil, e, List.length_cons, hv.length, hlen fs ds x fo r]
    have z := slots_start (K := K) (N.length - ps.length) hv
    refine ⟨by simp [z.len, hv.length], fun i dv hi => ?_⟩
    cases i with
    | zero => cases hi; exact ⟨_, rfl, rfl⟩
    | succ i => exact z.at_ i dv hi
  intro pins st I
  have z := h cdv A outer s H E hr W a dx gs fs ds x fo rfl ha hf r (fun σ H1 Γ μ R1 cls d H' hx => ?_) (start N vs) H ⟨ok, ⟨fun _ _ _ e => e, fun _ _ _ e => nomatch e⟩, sl, fun _ z => (nomatch z), List.nodup_nil⟩ pins st I
  · refine wpAny_mono z (fun fl s' hq => ?_) fun _ _ z => z
    cases fl with
    | next =>
      obtain ⟨_, _, _, q'⟩ := hq
      exact q'.elim
    | brk =>
      obtain ⟨_, _, _, q'⟩ := hq
      exact q'.elim
    | cont =>
      obtain ⟨_, _, _, q'⟩ := hq
      exact q'.elim
    | ret u =>
      obtain ⟨_, _, _, _, _, q'⟩ := hq
      exact q'.elim
  · have sm : Same H H1 := fun a o e => R1.fr.keep a o (nr a) e
    obtain ⟨h1, h2, h3⟩ := hx
    refine q cls d H' ⟨h1, same_trans sm h2, ?_⟩
    cases fo with
    | none => trivial
    | some fy =>
      obtain ⟨f, y⟩ := fy
      obtain ⟨dd, v, e1, e2, e3, e4⟩ := h3
      refine ⟨dd, v, e1, ?_, e3, e4⟩
      cases e : H dd with
      | none => rfl
      | some o =>
        rw [sm dd o e] at e2
        cases e2
end
section
variable {X : Cx} {W : Wd} {Γ : List DV} {μ : Mu} {e : Expr} {es : List Expr} {rest : List Stmt} {D : Ends} {pos p apos : Pos} {n m fn x : Str} {a C dx : Addr} {gs : List (Str × V)} {fs : List (Str × PyData)} {ds : List PyData} {d : PyData} {k : Nat} {ps : List Str} {fo : Option (Str × PyData)} {W0 : WX} {R : List (Str × PyData) → List PyData → Str → Option (Str × PyData) → Prop}
/-- o.f, where the instance stands among what must stay -/
theorem ed_fldH (i : Nat) (hrow : W.row = none) (hA : W.H0 a = some (.ins C dx gs)) (hF : FvR X.K (off W.M W.H0) gs fs) (c : Cls X.K C) (nf : NoAttr X.K C fn) (hl : fs.lookup fn = some d) (hi : Γ[i]? = some (.r a) := by rfl) (hN : X.N[i]? = some n := by rfl) (hv : Vis X.env.scope n := by first | exact Or.inl rfl | exact Or.inr (Or.inl rfl) | exact Or.inr (Or.inr rfl))
    (h1 : (n == ("__debug__" : Str)) = false := by decide) (h2 : (n == ("__classdict__" : Str)) = false := by decide) (hb : attributeBase (.Name n p) fn X.env (eval (.Name n p) X.env) = eval (.Name n p) X.env := by rfl) : Ed X W Γ [] (.Attribute (.Name n p) fn pos) d := fun σ H R Q q => by
  refine (pe_fld (pe_var hN hv h1 h2) hb).w ?_
  obtain ⟨o, g1, g2⟩ := R.sl.at_ i _ hi
  have g2' : o = some (.ref a) := g2
  subst g2'
  have nr : ∀ a, ¬ W.isRow a := fun a ⟨_, _, e⟩ => by rw [hrow] at e; cases e
  obtain ⟨v, hv1, hv2⟩ := fv_some hF hl
  refine ⟨_, g1, a, C, dx, gs, v, rfl, R.fr.keep a _ (nr a) hA, c, nf, hv1, q v H R XT.refl (hv2.up fun b o e => ?_)⟩
  obtain ⟨z1, z2⟩ := off_some e
  rw [off_out (by show b ∉ W.M ++ []; rw [List.append_nil]; exact z1)]
  exact R.fr.keep b o (nr b) z2
/-- o.m(e, ..) raises -/
theorem ed_methX (i j : Nat) (F : FdMX X.prog X.w X.K X.mg X.base k C m ps R) (hr : Room k X.A) (c : Cls X.K C) (hl : fs.lookup m = none) (tk : Takes X W0) (ha : EdA X W Γ μ (e :: es) ds) (hR : R fs ds x fo) (h : ∀ σ H, Rep X.K W Γ μ σ H → ∀ cls d H', XO X.K (hd W μ) H H' x fo cls d → W0 cls d σ H') {pl : Sem Bool} (hi : Γ[i]? = some (.r a) := by rfl) (hj : μ[j]? = some (a, .ins C fs) := by rfl) (hN : X.N[i]? = some n := by rfl) (hv : Vis X.env.scope n := by first | exact Or.inl rfl | exact Or.inr (Or.inl rfl) | exact Or.inr (Or.inr rfl))
    (h1 : (n == ("__debug__" : Str)) = false := by decide) (h2 : (n == ("__classdict__" : Str)) = false := by decide)
    (hst : starEach (e :: es) X.env = (false, eval e X.env) :: starEach es X.env := by rfl) (hpl : (backTo pos (starEach es X.env)).any (·.1) = false := by rfl)
    (ht : eval (.Call (.Attribute (.Name n p) m apos) (e :: es) [] pos) X.env = (do
      let ov ← eval (.Name n p) X.env
      PySem.standAt apos.atName
      let (f, first) ← holding [ov] (getMethod ov m pl)
      callWith pos f first (backTo pos (starEach (e :: es) X.env)) (backToKw pos (keywordEach [] X.env))) := by rfl) : EdX X W Γ μ (.Call (.Attribute (.Name n p) m apos) (e :: es) [] pos) := fun σ H Rp Q => by
  obtain ⟨f, fd, g1, g2, g3⟩ := F.ex
  refine (pe_methS (pl := pl) (E := WE W0) (pe_var hN hv h1 h2) c g2 g1 hr g3 (fun σ => passAt tk σ) wA.pa hst hpl ht).w ?_
  obtain ⟨o, e1, e2⟩ := Rp.sl.at_ i _ hi
  have e2' : o = some (.ref a) := e2
  subst e2'
  obtain ⟨dx, gs, ha0, hf0⟩ := ins_at Rp hj
  refine ⟨_, e1, a, dx, gs, rfl, ha0, fv_none hf0 hl, ha σ H Rp _ fun vs H2 R2 x2 r2 => ?_⟩
  obtain ⟨dx2, gs2, ha2, hf2⟩ := ins_at R2 hj
  exact ⟨hd W μ, a, dx2, gs2, fs, vs, ds, x, fo, rfl, R2.ne, ha2, hf2, r2, hR, fun cls d H' hx => h σ H2 R2 cls d H' hx⟩
theorem run_setX (i : Nat) (he : EdX X W Γ μ e) (nd : X.N.Nodup) (hN : X.N[i]? = some n := by rfl) (hx : Loc X.env.scope n := by first | exact Or.inl rfl | exact Or.inr rfl)
    (hs : swapsWith e (some (.Name n p)) pos.line X.env = pure false := by rfl) (hf : X.fn n = true ∨ X.env.scope.names.lookup n = some .local := by first | exact .inr rfl | exact .inl rfl) : Run X W Γ μ (.Assign [.Name n p] e pos :: rest) D := fun σ H R =>
  wSs_cons ((ps_set nd hN hx wE.pe hs hf).w (he σ H R _))
/-- o.f, a property -/
theorem ed_propT (i j : Nat) {pre : List (Str × PyData) → List PyData → Prop} {post : List (Str × PyData) → List PyData → List (Str × PyData) → PyData → Prop} (F : FdP X.prog X.w X.K X.mg X.base k C fn ps (spT X.K C pre post)) (hr : Room (k + 1) X.A) (c : Cls X.K C) (hp : pre fs []) (hP : ∀ fs' z, post fs [] fs' z → fs' = fs ∧ z = d) (hi : Γ[i]? = some (.r a) := by rfl) (hj : μ[j]? = some (a, .ins C fs) := by rfl) (hN : X.N[i]? = some n := by rfl) (hv : Vis X.env.scope n := by first | exact Or.inl rfl | exact Or.inr (Or.inl rfl) | exact Or.inr (Or.inr rfl))
    (h1 : (n == ("__debug__" : Str)) = false := by decide) (h2 : (n == ("__classdict__" : Str)) = false := by decide) (hab : attributeBase (.Name n p) fn X.env (eval (.Name n p) X.env) = eval (.Name n p) X.env := by rfl) : Ed X W Γ μ (.Attribute (.Name n p) fn pos) d := by
  obtain ⟨pa, ga, fd, g1, g2, g3⟩ := F.ex
  refine EvM.pure_ (P := post fs []) (j := j) (fun σ H R Q q => ?_) hP hj
  refine (pe_prop (E := fun _ _ _ => True) (pe_var hN hv h1 h2) c g2 g1 hr g3 .nil pass0 hab).w ?_
  obtain ⟨o, e1, e2⟩ := R.sl.at_ i _ hi
  have e2' : o = some (.ref a) := e2
  subst e2'
  obtain ⟨dx, gs, ha0, hf0⟩ := ins_at R hj
  refine ⟨_, e1, a, dx, gs, rfl, ha0, ?_⟩
  exact spT_call R (Same.refl _) hj .nil hp q
end
end HW
set_option maxHeartbeats 4000000
namespace HW
open PySem PySem.Spec PyProof.Rows L2
open SX (S)
section
variable {X : Cx} {W : Wd} {Γ : List DV} {μ : Mu} {a : Expr} {pos p p2 pos2 : Pos} {ds : List PyData} {d : PyData}
theorem i_tupL (hd : ds.getLast? = some d) : IxD X (.tuple ds) (.int (-1)) d := by
  have hl : ds ≠ [] := by intro e; rw [e] at hd; cases hd
  have h1 : ds[ds.length - 1]? = some d := by rw [← List.getLast?_eq_getElem?]; exact hd
  exact IxR.to ix_tup fun a b H Q ⟨L, _, ha, hb, k⟩ => by
    cases hb
    cases ha with
    | tup ha hs =>
      obtain ⟨v, hv, r⟩ := hs.at h1
      exact ⟨_, _, -1, v, rfl, rfl, SqT.up same_off ha, at_last (by rw [List.getLast?_eq_getElem?, hs.length]; exact hv), k _ _ (Same.refl _) r⟩
theorem s_tupI {z : Int} (e : z = -1) (h : 1 ≤ ds.length) : SlD X (.tuple ds) none (some z) (.tuple ds.dropLast) := by
  have h1 := s_tup (X := X) (ds := ds) (lo := none) (hi := some z)
  subst e
  have e1 : HT.sIx ds.length ds.length (some (-1)) = ds.length - 1 := by
    unfold HT.sIx
    simp
    omega
  rw [HT.sIx_none, e1, List.drop_zero, Nat.sub_zero] at h1
  rw [List.dropLast_eq_take]
  exact h1
theorem eqv_nilT (ds : List PyData) : PyData.eqv (.tuple ds) (.tuple []) = ds.isEmpty := by cases ds <;> rfl
theorem c_eqNilT {n : Nat} (hu : X.A.units + 64 < cLine) (h : Shp n (.tuple ds)) (hn : n ≤ 64 := by decide) : OpD X (compareOp .Eq) (.tuple ds) (.tuple []) (.bool ds.isEmpty) := by
  have z := c_eqD (X := X) (y := .tuple []) hu (h.ok hn) rfl
  rw [eqv_nilT] at z
  exact z
/-- list(range(e)) -/
theorem ed_listRange {N : Nat} (h : Ed X W Γ μ a (.int (N : Int))) (hm : X.mg "range" = none) (hm2 : X.mg "list" = none) (hN : N ≤ 100000) (hc : X.calm = true := by rfl) (hg : Gl X "range" := by rfl) (hg2 : Gl X "list" := by rfl) (na : starEach [a] X.env = (false, eval a X.env) :: starEach [] X.env := by rfl)
    (nb : starEach [.Call (.Name "range" p) [a] [] pos] X.env = (false, eval (.Call (.Name "range" p) [a] [] pos) X.env) :: starEach [] X.env := by rfl) : Ed X W Γ μ (.Call (.Name "list" p2) [.Call (.Name "range" p) [a] [] pos] [] pos2) (nD (List.range N)) := fun σ H R Q q => by
  refine (pe_listRg hc hg2 hm2 (prg_1 hg hm wE.pe na) nb).w (h σ H R _ fun v H2 R2 e2 r2 => ?_)
  cases r2
  refine ⟨_, rfl, ⟨by omega, by omega, by omega, by omega, by omega⟩, fun l hl => ?_⟩
  have sm := same_new (o := HO.lst (rgV 0 (N : Int))) hl
  refine q _ _ (R2.same sm) (e2.trans (XT.same sm)) (.lst (off_upd (new_out R2.ne hl)) ?_)
  have e : nD (List.range N) = .list ((List.range N).map nn) := rfl
  have key : ∀ K H, VaAll K H (rgV 0 (N : Int)) ((List.range N).map nn) := fun K H => by
    have e1 : rgV 0 (N : Int) = ((List.range N).map fun i : Nat => (i : Int)).map V.int := by
      unfold rgV
      rw [List.map_map]
      have : ((N : Int) - 0).toNat = N := by omega
      rw [this]
      refine List.map_congr_left fun i _ => ?_
      show V.int (0 + (i : Int)) = V.int (i : Int)
      rw [Int.zero_add]
    have e2 : (List.range N).map nn = ((List.range N).map fun i : Nat => (i : Int)).map PyData.int := by rw [List.map_map]; rfl
    rw [e1, e2]
    exact va_ints _
  exact key _ _
end
/-! ### trackers -/
def fitB (ws ts : List (List Nat)) (p : Nat) : Bool := (List.range ts.length).all fun i => decide (p + i < ws.length) && decide (missN (ws.getD (p + i) []) (ts.getD i []) = 0)
def startL (ws ts : List (List Nat)) : List Nat := (List.range ws.length).filter (fitB ws ts)
def stoodL (ws ts : List (List Nat)) : List PyData := (List.range (ts.length + 1)).map fun i => nD (startL ws (ts.take i))
/-- a tracker's attributes -/
def trk (l m : List Nat) (ts : List (List Nat)) : List (Str × PyData) := [("line", sD l), ("shape", sD m), ("told", .tuple (ts.map sD)), ("stood", .tuple (stoodL (viewsL l m) ts))]
structure OkT (l m : List Nat) (ts : List (List Nat)) : Prop where
  row : rowB l = true
  mask : maskB m = true
  few : ts.length ≤ 900
  looks : ∀ v ∈ ts, lookB m v = true
theorem trk_inj {l m l' m' : List Nat} {ts ts' : List (List Nat)} (h : trk l m ts = trk l' m' ts') : l = l' ∧ m = m' ∧ ts = ts' := by
  unfold trk at h
  simp only [List.cons.injEq, Prod.mk.injEq, true_and, and_true] at h
  obtain ⟨h1, h2, h3, _⟩ := h
  exact ⟨S_inj (PyData.str.inj h1), S_inj (PyData.str.inj h2), map_sD_inj (PyData.tuple.inj h3)⟩
def pre_init (fs : List (Str × PyData)) (ds : List PyData) : Prop := fs = [] ∧ ∃ l m : List Nat, ds = [sD l, sD m] ∧ rowB l = true ∧ maskB m = true
def post_init (_ : List (Str × PyData)) (ds : List PyData) (fs' : List (Str × PyData)) (d : PyData) : Prop := ∃ l m : List Nat, ds = [sD l, sD m] ∧ fs' = trk l m [] ∧ d = .none
/-- a method without arguments -/
def pre_t0 (fs : List (Str × PyData)) (ds : List PyData) : Prop := ∃ l m ts, fs = trk l m ts ∧ OkT l m ts ∧ ds = []
def post_t0 (g : List Nat → List Nat → List (List Nat) → PyData) (fs : List (Str × PyData)) (_ : List PyData) (fs' : List (Str × PyData)) (d : PyData) : Prop := ∃ l m ts, fs = trk l m ts ∧ fs' = fs ∧ d = g l m ts
def g_starts (l m : List Nat) (ts : List (List Nat)) : PyData := nD (startL (viewsL l m) ts)
def g_places (l m : List Nat) (ts : List (List Nat)) : PyData := nD ((startL (viewsL l m) ts).map fun p => p + (ts.length - 1))
def g_len (_ _ : List Nat) (ts : List (List Nat)) : PyData := nn ts.length
def g_row (l _ : List Nat) (_ : List (List Nat)) : PyData := sD l
def g_mask (_ m : List Nat) (_ : List (List Nat)) : PyData := sD m
def g_seen (_ _ : List Nat) (ts : List (List Nat)) : PyData := .tuple (ts.map sD)
def pre_see (fs : List (Str × PyData)) (ds : List PyData) : Prop := ∃ l m ts v, fs = trk l m ts ∧ OkT l m ts ∧ ds = [sD v] ∧ lookB m v = true
def post_see (fs : List (Str × PyData)) (ds : List PyData) (fs' : List (Str × PyData)) (d : PyData) : Prop := ∃ l m ts v, fs = trk l m ts ∧ ds = [sD v] ∧ fs' = trk l m (ts ++ [v]) ∧ d = nn (startL (viewsL l m) (ts ++ [v])).length
def X_see (fs : List (Str × PyData)) (ds : List PyData) (x : Str) (fo : Option (Str × PyData)) : Prop := ∃ l m ts v, fs = trk l m ts ∧ OkT l m ts ∧ ds = [v] ∧ noLook m v ∧ x = "BadView" ∧ fo = none
def post_undo (fs : List (Str × PyData)) (_ : List PyData) (fs' : List (Str × PyData)) (d : PyData) : Prop := ∃ l m ts, fs = trk l m ts ∧ fs' = trk l m ts.dropLast ∧ d = .bool (!ts.isEmpty)
def pre_copy (fs : List (Str × PyData)) : Prop := ∃ l m ts, fs = trk l m ts ∧ OkT l m ts
theorem fit_snoc (ws ts : List (List Nat)) (v : List Nat) (p : Nat) : fitB ws (ts ++ [v]) p = (fitB ws ts p && (decide (p + ts.length < ws.length) && decide (missN (ws.getD (p + ts.length) []) v = 0))) := by
  unfold fitB
  rw [List.length_append, List.length_singleton, List.range_succ, List.all_append]
  congr 1
  · rw [Bool.eq_iff_iff, List.all_eq_true, List.all_eq_true]
    have e : ∀ i ∈ List.range ts.length, (ts ++ [v]).getD i [] = ts.getD i [] := fun i hi => by
      rw [List.getD_eq_getElem?_getD, List.getD_eq_getElem?_getD, List.getElem?_append_left (List.mem_range.mp hi)]
    exact ⟨fun h i hi => by rw [← e i hi]; exact h i hi, fun h i hi => by rw [e i hi]; exact h i hi⟩
  · rw [List.all_cons, List.all_nil, Bool.and_true, List.getD_eq_getElem?_getD (l := ts ++ [v]), List.getElem?_append_right (Nat.le_refl _), Nat.sub_self]
    rfl
theorem start_snoc (ws ts : List (List Nat)) (v : List Nat) : startL ws (ts ++ [v]) = ((startL ws ts).filter fun p => decide (p + ts.length < ws.length)).filter fun p => decide (missN (ws.getD (p + ts.length) []) v = 0) := by
  unfold startL
  rw [List.filter_filter, List.filter_filter]
  refine List.filter_congr fun p _ => ?_
  rw [fit_snoc]
  cases fitB ws ts p <;> cases decide (p + ts.length < ws.length) <;> cases decide (missN (ws.getD (p + ts.length) []) v = 0) <;> rfl
theorem start_nil (ws : List (List Nat)) : startL ws [] = List.range ws.length := by
  unfold startL fitB
  rw [List.filter_eq_self.mpr]
  intro a _
  rfl
theorem start_len (ws ts : List (List Nat)) : (startL ws ts).length ≤ ws.length := by
  have := List.length_filter_le (fitB ws ts) (List.range ws.length)
  rwa [List.length_range] at this
theorem stood_snoc (ws ts : List (List Nat)) (v : List Nat) : stoodL ws (ts ++ [v]) = stoodL ws ts ++ [nD (startL ws (ts ++ [v]))] := by
  unfold stoodL
  rw [List.length_append, List.length_singleton, List.range_succ (n := ts.length + 1), List.map_append]
  congr 1
  · refine List.map_congr_left fun i hi => ?_
    have := List.mem_range.mp hi
    rw [List.take_append_of_le_length (by omega)]
  · show [nD (startL ws ((ts ++ [v]).take (ts.length + 1)))] = _
    rw [List.take_of_length_le (by simp)]
theorem stood_nil (ws : List (List Nat)) : stoodL ws [] = [nD (List.range ws.length)] := by
  show [nD (startL ws [])] = _
  rw [start_nil]
theorem stood_last (ws ts : List (List Nat)) : (stoodL ws ts).getLast? = some (nD (startL ws ts)) := by
  unfold stoodL
  rw [List.range_succ, List.map_append, List.map_singleton, List.getLast?_append]
  rw [List.take_length]
  rfl
theorem stood_drop (ws ts : List (List Nat)) (h : ts ≠ []) : (stoodL ws ts).dropLast = stoodL ws ts.dropLast := by
  have e : ts = ts.dropLast ++ [ts.getLast h] := (List.dropLast_concat_getLast h).symm
  generalize ts.dropLast = a at e
  generalize ts.getLast h = v at e
  subst e
  rw [stood_snoc]
  simp
theorem stood_len (ws ts : List (List Nat)) : (stoodL ws ts).length = ts.length + 1 := by simp [stoodL]
end HW
set_option maxHeartbeats 4000000
namespace HW
open PySem PySem.Spec PyProof.Rows L2
open SX (S)
/-! ### law 22's words -/
def pre_seeB (fs : List (Str × PyData)) (ds : List PyData) : Prop := ∃ l m ts v, fs = trk l m ts ∧ OkT l m ts ∧ ds = [v] ∧ noLook m v
def post_seeB (fs : List (Str × PyData)) (_ : List PyData) (fs' : List (Str × PyData)) (d : PyData) : Prop := fs' = fs ∧ d = sD [118, 105, 101, 119]
def R_lstarts (ds : List PyData) (d : PyData) : Prop := ∃ l m ts, ds = [sD l, sD m, wD ts] ∧ OkT l m ts ∧ d = nD (startL (viewsL l m) ts)
def pre_ist (fs : List (Str × PyData)) (ds : List PyData) : Prop := ∃ l m ts, fs = trk l m ts ∧ OkT l m ts ∧ ds = [sD l, sD m, wD ts]
def post_ist (fs : List (Str × PyData)) (_ : List PyData) (fs' : List (Str × PyData)) (d : PyData) : Prop := fs' = fs ∧ d = .bool true
/-- the law's way to say fitB -/
def goodB (ws ts : List (List Nat)) (p j : Nat) : Bool := decide (p + ts.length ≤ ws.length) && (List.range j).all fun i => decide (missN (ws.getD (p + i) []) (ts.getD i []) = 0)
theorem good_succ (ws ts : List (List Nat)) (p j : Nat) : goodB ws ts p (j + 1) = (goodB ws ts p j && decide (missN (ws.getD (p + j) []) (ts.getD j []) = 0)) := by
  unfold goodB
  rw [List.range_succ, List.all_append, List.all_cons, List.all_nil, Bool.and_true, Bool.and_assoc]
theorem good_fit {ws ts : List (List Nat)} {p : Nat} : (goodB ws ts p ts.length || ts.isEmpty) = fitB ws ts p := by
  cases ts with
  | nil =>
    show (_ || true) = fitB ws [] p
    rw [Bool.or_true]
    rfl
  | cons t r =>
    show (_ || false) = _
    rw [Bool.or_false]
    unfold goodB fitB
    rw [Bool.eq_iff_iff, Bool.and_eq_true, List.all_eq_true, List.all_eq_true, decide_eq_true_iff]
    constructor
    · rintro ⟨h1, h2⟩ i hi
      have hi2 := List.mem_range.mp hi
      rw [h2 i hi, Bool.and_true, decide_eq_true_iff]
      omega
    · intro h
      refine ⟨?_, fun i hi => ?_⟩
      · have := h (t :: r).length.pred (List.mem_range.mpr (by simp))
        rw [Bool.and_eq_true, decide_eq_true_iff] at this
        have := this.1
        simp at this ⊢
        omega
      · have := h i hi
        rw [Bool.and_eq_true] at this
        exact this.2
theorem OkT.snoc {l m : List Nat} {ts : List (List Nat)} {v : List Nat} (h : OkT l m ts) (hv : lookB m v = true) (hf : ts.length < 900) : OkT l m (ts ++ [v]) := ⟨h.row, h.mask, by rw [List.length_append]; simp; omega, fun u hu => by
  rcases List.mem_append.mp hu with h2 | h2
  · exact h.looks u h2
  · rw [List.mem_singleton.mp h2]; exact hv⟩
theorem OkT.drop {l m : List Nat} {ts : List (List Nat)} (h : OkT l m ts) : OkT l m ts.dropLast := ⟨h.row, h.mask, by rw [List.length_dropLast]; have := h.few; omega, fun u hu => h.looks u (List.dropLast_subset _ hu)⟩
theorem shp_ts {l m : List Nat} {ts : List (List Nat)} (h : OkT l m ts) : Shp 1 (.tuple (ts.map sD)) := Shp.tup fun y hy => by
  obtain ⟨v, hv, rfl⟩ := List.mem_map.mp hy
  refine Shp.str fun c hc => ?_
  have := (lookB_iff.mp (h.looks v hv)).2 c hc
  omega
theorem shp_tsL {l m : List Nat} {ts : List (List Nat)} (h : OkT l m ts) : Shp 1 (wD ts) := Shp.list fun y hy => by
  obtain ⟨v, hv, rfl⟩ := List.mem_map.mp hy
  refine Shp.str fun c hc => ?_
  have := (lookB_iff.mp (h.looks v hv)).2 c hc
  omega
theorem t0_pure {g : List Nat → List Nat → List (List Nat) → PyData} {l m : List Nat} {ts : List (List Nat)} {ds : List PyData} : ∀ fs' z, post_t0 g (trk l m ts) ds fs' z → fs' = trk l m ts ∧ z = g l m ts := fun fs' z ⟨l', m', ts', e1, e2, e3⟩ => by
  obtain ⟨rfl, rfl, rfl⟩ := trk_inj e1
  exact ⟨e2, e3⟩
/-- some of the local objects, in another order -/
theorem Rep.sub {K : PySem.W.Frag} {W : Wd} {Γ : List DV} {μ μ' : Mu} {σ : L2.St} {H : Hp} (R : Rep K W Γ μ σ H) (s : ∀ p ∈ μ', p ∈ μ) (nd : (μ.map (·.1)).Nodup → (μ'.map (·.1)).Nodup) : Rep K W Γ μ' σ H := by
  have sub : Same (off (hd W μ) H) (off (hd W μ') H) := same_offs fun a ha => by
    rcases List.mem_append.mp ha with z | z
    · exact List.mem_append_left _ z
    · obtain ⟨p, hp, rfl⟩ := List.mem_map.mp z
      exact List.mem_append_right _ (List.mem_map.mpr ⟨p, s p hp, rfl⟩)
  exact ⟨R.wd, R.fr, R.sl.up sub, fun p hp => ⟨(R.mu p (s p hp)).1, (R.mu p (s p hp)).2.up sub fun _ z => z⟩, nd R.nd⟩
section
variable {X : Cx} {W : Wd} {Γ : List DV} {μ μ' : Mu} {e : Expr} {es : List Expr} {rest : List Stmt} {D : Ends} {pos p p2 : Pos} {n : Str} {a C : Addr} {fs : List (Str × PyData)} {ds : List PyData} {k : Nat} {ps : List Str}
theorem run_mu (s : ∀ p ∈ μ', p ∈ μ) (nd : (μ.map (·.1)).Nodup → (μ'.map (·.1)).Nodup) (h : Run X W Γ μ' rest D) : Run X W Γ μ rest D := fun σ H R => h σ H (R.sub s nd)
theorem s_listE {z : Int} (e : z = -1) : SlD X (.list ds) none (some z) (.list ds.dropLast) := by
  cases ds with
  | nil =>
    have h := s_list (X := X) (ds := []) (lo := none) (hi := some z)
    rw [List.drop_nil, List.take_nil] at h
    exact h
  | cons => exact s_listI e (by simp)
/-- f(o, e, ..), the arguments drawn -/
theorem em_callV (i j : Nat) {x : Str} {A : List PyData → Prop} {pre : List (Str × PyData) → List PyData → Prop} {post : List (Str × PyData) → List PyData → List (Str × PyData) → PyData → Prop} (F : Fd X.prog X.w X.K X.mg X.base k x ps (spT X.K C pre post)) (hr : Room k X.A) (ha : EvA X W Γ μ es A) (hp : ∀ ds, A ds → pre fs ds) (hi : Γ[i]? = some (.r a) := by rfl) (hj : μ[j]? = some (a, .ins C fs) := by rfl) (hN : X.N[i]? = some n := by rfl) (hv : Vis X.env.scope n := by first | exact Or.inl rfl | exact Or.inr (Or.inl rfl) | exact Or.inr (Or.inr rfl))
    (h1 : (n == ("__debug__" : Str)) = false := by decide) (h2 : (n == ("__classdict__" : Str)) = false := by decide) (hg : Gl X x := by rfl)
    (hdb : (x == ("__debug__" : Str)) = false := by decide) (he : starEach (.Name n p2 :: es) X.env = (false, eval (.Name n p2) X.env) :: starEach es X.env := by rfl) (hpl : (backTo pos (starEach es X.env)).any (·.1) = false := by rfl) :
    EvM X W Γ μ (.Call (.Name x p) (.Name n p2 :: es) [] pos) (fun d μ' => ∃ ds, A ds ∧ ∃ fs', post fs ds fs' d ∧ μ' = μ.set j (a, .ins C fs')) := fun σ H R Q q => by
  obtain ⟨f, fd, g1, g2, g3, g4⟩ := F.ex
  refine (pe_call g1 hr hg g2 g3 g4 .nil pass0 (pa_cons (pe_var hN hv h1 h2) wA.pa he) hdb he hpl).w ?_
  obtain ⟨o, e1, e2⟩ := R.sl.at_ i _ hi
  have e2' : o = some (.ref a) := e2
  subst e2'
  refine ⟨_, e1, ha σ H R _ fun vs ds H2 R2 x2 r2 pa => ?_⟩
  show spT X.K C pre post ((V.ref a :: vs) ++ []) H2 Q _
  rw [List.append_nil]
  exact spT_call R2 x2 hj r2 (hp ds pa) fun v d μ' H3 R3 s3 r3 h3 => q v d μ' H3 R3 s3 r3 ⟨ds, pa, h3⟩
end
end HW
set_option maxHeartbeats 0
namespace Tx
open PySem PySem.Spec PyProof.Rows L2
def top (i : Nat) : Stmt := PySem.Challenge.pw_holedwindows_k22_whole_trackers.main.body.getD i (.Pass ⟨0, 0, 0, 0⟩)
abbrev s_is_mask : Stmt := top 11
abbrev s_need_mask : Stmt := top 12
abbrev s_is_row : Stmt := top 13
abbrev s_need_row : Stmt := top 14
abbrev s_seen_by : Stmt := top 15
abbrev s_view_by : Stmt := top 17
abbrev s_views_of : Stmt := top 18
abbrev s_is_view : Stmt := top 21
abbrev s_misses : Stmt := top 22
abbrev s__law_taken : Stmt := top 26
abbrev s__law_mask : Stmt := top 27
abbrev s__law_line : Stmt := top 28
abbrev s__law_open : Stmt := top 29
abbrev s__law_views : Stmt := top 30
abbrev s__law_odd_look : Stmt := top 31
abbrev s__law_look : Stmt := top 32
abbrev s__law_misses : Stmt := top 33
abbrev s__law_seen : Stmt := top 34
abbrev s__law_starts : Stmt := top 35
abbrev s__law_is_tracker : Stmt := top 36
abbrev s_law : Stmt := top 37
def d_is_mask : He.DefD := ⟨("is_mask", none), "is_mask", "is_mask", defArgs s_is_mask, defBody s_is_mask, defScope s_is_mask, [], []⟩
def d_need_mask : He.DefD := ⟨("need_mask", none), "need_mask", "need_mask", defArgs s_need_mask, defBody s_need_mask, defScope s_need_mask, [], []⟩
def d_is_row : He.DefD := ⟨("is_row", none), "is_row", "is_row", defArgs s_is_row, defBody s_is_row, defScope s_is_row, [], []⟩
def d_need_row : He.DefD := ⟨("need_row", none), "need_row", "need_row", defArgs s_need_row, defBody s_need_row, defScope s_need_row, [], []⟩
def d_seen_by : He.DefD := ⟨("seen_by", none), "seen_by", "seen_by", defArgs s_seen_by, defBody s_seen_by, defScope s_seen_by, [], []⟩
def d_view_by : He.DefD := ⟨("view_by", none), "view_by", "view_by", defArgs s_view_by, defBody s_view_by, defScope s_view_by, [], []⟩
def d_views_of : He.DefD := ⟨("views_of", none), "views_of", "views_of", defArgs s_views_of, defBody s_views_of, defScope s_views_of, [], []⟩
def d_is_view : He.DefD := ⟨("is_view", none), "is_view", "is_view", defArgs s_is_view, defBody s_is_view, defScope s_is_view, [], []⟩
def d_misses : He.DefD := ⟨("misses", none), "misses", "misses", defArgs s_misses, defBody s_misses, defScope s_misses, [], []⟩
def d__law_taken : He.DefD := ⟨("_law_taken", none), "_law_taken", "_law_taken", defArgs s__law_taken, defBody s__law_taken, defScope s__law_taken, [], []⟩
def d__law_mask : He.DefD := ⟨("_law_mask", none), "_law_mask", "_law_mask", defArgs s__law_mask, defBody s__law_mask, defScope s__law_mask, [], []⟩
def d__law_line : He.DefD := ⟨("_law_line", none), "_law_line", "_law_line", defArgs s__law_line, defBody s__law_line, defScope s__law_line, [], []⟩
def d__law_open : He.DefD := ⟨("_law_open", none), "_law_open", "_law_open", defArgs s__law_open, defBody s__law_open, defScope s__law_open, [], []⟩
def d__law_views : He.DefD := ⟨("_law_views", none), "_law_views", "_law_views", defArgs s__law_views, defBody s__law_views, defScope s__law_views, [], []⟩
def d__law_odd_look : He.DefD := ⟨("_law_odd_look", none), "_law_odd_look", "_law_odd_look", defArgs s__law_odd_look, defBody s__law_odd_look, defScope s__law_odd_look, [], []⟩
def d__law_look : He.DefD := ⟨("_law_look", none), "_law_look", "_law_look", defArgs s__law_look, defBody s__law_look, defScope s__law_look, [], []⟩
def d__law_misses : He.DefD := ⟨("_law_misses", none), "_law_misses", "_law_misses", defArgs s__law_misses, defBody s__law_misses, defScope s__law_misses, [], []⟩
def d__law_seen : He.DefD := ⟨("_law_seen", none), "_law_seen", "_law_seen", defArgs s__law_seen, defBody s__law_seen, defScope s__law_seen, [], []⟩
def d__law_starts : He.DefD := ⟨("_law_starts", none), "_law_starts", "_law_starts", defArgs s__law_starts, defBody s__law_starts, defScope s__law_starts, [], []⟩
def d__law_is_tracker : He.DefD := ⟨("_law_is_tracker", none), "_law_is_tracker", "_law_is_tracker", defArgs s__law_is_tracker, defBody s__law_is_tracker, defScope s__law_is_tracker, [], []⟩
def d_law : He.DefD := ⟨("law", none), "law", "law", defArgs s_law, defBody s_law, defScope s_law, [], []⟩
abbrev m_BadView : Stmt := HW.clsM (top 4) 0
def i_BadView : He.DefD := ⟨("BadView", some "__init__"), "__init__", "BadView.__init__", defArgs m_BadView, defBody m_BadView, defScope m_BadView, [], []⟩
abbrev mm_Tracker___init__ : Stmt := HW.clsM (top 24) 0
def im_Tracker___init__ : He.DefD := ⟨("Tracker", some "__init__"), "__init__", "Tracker.__init__", defArgs mm_Tracker___init__, defBody mm_Tracker___init__, defScope mm_Tracker___init__, [], []⟩
abbrev mm_Tracker_starts : Stmt := HW.clsM (top 24) 4
def im_Tracker_starts : He.DefD := ⟨("Tracker", some "starts"), "starts", "Tracker.starts", defArgs mm_Tracker_starts, defBody mm_Tracker_starts, defScope mm_Tracker_starts, [], []⟩
abbrev mm_Tracker_places : Stmt := HW.clsM (top 24) 5
def im_Tracker_places : He.DefD := ⟨("Tracker", some "places"), "places", "Tracker.places", defArgs mm_Tracker_places, defBody mm_Tracker_places, defScope mm_Tracker_places, [], []⟩
abbrev mm_Tracker_see : Stmt := HW.clsM (top 24) 6
def im_Tracker_see : He.DefD := ⟨("Tracker", some "see"), "see", "Tracker.see", defArgs mm_Tracker_see, defBody mm_Tracker_see, defScope mm_Tracker_see, [], []⟩
abbrev mm_Tracker_undo : Stmt := HW.clsM (top 24) 7
def im_Tracker_undo : He.DefD := ⟨("Tracker", some "undo"), "undo", "Tracker.undo", defArgs mm_Tracker_undo, defBody mm_Tracker_undo, defScope mm_Tracker_undo, [], []⟩
abbrev mm_Tracker_copy : Stmt := HW.clsM (top 24) 8
def im_Tracker_copy : He.DefD := ⟨("Tracker", some "copy"), "copy", "Tracker.copy", defArgs mm_Tracker_copy, defBody mm_Tracker_copy, defScope mm_Tracker_copy, [], []⟩
abbrev mm_Tracker___len__ : Stmt := HW.clsM (top 24) 9
def im_Tracker___len__ : He.DefD := ⟨("Tracker", some "__len__"), "__len__", "Tracker.__len__", defArgs mm_Tracker___len__, defBody mm_Tracker___len__, defScope mm_Tracker___len__, [], []⟩
abbrev pm_Tracker_row : Stmt := HW.clsM (top 24) 1
def ip_Tracker_row : He.DefD := ⟨("Tracker", some "row"), "row", "Tracker.row", defArgs pm_Tracker_row, defBody pm_Tracker_row, defScope pm_Tracker_row, [], []⟩
abbrev pm_Tracker_mask : Stmt := HW.clsM (top 24) 2
def ip_Tracker_mask : He.DefD := ⟨("Tracker", some "mask"), "mask", "Tracker.mask", defArgs pm_Tracker_mask, defBody pm_Tracker_mask, defScope pm_Tracker_mask, [], []⟩
abbrev pm_Tracker_seen : Stmt := HW.clsM (top 24) 3
def ip_Tracker_seen : He.DefD := ⟨("Tracker", some "seen"), "seen", "Tracker.seen", defArgs pm_Tracker_seen, defBody pm_Tracker_seen, defScope pm_Tracker_seen, [], []⟩
def pn : List He.DefD := [ip_Tracker_row, ip_Tracker_mask, ip_Tracker_seen]
def fn0 : List He.DefD := [d_is_mask, d_need_mask, d_is_row, d_need_row, d_seen_by, d_view_by, d_views_of, d_is_view, d_misses, d__law_taken, d__law_mask, d__law_line, d__law_open, d__law_views, d__law_odd_look, d__law_look, d__law_misses, d__law_seen, d__law_starts, d__law_is_tracker, d_law, i_BadView, im_Tracker___init__, im_Tracker_starts, im_Tracker_places]
def fn1 : List He.DefD := [im_Tracker_see, im_Tracker_undo, im_Tracker_copy, im_Tracker___len__]
def fn : List He.DefD := fn0 ++ fn1
def fa0 : List He.Fa := [.glo "is_mask", .glo "need_mask", .glo "is_row", .glo "need_row", .glo "seen_by", .glo "view_by", .glo "views_of", .glo "is_view", .glo "misses", .glo "_law_taken", .glo "_law_mask", .glo "_law_line", .glo "_law_open", .glo "_law_views", .glo "_law_odd_look", .glo "_law_look", .glo "_law_misses", .glo "_law_seen", .glo "_law_starts", .glo "_law_is_tracker", .glo "law", .free "all", .free "enumerate", .free "int", .free "isinstance"]
def fa1 : List He.Fa := [.free "len", .free "list", .free "max", .free "property", .free "range", .free "str", .free "tuple", .free "zip", .free "set", .free "min", .free "sorted", .free "any", .free "bool", .free "dict", .free "abs", .free "sum", .glo "Tracker", .cls "Tracker", .mkr "Tracker", .meth "Tracker" "starts", .meth "Tracker" "places", .meth "Tracker" "see", .meth "Tracker" "undo", .meth "Tracker" "copy", .meth "Tracker" "__len__"]
def fa2 : List He.Fa := [.noat "Tracker" "line", .noat "Tracker" "shape", .noat "Tracker" "told", .noat "Tracker" "stood", .exm "BadView" "BadView" true, .str "SEEN" "x", .str "HOLE" ".", .str "LETTERS" "abcd", .int "MOST_MASK" 12, .int "MOST_ROW" 60, .str "OPEN" "?"]
def fa : List He.Fa := fa0 ++ fa1 ++ fa2
def names0 : List PySem.Str := ["__name__", "SEEN", "HOLE", "LETTERS", "MOST_MASK", "MOST_ROW", "OPEN", "WindowError", "BadMask", "BadRow", "BadView", "Tracker", "is_mask", "need_mask", "is_row", "need_row", "seen_by", "view_by", "views_of", "is_view", "misses", "_law_taken", "_law_mask", "_law_line", "_law_open"]
def names1 : List PySem.Str := ["_law_views", "_law_odd_look", "_law_look", "_law_misses", "_law_seen", "_law_starts", "_law_is_tracker"]
def names : List PySem.Str := names0 ++ names1
abbrev R : PySem.W.OpenRow := PySem.W.OpenLaw.row PySem.Challenge.rw_holedwindows_k22_whole_trackers
def ex (K : PySem.W.Frag) : Bool := HW.exfB "BadView" K && HW.baseB "WindowError" K && HX.propB "Tracker" "row" K && HX.propB "Tracker" "mask" K && HX.propB "Tracker" "seen" K && true
abbrev hk : PySem.W.Hook := HX.hookP 6 fa fn ex pn
def ob (s : PySem.W.SharedT) : HX.AlP := HX.obsP 6 fa fn ex pn (HandSHeadRun.getT s)
theorem ob_eq (s : PySem.W.SharedT) : ob s = hk.obs s.abs := HX.obsP_eq (HandSHeadRun.getT_eq s)
theorem run (w : World) : HandSHeadRun.RunEq R (PySem.W.view R.prog [37]) hk ob 12000 names w := by
  intro os
  kernel_rfl
end Tx
set_option maxHeartbeats 4000000
namespace HW
open PySem PySem.Spec PyProof.Rows L2 Tx
open SX (S)
section
variable {P : Program} {w : World} {K : PySem.W.Frag} {mg : Str → Option Value} {base : Heap} {f : Addr} {fd : FuncData} {k : Nat}
theorem fi_BadView {C : Addr} (F : FunD K "__init__" "BadView.__init__" (defArgs m_BadView) (defBody m_BadView) (defScope m_BadView) [] [] f fd) (B : BaseF K mg "WindowError") : FnOk P w K mg base CX0 (k + 1) f fd ["self"] (spI0 K C) :=
  fn_init0 F ⟨rfl, rfl, rfl, by decide +kernel, rfl, by decide +kernel, by decide +kernel⟩ B (fun _ _ _ _ _ _ => rfl) (fun _ _ _ _ _ _ => Or.inl rfl) (fun _ _ _ _ _ _ => ⟨_, rfl⟩) (fun _ _ _ _ _ _ => rfl)
theorem fd_taken (F : FnP K "_law_taken" s__law_taken f fd) (hint : mg "int" = none) (hlen : mg "len" = none) : FnOk P w K mg base CX0 (k + 1) f fd ["_law_row", "_law_many"] (spW K R_taken_pre R_taken_post) := by
  have sc : FnScope ["_law_row", "_law_many", "_law_found", "_law_cell"] ["_law_row", "_law_many"] (defScope s__law_taken) := ⟨rfl, rfl, rfl, by decide +kernel, rfl, by decide +kernel, by decide +kernel⟩
  refine F.ok sc (fun vs H Q E ⟨M, r, scr, ns, ws, ds, e, _, _, _, _, _, _, hv, ⟨m, e2, _⟩, _⟩ => by rw [e, List.length_cons, hv.length, e2]; rfl) fun cdv A outer s H vs Q E hr ⟨M, r, scr, ns, ws, ds, e, hM, hrM, hR, hS, hne, hns, hv, ⟨m, e2, h0, h1⟩, q⟩ => ?_
  subst e
  subst e2
  cases hv with
  | cons hv1 hv2 =>
  cases hv2
  cases hv1
  obtain ⟨i, sd, rest, hrow, hi0⟩ := hR
  -- the end: r holds whatever it holds
  have fin : ∀ (k : Nat) (i' sd' q' : Int) (H' : Hp), (k : Int) < m → 0 ≤ i' → (∀ a o, a ≠ r → H a = some o → H' a = some o) → H' r = some (.lst [.ref scr, .int i', .int sd', .int q']) → Q (.int (k : Int)) H' := fun k i' sd' q' H' hk hi' keep hr' =>
    q _ H' (.int (k : Int)) ⟨m, k, rfl, rfl, hk⟩ keep ⟨i', sd', q', hr', hi'⟩ (.int _)
  have modk : ∀ z : Int, ∃ k : Nat, z % m = (k : Int) ∧ (k : Int) < m := fun z => ⟨(z % m).toNat, by rw [Int.toNat_of_nonneg (Int.emod_nonneg _ (by omega))], by rw [Int.toNat_of_nonneg (Int.emod_nonneg _ (by omega))]; exact Int.emod_lt_of_pos _ h0⟩
  have sq : ∀ {H' : Hp}, (∀ a o, a ≠ r → H a = some o → H' a = some o) → SqL K H' scr (ns.map V.int) := fun {H'} keep => SqL.up (fun o e => keep scr o hne e) hS
  refine ⟨_, PSs.nox wSs.ps, ?_⟩
  show wSs (cxOf CX0 P w K mg base ["_law_row", "_law_many", "_law_found", "_law_cell"] "_law_taken" (defScope s__law_taken) f cdv A outer s H E).nox _ _ (start _ _) H
  have nd := sc.nd
  have k1 : ∀ {o : HO} (a : Addr) (u : HO), a ≠ r → H a = some u → upd H r o a = some u := fun {o} a u n e => by rw [upd_ne n]; exact e
  refine wSs_cons ((ps_if wT.pt wSs.ps wSs.ps).w (at_cmp (k := decide (0 < rest)) op_gt (at_ix (at_var 0 rfl) at_int (SqL.of hrow) rfl) at_int (fun Q q => ⟨rest, 0, rfl, rfl, q⟩) ?_))
  by_cases hp : 0 < rest
  · rw [decide_eq_true hp]
    obtain ⟨k, ek, hk⟩ := modk rest
    refine iteT (wSs_cons ((ps_set (i := 2) nd rfl (.inl rfl) wE.pe).w (at_op (z := .int (rest % m)) op_mod (at_int1 (at_ix (at_var 0 rfl) at_int (SqL.of hrow) rfl) hint) (at_var 1 rfl) (fun Q q => ⟨rest, m, rfl, rfl, h0, q⟩) _ ?_)))
    refine wSs_cons ((ps_asg wE.pe (pg_sub wE.pe wE.pe set_list)).w (at_op (z := .int (rest / m)) op_fdiv (at_ix (at_var 0 rfl) at_int (SqL.of hrow) rfl) (at_var 1 rfl) (fun Q q => ⟨rest, m, rfl, rfl, ⟨h0, h1⟩, q⟩) _ ?_))
    refine at_k (at_var 0 rfl) (at_k at_int ⟨r, _, 3, 3, rfl, rfl, hrow, rfl, ?_⟩)
    refine wSs_cons ((ps_ret wE.pe).w (at_k (at_var 2 rfl) ?_))
    rw [ek]
    exact fin k i sd (rest / m) _ hk hi0 k1 upd_same
  · rw [decide_eq_false hp]
    refine iteF (pss_nil.w ?_)
    refine wSs_cons ((ps_asg wE.pe (pg_sub wE.pe wE.pe set_list)).w (at_op (z := .int (i + 1)) op_add (at_ix (at_var 0 rfl) at_int (SqL.of hrow) rfl) at_int (fun Q q => ⟨i, 1, rfl, rfl, q⟩) _ ?_))
    refine at_k (at_var 0 rfl) (at_k at_int ⟨r, _, 1, 1, rfl, rfl, hrow, rfl, ?_⟩)
    have hr1 : upd H r (.lst [.ref scr, .int (i + 1), .int sd, .int rest]) r = some (.lst [.ref scr, .int (i + 1), .int sd, .int rest]) := upd_same
    have keep1 : ∀ (a : Addr) (u : HO), a ≠ r → H a = some u → upd H r (.lst [.ref scr, .int (i + 1), .int sd, .int rest]) a = some u := k1
    revert hr1 keep1
    show _ → _ → wSs _ _ _ _ (upd H r (.lst [.ref scr, .int (i + 1), .int sd, .int rest]))
    generalize upd H r (.lst [.ref scr, .int (i + 1), .int sd, .int rest]) = H1
    intro hr1 keep1
    have k2 : ∀ {o : HO} (a : Addr) (u : HO), a ≠ r → H a = some u → upd H1 r o a = some u := fun {o} a u n e => by rw [upd_ne n]; exact keep1 a u n e
    refine wSs_cons ((ps_if wT.pt wSs.ps wSs.ps).w (at_cmp (k := decide (((ns.map V.int).length : Int) < i + 1)) op_gt (at_ix (at_var 0 rfl) at_int (SqL.of hr1) rfl) (at_len (at_ix (at_var 0 rfl) at_int (SqL.of hr1) rfl) (sq keep1) hlen) (fun Q q => ⟨i + 1, _, rfl, rfl, q⟩) ?_))
    by_cases hb : ((ns.map V.int).length : Int) < i + 1
    · rw [decide_eq_true hb]
      refine iteT (wSs_cons ((ps_asg wE.pe (pg_sub wE.pe wE.pe set_list)).w (at_op (z := .int ((sd * 48271 + 11) % 2147483647)) op_mod (at_int1 (at_op (z := .int (sd * 48271 + 11)) op_add (at_op (z := .int (sd * 48271)) op_mul (at_ix (at_var 0 rfl) at_int (SqL.of hr1) rfl) at_int (fun Q q => ⟨sd, 48271, rfl, rfl, .inr (by decide), q⟩)) at_int (fun Q q => ⟨_, 11, rfl, rfl, q⟩)) hint) at_int (fun Q q => ⟨_, 2147483647, rfl, rfl, (by decide : (0 : Int) < 2147483647), q⟩) _ ?_)))
      refine at_k (at_var 0 rfl) (at_k at_int ⟨r, _, 2, 2, rfl, rfl, hr1, rfl, ?_⟩)
      obtain ⟨k, ek, hk⟩ := modk ((sd * 48271 + 11) % 2147483647 / 7)
      refine wSs_cons ((ps_ret wE.pe).w (at_op (z := .int ((sd * 48271 + 11) % 2147483647 / 7 % m)) op_mod (at_int1 (at_op (z := .int ((sd * 48271 + 11) % 2147483647 / 7)) op_fdiv (at_ix (at_var 0 rfl) at_int (SqL.of upd_same) rfl) at_int (fun Q q => ⟨_, 7, rfl, rfl, ⟨by decide, by decide⟩, q⟩)) hint) (at_var 1 rfl) (fun Q q => ⟨_, m, rfl, rfl, h0, q⟩) _ ?_))
      rw [ek]
      exact fin k (i + 1) _ rest _ hk (by omega) k2 upd_same
    · rw [decide_eq_false hb]
      refine iteF (pss_nil.w ?_)
      obtain ⟨c, hc⟩ : ∃ c : Int, atI (ns.map V.int) (i + 1 - 1) = some (.int c) := by
        have hl : i.toNat < ns.length := by
          rw [List.length_map] at hb
          omega
        refine ⟨ns[i.toNat], at_nat (n := i.toNat) (by omega) ?_⟩
        rw [List.getElem?_map, List.getElem?_eq_getElem hl]
        rfl
      refine wSs_cons ((ps_set (i := 3) nd rfl (.inl rfl) wE.pe).w (at_ix (at_ix (at_var 0 rfl) at_int (SqL.of hr1) rfl) (at_op (z := .int (i + 1 - 1)) op_sub (at_ix (at_var 0 rfl) at_int (SqL.of hr1) rfl) at_int (fun Q q => ⟨i + 1, 1, rfl, rfl, q⟩)) (sq keep1) hc (by exact fun _ _ => rfl) _ ?_))
      refine wSs_cons ((ps_asg wE.pe (pg_sub wE.pe wE.pe set_list)).w (at_op (z := .int ((sd * 48271 + c + 11) % 2147483647)) op_mod (at_int1 (at_op (z := .int (sd * 48271 + c + 11)) op_add (at_op (z := .int (sd * 48271 + c)) op_add (at_op (z := .int (sd * 48271)) op_mul (at_ix (at_var 0 rfl) at_int (SqL.of hr1) rfl) at_int (fun Q q => ⟨sd, 48271, rfl, rfl, .inr (by decide), q⟩)) (at_var 3 rfl) (fun Q q => ⟨_, c, rfl, rfl, q⟩)) at_int (fun Q q => ⟨_, 11, rfl, rfl, q⟩)) hint) at_int (fun Q q => ⟨_, 2147483647, rfl, rfl, (by decide : (0 : Int) < 2147483647), q⟩) _ ?_))
      refine at_k (at_var 0 rfl) (at_k at_int ⟨r, _, 2, 2, rfl, rfl, hr1, rfl, ?_⟩)
      have hr2 : upd H1 r (.lst [.ref scr, .int (i + 1), .int ((sd * 48271 + c + 11) % 2147483647), .int rest]) r = some (.lst [.ref scr, .int (i + 1), .int ((sd * 48271 + c + 11) % 2147483647), .int rest]) := upd_same
      have keep2 : ∀ (a : Addr) (u : HO), a ≠ r → H a = some u → upd H1 r (.lst [.ref scr, .int (i + 1), .int ((sd * 48271 + c + 11) % 2147483647), .int rest]) a = some u := k2
      revert hr2 keep2
      show _ → _ → wSs _ _ _ _ (upd H1 r (.lst [.ref scr, .int (i + 1), .int ((sd * 48271 + c + 11) % 2147483647), .int rest]))
      generalize upd H1 r (.lst [.ref scr, .int (i + 1), .int ((sd * 48271 + c + 11) % 2147483647), .int rest]) = H2
      intro hr2 keep2
      have k3 : ∀ {o : HO} (a : Addr) (u : HO), a ≠ r → H a = some u → upd H2 r o a = some u := fun {o} a u n e => by rw [upd_ne n]; exact keep2 a u n e
      obtain ⟨k, ek, hk⟩ := modk c
      refine wSs_cons ((ps_if wT.pt wSs.ps wSs.ps).w (at_cmp (k := decide ((10 : Int) ^ (18 : Int).toNat ≤ c)) op_ge (at_var 3 rfl) (at_op (z := .int ((10 : Int) ^ (18 : Int).toNat)) op_pow at_int at_int (fun Q q => ⟨10, 18, rfl, rfl, ⟨by decide, by decide, by decide⟩, q⟩)) (fun Q q => ⟨c, _, rfl, rfl, q⟩) ?_))
      have out : ∀ (q' : Int) (H' : Hp), (∀ a o, a ≠ r → H a = some o → H' a = some o) → H' r = some (.lst [.ref scr, .int (i + 1), .int ((sd * 48271 + c + 11) % 2147483647), .int q']) →
          wSs (cxOf CX0 P w K mg base ["_law_row", "_law_many", "_law_found", "_law_cell"] "_law_taken" (defScope s__law_taken) f cdv A outer s H E).nox ((defBody s__law_taken).drop 6) { nx := fun x H' => Q .non H', rt := Q } [some (.ref r), some (.int m), none, some (.int c)] H' := fun q' H' keep hr' => by
        refine wSs_cons ((ps_ret wE.pe).w (at_op (z := .int (c % m)) op_mod (at_int1 (at_var 3 rfl) hint) (at_var 1 rfl) (fun Q q => ⟨c, m, rfl, rfl, h0, q⟩) _ ?_))
        rw [ek]
        exact fin k (i + 1) _ q' _ hk (by omega) keep hr'
      by_cases hg : (10 : Int) ^ (18 : Int).toNat ≤ c
      · rw [decide_eq_true hg]
        refine iteT (wSs_cons ((ps_asg wE.pe (pg_sub wE.pe wE.pe set_list)).w (at_op (z := .int (c / m)) op_fdiv (at_var 3 rfl) (at_var 1 rfl) (fun Q q => ⟨c, m, rfl, rfl, ⟨h0, h1⟩, q⟩) _ ?_)))
        refine at_k (at_var 0 rfl) (at_k at_int ⟨r, _, 3, 3, rfl, rfl, hr2, rfl, ?_⟩)
        exact pss_nil.w (out (c / m) _ k3 upd_same)
      · rw [decide_eq_false hg]
        exact iteF (pss_nil.w (out rest _ keep2 hr2))
theorem fd_law_mask (F : FnP K "_law_mask" s__law_mask f fd) (hrng : mg "range" = none) (F1 : DRAW P w K mg base k) : FnOk P w K mg base CX0 (k + 1) f fd ["_law_row", "_law_width"] (spW K pre_mask post_mask) := by
  have sc : FnScope ["_law_row", "_law_width", "_law_many", "_law_at"] ["_law_row", "_law_width"] (defScope s__law_mask) := ⟨rfl, rfl, rfl, by decide +kernel, rfl, by decide +kernel, by decide +kernel⟩
  refine fd_row F sc _ _ (fun ds ⟨m, e, _⟩ => by rw [e]; rfl) fun cdv A outer s H E hr W r scr ns ds hrow hR => ?_
  obtain ⟨wd, rfl, h1, h2⟩ := hR
  refine run_setP 2 (ev_takenN wd F1 hr hrow 0 (vr 1) rfl h1 (by omega)) (fun d ⟨mn, e, hm⟩ => ?_) sc.nd
  subst e
  refine run_if (k := decide (mn = 0)) (tc (vr 2) ed_int c_eqI |>.to (decide_eq_decide.mpr (by omega))) (fun q => run_ret (ed_S [120]) ⟨wd, [120], rfl, rfl, by decide, h1⟩) (fun q => run_skip ?_)
  have q' : mn ≠ 0 := of_decide_eq_false q
  have one : ∀ cs : List Nat, (∀ c ∈ cs, c = 120 ∨ c = 46) → cs.length = mn - 1 → maskB (120 :: cs ++ [120]) = true := fun cs hc hl => by
    unfold maskB
    simp only [Bool.and_eq_true, decide_eq_true_eq, List.all_eq_true]
    refine ⟨⟨⟨⟨by simp, by simp; omega⟩, fun c hcm => ?_⟩, rfl⟩, List.getLast?_concat⟩
    rw [List.mem_append, List.mem_cons] at hcm
    rcases hcm with (h | h) | h
    · subst h; simp
    · rcases hc c h with h | h <;> (subst h; simp)
    · rw [List.mem_singleton.mp h]; simp
  refine run_retV (ev_op (C := fun z => ∃ cs : List Nat, z = sD (120 :: cs ++ [120]) ∧ (∀ c ∈ cs, c = 120 ∨ c = 46) ∧ cs.length = mn - 1) (ev_op (C := fun z => ∃ cs : List Nat, z = sD (120 :: cs) ∧ (∀ c ∈ cs, c = 120 ∨ c = 46) ∧ cs.length = mn - 1) (ed_S [120]).ev (ev_joinC (Ws := fun cs => (∀ c ∈ cs, c = 120 ∨ c = 46) ∧ cs.length = mn - 1) (ed_S [])
    ((lcNV 3 (it_range (n := mn - 1) (ed_op (vr 2) ed_int o_sub) hrng) (fun xs e => by rw [e, List.length_range]; omega) (E := fun _ z => ∃ c, z = sg c ∧ (c = 120 ∨ c = 46)) (fun xs e x hx W1 lw s H C cl fp => (ev_ix (C := fun z => ∃ c, z = sg c ∧ (c = 120 ∨ c = 46)) (ed_S [46, 120]).ev (ev_takenN 2 F1 hr (lw.row.trans hrow) 0 ed_int rfl) (fun x y ex ⟨kk, ey, hk⟩ => by
      subst ex
      subst ey
      match kk, hk with
      | 0, _ => exact ⟨sg 46, ⟨46, rfl, .inr rfl⟩, i_str (n := 0) (by decide) rfl⟩
      | 1, _ => exact ⟨sg 120, ⟨120, rfl, .inl rfl⟩, i_str (n := 1) (by decide) rfl⟩))) sc.nd).ev sc.nd |>.imp fun d ⟨ys, e, xs, ex, hp⟩ => by
        subst ex
        obtain ⟨cs, e2, h3⟩ := paired_sg hp
        refine ⟨cs, by rw [e, e2], h3, ?_⟩
        have := plen hp
        rw [e2, List.length_map, List.length_range] at this
        exact this.symm) (fun cs h => by omega)) (fun x y ex ⟨cs, ey, hc⟩ => by
          subst ex
          subst ey
          exact ⟨sD (120 :: cs), ⟨cs, rfl, hc⟩, o_adds (l := [120]) (by simp; omega)⟩)) (ed_S [120]).ev (fun x y ⟨cs, ex, hc⟩ ey => by
          subst ex
          subst ey
          exact ⟨sD (120 :: cs ++ [120]), ⟨cs, rfl, hc⟩, o_adds (by simp; omega)⟩)) fun d ⟨cs, e, h3, h4⟩ => ⟨wd, 120 :: cs ++ [120], rfl, e, one cs h3 h4, by simp; omega⟩
theorem fd_law_line (F : FnP K "_law_line" s__law_line f fd) (hrng : mg "range" = none) (F1 : DRAW P w K mg base k) : FnOk P w K mg base CX0 (k + 1) f fd ["_law_row", "_law_most", "_law_letters"] (spW K pre_line post_line) := by
  have sc : FnScope ["_law_row", "_law_most", "_law_letters", "_law_at"] ["_law_row", "_law_most", "_law_letters"] (defScope s__law_line) := ⟨rfl, rfl, rfl, by decide +kernel, rfl, by decide +kernel, by decide +kernel⟩
  refine fd_row F sc _ _ (fun ds ⟨m, n, e, _⟩ => by rw [e]; rfl) fun cdv A outer s H E hr W r scr ns ds hrow hR => ?_
  obtain ⟨a, n, rfl, h1, h2, h3⟩ := hR
  refine run_retV (ev_joinC (Ws := fun cs => lowL n cs ∧ cs.length ≤ a) (ed_S [])
    ((lcNV 3 (it_rangeV (P := fun m => m ≤ a) (eva_cons (ev_takenN (a + 1) F1 hr hrow 0 (ed_op (vr 1) ed_int o_add) rfl (by omega) (by omega)) eva_nil |>.imp fun ds ⟨x, r, e, ⟨q, eq, hq⟩, er⟩ => ⟨(q : Int), by rw [e, er, eq], by omega, by omega, by omega⟩) hrng) (fun xs ⟨m, e, hm⟩ => by rw [e, List.length_range]; omega) (E := fun _ z => ∃ c, z = sg c ∧ (97 ≤ c ∧ c < 97 + n)) (fun xs e x hx W1 lw s H C cl fp => (ev_ix (C := fun z => ∃ c, z = sg c ∧ (97 ≤ c ∧ c < 97 + n)) (ed_S [97, 98, 99, 100]).ev (ev_takenN n F1 hr (lw.row.trans hrow) 0 (vr 2) rfl (by omega) (by omega)) (fun x y ex ⟨kk, ey, hk⟩ => by
      subst ex
      subst ey
      have hk4 : kk < 4 := by omega
      match kk, hk4, hk with
      | 0, _, hk => exact ⟨sg 97, ⟨97, rfl, by omega⟩, i_str (n := 0) (by decide) rfl⟩
      | 1, _, hk => exact ⟨sg 98, ⟨98, rfl, by omega⟩, i_str (n := 1) (by decide) rfl⟩
      | 2, _, hk => exact ⟨sg 99, ⟨99, rfl, by omega⟩, i_str (n := 2) (by decide) rfl⟩
      | 3, _, hk => exact ⟨sg 100, ⟨100, rfl, by omega⟩, i_str (n := 3) (by decide) rfl⟩))) sc.nd).ev sc.nd |>.imp fun d ⟨ys, e, xs, ⟨m, ex, hm⟩, hp⟩ => by
        subst ex
        obtain ⟨cs, e2, h3⟩ := paired_sg hp
        refine ⟨cs, by rw [e, e2], h3, ?_⟩
        have := plen hp
        rw [e2, List.length_map, List.length_range] at this
        omega) (fun cs h => by omega)) fun d ⟨cs, e, h3, h4⟩ => ⟨a, n, cs, rfl, e, h4, h3⟩
theorem fd_law_open (F : FnP K "_law_open" s__law_open f fd) (G : Gs mg) : FnOk P w K mg base CX0 (k + 1) f fd ["_law_mask_here"] (spR K R_open) := by
  have sc : FnScope ["_law_mask_here", "_law_at"] ["_law_mask_here"] (defScope s__law_open) := ⟨rfl, rfl, rfl, by decide +kernel, rfl, by decide +kernel, by decide +kernel⟩
  refine fd_pure F sc _ (fun ds d ⟨m, e, _⟩ => by rw [e]; rfl) fun cdv A outer s H E hr W ds d hrow hR => ?_
  obtain ⟨m, rfl, h1, rfl⟩ := hR
  refine run_ret (lcN1 1 (it_range (n := m.length) (ed_callB G.len boot_len (ea_cons (vr 0) ea_nil) (c_lenS (by omega))) G.range) (by simp; omega) (fun i => decide (m.getD i 0 = 120)) nn (fun i hi W1 lw s H C cl fp => tc (ed_ix (vr 0) (vr 1) (i_str (c := m.getD i 0) (n := i) (by omega) (by
      have : i < m.length := by simpa using hi
      rw [List.getD_eq_getElem?_getD, List.getElem?_eq_getElem this]
      rfl))) (ed_S [120]) (c_eqS (l := [m.getD i 0]) (m := [120])) |>.to (by simp)) (fun i hi hc W1 lw s H C cl fp => vr 1) sc.nd |>.ed sc.nd) rfl
theorem fd_law_views (F : FnP K "_law_views" s__law_views f fd) (G : Gs mg) (F1 : Fd P w K mg base k "_law_open" ["_law_mask_here"] (spR K R_open)) : FnOk P w K mg base CX0 (k + 1) f fd ["_law_line_here", "_law_mask_here"] (spR K R_lviews) := by
  have sc : FnScope ["_law_line_here", "_law_mask_here", "_law_found", "_law_place", "_law_at"] ["_law_line_here", "_law_mask_here"] (defScope s__law_views) := ⟨rfl, rfl, rfl, by decide +kernel, rfl, by decide +kernel, by decide +kernel⟩
  refine fd_pure F sc _ (fun ds d ⟨m, n, e, _⟩ => by rw [e]; rfl) fun cdv A outer s H E hr W ds d hrow hR => ?_
  obtain ⟨l, m, rfl, h1, h2, h3, rfl⟩ := hR
  have ho : (openL m).length ≤ m.length := by
    unfold openL
    refine Nat.le_trans (List.length_filter_le ..) ?_
    simp
  have hll : (lawV l m).length = l.length + 1 - m.length := by simp [lawV]
  refine run_newL 2 (fun a => ?_) sc.nd
  refine run_for 3 (it_range (n := l.length + 1 - m.length) (ed_op (ed_op (ed_callB G.len boot_len (ea_cons (vr 0) ea_nil) (c_lenS (by omega))) (ed_callB G.len boot_len (ea_cons (vr 1) ea_nil) (c_lenS (by omega))) o_sub) ed_int o_add) G.range)
    (fun i Γ μ => Γ = [.d (sD l), .d (sD m), .r a, .no, .no] ∧ μ = [(a, .lst (((lawV l m).take i).map sD))]) ⟨rfl, rfl⟩ (fun W1 lw i x Γ' μ' hx ⟨e1, e2⟩ => ?_) (fun Γ' μ' ⟨e1, e2⟩ => ?_) sc.nd
  · subst e1
    subst e2
    have hi : i < l.length + 1 - m.length := by
      have := (List.getElem?_eq_some_iff.mp hx).1
      simpa using this
    have hxi : x = i := by
      rw [List.getElem?_range hi] at hx
      exact (Option.some.inj hx).symm
    subst hxi
    have hv : (lawV l m)[x]? = some ((openL m).map fun a => l.getD (x + a) 0) := by
      unfold lawV
      rw [List.getElem?_map, List.getElem?_range hi]
      rfl
    refine run_app (ys := ((lawV l m).take x).map sD) 2 0 (ed_joinC ((openL m).map fun a => l.getD (x + a) 0) (ed_S []) (lcN0 4 (it_list (enc := nn) (xs := openL m) (ed_call F1 hr (ea_cons (vr 1) ea_nil) ⟨m, rfl, h3, rfl⟩)) (by omega) (fun a => sg (l.getD (x + a) 0)) (fun a ha W2 lw2 s2 H2 C2 cl2 fp2 => ed_ix (vr 0) (ed_op (vr 3) (vr 4) o_add) (i_str (n := x + a) (by omega) (by
        have h4 : a < m.length := by
          have := (List.mem_filter.mp ha).1
          simpa using this
        have : x + a < l.length := by omega
        rw [List.getD_eq_getElem?_getD, List.getElem?_eq_getElem this]
        rfl) (by push_cast; rfl))) sc.nd |>.ed sc.nd) (by rw [List.map_map]; rfl) (by simp; omega)) (by rw [List.length_map, List.length_take]; omega) ?_
    refine run_go [.d (sD l), .d (sD m), .r a, .no, .no] ⟨.inr rfl, .inr rfl, .inr rfl, .inl rfl, .inr rfl, trivial⟩ ?_
    refine ⟨rfl, ?_⟩
    show [(a, MO.lst (((lawV l m).take x).map sD ++ [sD ((openL m).map fun a => l.getD (x + a) 0)]))] = _
    rw [List.take_add_one, hv, List.map_append]
    rfl
  · subst e1
    subst e2
    refine run_retL 2 (hl := by simp) ?_
    rw [List.length_range, ← hll, List.take_length]
theorem fd_law_look (F : FnP K "_law_look" s__law_look f fd) (G : Gs mg) (F0 : DRAW P w K mg base k) (F1 : Fd P w K mg base k "_law_open" ["_law_mask_here"] (spR K R_open)) (F2 : Fd P w K mg base k "_law_views" ["_law_line_here", "_law_mask_here"] (spR K R_lviews)) : FnOk P w K mg base CX0 (k + 1) f fd ["_law_row", "_law_line_here", "_law_mask_here"] (spW K pre_look post_look) := by
  have sc : FnScope ["_law_row", "_law_line_here", "_law_mask_here", "_law_told", "_law_many", "_law_view", "_law_at", "_law_k"] ["_law_row", "_law_line_here", "_law_mask_here"] (defScope s__law_look) := ⟨rfl, rfl, rfl, by decide +kernel, rfl, by decide +kernel, by decide +kernel⟩
  refine fd_row F sc _ _ (fun ds ⟨l, m, e, _⟩ => by rw [e]; rfl) fun cdv A outer s H E hr W r scr ns ds hrow hR => ?_
  obtain ⟨l, m, rfl, hl, hlow, hm⟩ := hR
  have hu := hr.units
  have hml := maskB_len hm
  have hm1 := maskB_pos hm
  have hs1 := maskB_seen hm
  have hsl := seenL_len m
  have hvl := viewsL_len l m
  obtain ⟨M, hM⟩ : ∃ M, M = (seenL m).length := ⟨_, rfl⟩
  rw [← hM] at hs1 hsl
  have hlook : ∀ t, lookB m t = true → t.length = M := fun t ht => by rw [hM]; exact (lookB_iff.mp ht).1
  refine run_set (d := wD (viewsL l m)) 3 ((ed_call F2 hr (ea_cons (vr 1) (ea_cons (vr 2) ea_nil)) ⟨l, m, rfl, by omega, by omega, by omega, rfl⟩).to (by rw [lawV_eq])) ?_ sc.nd
  refine run_set (d := nn M) 4 ((lenL G (ed_call F1 hr (ea_cons (vr 2) ea_nil) ⟨m, rfl, by omega, rfl⟩)).to (by rw [List.length_map, open_seen, hM])) ?_ sc.nd
  refine run_setP (P := fun d => ∃ t : List Nat, d = sD t ∧ lookB m t = true) 5 ((ev_joinN (Q := fun c => 97 ≤ c ∧ c < 101) (P := fun xs : List Nat => xs = List.range M) 6 (ed_S []) (it_range (n := M) (vr 4) G.range) (fun xs h => by rw [h, List.length_range]; omega) (fun xs px x hx W1 lw s2 H2 C2 cl2 fp2 => (ev_sgn [97, 98, 99, 100] (by decide) (ed_S [97, 98, 99, 100]) ((ev_takenN 3 F0 hr (lw.row.trans hrow) 0 ed_int rfl).imp fun d ⟨q, e, hq⟩ => ⟨q, e, by simp; omega⟩)).imp fun z ⟨c, e, hc⟩ => ⟨c, e, by simp at hc; omega⟩) sc.nd).imp fun d ⟨cs, e, hc, xs, px, el⟩ => ⟨cs, e, lookB_iff.mpr ⟨by rw [el, px, List.length_range, hM], fun c h => .inr (hc c h)⟩⟩) (fun d ⟨t, e, ht⟩ => ?_) sc.nd
  subst e
  refine run_ifVJ (A := fun b => b = true → viewsL l m ≠ []) (fun Γ μ => ∃ t, lookB m t = true ∧ wk Γ [.r r, .d (sD l), .d (sD m), .d (wD (viewsL l m)), .d (nn M), .d (sD t), .no, .no] ∧ μ = []) (EvW.t (tvw_and (A := fun b => b = true → viewsL l m ≠ []) ((tc (vr 3) (ed_lst ea_nil (by simp)) (c_neNil hu (shp_w (views_128 fun c hc => by have := hlow c hc; omega)))).ev (fun q => by
      intro e
      rw [e] at q
      cases q)) (fun q => tvw_and1 (tc_ev (e := .Name "_law_row" ⟨0, 0, 0, 0⟩) (ev_takenN 4 F0 hr hrow 0 ed_int rfl) (ed_int.ev) (fun x y ⟨q1, ex, _⟩ ey => by
      subst ex
      subst ey
      exact ⟨_, fun _ => q rfl, c_gt⟩))) (fun q h => by cases h))) (fun q => ?_) (fun q => ?_) (fun Γ' μ' ⟨t, ht, w', e2⟩ => ?_)
  · have hne := q rfl
    have hp : 1 ≤ (viewsL l m).length := List.length_pos_iff.mpr hne
    refine run_setP (P := fun d => ∃ v, d = sD v ∧ v ∈ viewsL l m) 5 ((ev_pick ((viewsL l m).map sD) (vr 3) ((ev_taken (A := fun z => z = nn (viewsL l m).length) 4001 F0 hr hrow 0 ((lenLw G (vr 3)).evP rfl) (fun d e => ⟨(viewsL l m).length, e, hp, by omega⟩)).imp fun d ⟨z, q, ez, ed, hq, _⟩ => ⟨q, ed, by
      have e := PyData.int.inj ez
      rw [List.length_map]
      omega⟩)).imp fun z hz => by
        obtain ⟨v, hv, rfl⟩ := List.mem_map.mp hz
        exact ⟨v, rfl, hv⟩) (fun d ⟨v, e, hv⟩ => ?_) sc.nd
    subst e
    refine run_turn rfl ⟨v, ?_, wk_s (wk_s (wk_s (wk_s (wk_s (wk_s (wk_0 (wk_0 wk_n))))))), rfl⟩
    unfold viewsL at hv
    obtain ⟨p, hp, rfl⟩ := List.mem_map.mp hv
    have := List.mem_range.mp hp
    exact lookB_view hlow (by omega)
  · exact run_turn rfl ⟨t, ht, wk_s (wk_s (wk_s (wk_s (wk_s (wk_s (wk_0 (wk_0 wk_n))))))), rfl⟩
  subst e2
  refine run_weak ?_ w'
  clear w'
  refine run_forV 7 ((it_rangeV (P := fun n => n ≤ 2) (eva_cons (ev_takenN 3 F0 hr hrow 0 ed_int rfl) eva_nil |>.imp fun ds ⟨x, r, e, ⟨q, eq, hq⟩, er⟩ => ⟨(q : Int), by rw [e, er, eq], by omega, by omega, by omega⟩) G.range)) (fun Γ μ => ∃ t, lookB m t = true ∧ wk Γ [.r r, .d (sD l), .d (sD m), .no, .d (nn M), .d (sD t), .no, .no] ∧ μ = []) ⟨t, ht, wk_s (wk_s (wk_s (wk_0 (wk_s (wk_s (wk_s (wk_s wk_n))))))), rfl⟩ (fun xs px W1 lw x hx Γ' μ' ⟨t, ht, w', e2⟩ => ?_) (fun Γ' μ' ⟨t, ht, w', e2⟩ => ?_) sc.nd
  · subst e2
    refine run_weak ?_ (run_forS.wk_set w' 7)
    have hrow1 := lw.row.trans hrow
    have htl := hlook t ht
    refine run_setP (P := fun d => ∃ i : Nat, d = nn i ∧ i < M) 6 ((ev_taken (A := fun z => z = nn M) 12 F0 hr hrow1 0 ((vr 4).evP rfl) (fun d e => ⟨M, e, hs1, by omega⟩)).imp fun d ⟨z, q, ez, ed, hq, _⟩ => ⟨q, ed, by
      have e := PyData.int.inj ez
      omega⟩) (fun d ⟨i, e, hi⟩ => ?_) sc.nd
    subst e
    refine run_setP (P := fun d => ∃ t' : List Nat, d = sD t' ∧ lookB m t' = true) 5 (ev_op (ev_op (A := fun z => z = sD (t.take i)) (C := fun z => ∃ c, z = sD (t.take i ++ [c]) ∧ (c = 63 ∨ 97 ≤ c ∧ c < 101)) ((ed_sl (vr 5) so_none (so_some (vr 6)) (s_strT i (by omega))).evP rfl) (ev_sgn [97, 98, 99, 100, 63] (by decide) (ed_S [97, 98, 99, 100, 63]) (ev_takenN 5 F0 hr hrow1 0 ed_int rfl)) (fun x y ex ⟨c, ey, hc⟩ => by
        subst ex
        subst ey
        exact ⟨_, ⟨c, rfl, by simp at hc; omega⟩, o_adds (m := [c]) (by simp; omega)⟩)) (B := fun z => z = sD (t.drop (i + 1))) ((ed_sl (vr 5) (so_some (ed_op (vr 6) ed_int o_add)) so_none (s_strD (i + 1) (by omega))).evP rfl) (fun x y ⟨c, ex, hc⟩ ey => by
        subst ex
        subst ey
        exact ⟨_, ⟨chgL t i c, rfl, lookB_chg ht (by omega) hc⟩, o_adds (by simp; omega)⟩)) (fun d ⟨t', e, ht'⟩ => ?_) sc.nd
    subst e
    exact run_turn rfl ⟨t', ht', wk_s (wk_s (wk_s (wk_s (wk_s (wk_s (wk_0 (wk_0 wk_n))))))), rfl⟩
  · subst e2
    refine run_weak ?_ w'
    exact run_retV (vr 5).ev fun d e => ⟨l, m, t, rfl, e, ht⟩
theorem fd_law_odd_look (F : FnP K "_law_odd_look" s__law_odd_look f fd) (G : Gs mg) (F0 : DRAW P w K mg base k) (F1 : Fd P w K mg base k "_law_open" ["_law_mask_here"] (spR K R_open)) : FnOk P w K mg base CX0 (k + 1) f fd ["_law_row", "_law_mask_here"] (spW K pre_odd post_odd) := by
  have sc : FnScope ["_law_row", "_law_mask_here", "_law_many", "_law_odd"] ["_law_row", "_law_mask_here"] (defScope s__law_odd_look) := ⟨rfl, rfl, rfl, by decide +kernel, rfl, by decide +kernel, by decide +kernel⟩
  refine fd_row F sc _ _ (fun ds ⟨m, e, _⟩ => by rw [e]; rfl) fun cdv A outer s H E hr W r scr ns ds hrow hR => ?_
  obtain ⟨m, rfl, hm⟩ := hR
  have hml := maskB_len hm
  have hs1 := maskB_seen hm
  have hsl := seenL_len m
  have hno : ∀ t : List Nat, t.length ≤ 4000 → (t.length ≠ (seenL m).length ∨ ∃ c ∈ t, c ∉ [97, 98, 99, 100, 63]) → noLook m (sD t) := fun t h1 h2 => .inr ⟨t, rfl, h1, by
    refine Bool.eq_false_iff.mpr fun z => ?_
    have z' : (decide (t.length = (seenL m).length) && t.all fun c => decide (c ∈ [97, 98, 99, 100, 63])) = true := z
    rw [Bool.and_eq_true, decide_eq_true_eq, List.all_eq_true] at z'
    rcases h2 with h2 | ⟨c, hc, hn⟩
    · exact h2 z'.1
    · exact hn (of_decide_eq_true (z'.2 c hc))⟩
  obtain ⟨M, hM⟩ : ∃ M, M = (seenL m).length := ⟨_, rfl⟩
  rw [← hM] at hs1 hsl hno
  refine run_set (d := nn M) 2 ((lenL G (ed_call F1 hr (ea_cons (vr 1) ea_nil) ⟨m, rfl, by omega, rfl⟩)).to (by rw [List.length_map, open_seen, hM])) ?_ sc.nd
  have mulA : ∀ (e : Nat) (c : Nat), e ≤ 13 → OpD (cxOf CX0 P w K mg base ["_law_row", "_law_mask_here", "_law_many", "_law_odd"] "_law_odd_look" (defScope s__law_odd_look) f cdv A outer s H E).nox (binaryOp .Mult) (.str (S [c])) (nn e) (sD (List.replicate e c)) := fun e c he => by
    have z := o_mulZ (X := (cxOf CX0 P w K mg base ["_law_row", "_law_mask_here", "_law_many", "_law_odd"] "_law_odd_look" (defScope s__law_odd_look) f cdv A outer s H E).nox) (l := [c]) (n := e) (by simp; omega) (by omega)
    rw [rep_one] at z
    exact z
  refine run_set (d := .list [.none, sD (List.replicate (M + 1) 97), sD (List.replicate (M - 1) 97), sD (List.replicate M 101), sD (List.replicate (M + 1) 63), .tuple (List.replicate M [sD [97]]).flatten, .int 0, .bool true]) 3 (ed_lst (ea_cons ed_non (ea_cons (ed_op (ed_S [97]) (ed_op (vr 2) ed_int o_add) (mulA (M + 1) 97 (by omega))) (ea_cons (ed_op (ed_S [97]) ((ed_op (vr 2) ed_int o_sub).to (y := nn (M - 1)) (congrArg PyData.int (by omega))) (mulA (M - 1) 97 (by omega))) (ea_cons (ed_op (ed_S [101]) (vr 2) (mulA M 101 (by omega))) (ea_cons (ed_op (ed_S [63]) (ed_op (vr 2) ed_int o_add) (mulA (M + 1) 63 (by omega))) (ea_cons (ed_op (ed_tup (ea_cons (ed_S [97]) ea_nil) (by show 1 ≤ 1000; decide)) (vr 2) (o_mulT (ds := [sD [97]]) (j := (M : Int)) (by simp) (by omega) (by omega) (by show 1 ≤ 1000; decide))) (ea_cons ed_int (ea_cons ed_bl ea_nil)))))))) (by show 8 ≤ 1000; decide)) ?_ sc.nd
  obtain ⟨O, hO⟩ : ∃ O : List PyData, O = [.none, sD (List.replicate (M + 1) 97), sD (List.replicate (M - 1) 97), sD (List.replicate M 101), sD (List.replicate (M + 1) 63), .tuple (List.replicate M [sD [97]]).flatten, .int 0, .bool true, .list (List.replicate M [sD [97]]).flatten, .dict []] := ⟨_, rfl⟩
  have hOl : O.length = 10 := by rw [hO]; rfl
  refine run_set (d := .list O) 3 ((ed_op (vr 3) (ed_lst (ea_cons (ed_op (ed_lst (ea_cons (ed_S [97]) ea_nil) (by show 1 ≤ 1000; decide)) (vr 2) (o_rep (ds := [sD [97]]) (j := (M : Int)) (by show 1 * _ ≤ _; omega) (by omega))) (ea_cons ed_dict0 ea_nil)) (by show 2 ≤ 1000; decide)) (o_cat (by show 10 ≤ 16777216; decide))).to (by rw [hO]; rfl)) ?_ sc.nd
  refine run_retV (ev_pick O (vr 3) ((ev_taken (A := fun z => z = nn 10) 10 F0 hr hrow 0 (((lenL G (vr 3)).to (y := nn 10) (by rw [hOl])).evP rfl) (fun d e => ⟨10, e, by decide, by decide⟩)).imp fun d ⟨z, q, ez, ed, hq, hz⟩ => ⟨q, ed, by rw [hOl]; omega⟩)) fun d hd => ⟨m, rfl, ?_⟩
  rw [hO] at hd
  simp only [List.mem_cons, List.not_mem_nil, or_false] at hd
  rcases hd with e | e | e | e | e | e | e | e | e | e <;> subst e
  · exact .inl (.inl rfl)
  · exact hno _ (by simp; omega) (.inl (by simp))
  · exact hno _ (by simp; omega) (.inl (by simp; omega))
  · exact hno _ (by simp; omega) (.inr ⟨101, by simp; omega, by decide⟩)
  · exact hno _ (by simp; omega) (.inl (by simp))
  · exact .inl (.inr (.inr (.inr (.inr (.inl ⟨_, rfl⟩)))))
  · exact .inl (.inr (.inr (.inl ⟨_, rfl⟩)))
  · exact .inl (.inr (.inl ⟨_, rfl⟩))
  · exact .inl (.inr (.inr (.inr (.inl ⟨_, rfl⟩))))
  · exact .inl (.inr (.inr (.inr (.inr (.inr rfl)))))
theorem fd_law_misses (F : FnP K "_law_misses" s__law_misses f fd) (G : Gs mg) : FnOk P w K mg base CX0 (k + 1) f fd ["_law_view", "_law_look_here"] (spR K R_lmisses) := by
  have sc : FnScope ["_law_view", "_law_look_here", "_law_at"] ["_law_view", "_law_look_here"] (defScope s__law_misses) := ⟨rfl, rfl, rfl, by decide +kernel, rfl, by decide +kernel, by decide +kernel⟩
  refine fd_pure F sc _ (fun ds d ⟨a, b, e, _⟩ => by rw [e]; rfl) fun cdv A outer s H E hr W ds d hrow hR => ?_
  obtain ⟨a, b, rfl, h1, h2, rfl⟩ := hR
  have g : ∀ (l : List Nat) (i : Nat), i < l.length → l[i]? = some (l.getD i 0) := fun l i hi => by
    rw [List.getD_eq_getElem?_getD, List.getElem?_eq_getElem hi]
    rfl
  refine run_ret ((lenL G (lcN1 2 (it_range (n := a.length) (lenS G (vr 0)) G.range) (by simp; omega) (fun i => decide (b.getD i 0 ≠ 63) && decide (b.getD i 0 ≠ a.getD i 0)) nn (fun i hi W1 lw s H C cl fp => ?_) (fun i hi hc W1 lw s H C cl fp => vr 2) sc.nd |>.ed sc.nd)).to (by rw [List.length_map, miss_law a b h2])) rfl
  have hi' := List.mem_range.mp hi
  exact t_and (tc (ed_ix (vr 1) (vr 2) (i_str (n := i) (by omega) (g b i (by omega)))) (ed_S [63]) (c_neS (l := [b.getD i 0]) (m := [63])) |>.to (by simp)) fun _ => tc (ed_ix (vr 1) (vr 2) (i_str (n := i) (by omega) (g b i (by omega)))) (ed_ix (vr 0) (vr 2) (i_str (n := i) (by omega) (g a i hi'))) (c_neS (l := [b.getD i 0]) (m := [a.getD i 0])) |>.to (by simp)
theorem fd_law_starts22 (F : FnP K "_law_starts" s__law_starts f fd) (G : Gs mg) (F1 : Fd P w K mg base k "_law_views" ["_law_line_here", "_law_mask_here"] (spR K R_lviews)) (F2 : Fd P w K mg base k "_law_misses" ["_law_view", "_law_look_here"] (spR K R_lmisses)) : FnOk P w K mg base CX0 (k + 1) f fd ["_law_line_here", "_law_mask_here", "_law_looks"] (spR K R_lstarts) := by
  have sc : FnScope ["_law_line_here", "_law_mask_here", "_law_looks", "_law_told", "_law_found", "_law_place", "_law_good", "_law_far"] ["_law_line_here", "_law_mask_here", "_law_looks"] (defScope s__law_starts) := ⟨rfl, rfl, rfl, by decide +kernel, rfl, by decide +kernel, by decide +kernel⟩
  refine fd_pure F sc _ (fun ds d ⟨_, _, _, e, _⟩ => by rw [e]; rfl) fun cdv A outer s H E hr W ds d hrow hR => ?_
  obtain ⟨l, m, ts, rfl, ok, rfl⟩ := hR
  have hu := hr.units
  have hvl := viewsL_len l m
  have h1 := rowB_len ok.row
  have h2 := maskB_len ok.mask
  have h3 := maskB_pos ok.mask
  have h4 := ok.few
  have hvn : ∀ v ∈ ts, v.length = (seenL m).length := fun v hv => (lookB_iff.mp (ok.looks v hv)).1
  have hsn := seenL_len m
  have hws : ∀ v ∈ viewsL l m, v.length = (seenL m).length := fun v hv => by
    unfold viewsL at hv
    obtain ⟨p, hp, rfl⟩ := List.mem_map.mp hv
    exact viewL_len l m p
  obtain ⟨ws, ew⟩ : ∃ ws, ws = viewsL l m := ⟨_, rfl⟩
  have sh := shp_tsL ok
  refine run_parL1 (x := wD ws) 3 4 (Ed.to (ed_call F1 hr (ea_cons (vr 0) (ea_cons (vr 1) ea_nil)) ⟨l, m, rfl, by omega, h3, by omega, rfl⟩) (by rw [ew, lawV_eq])) (fun a => ?_) sc.nd
  rw [← ew] at hvl hws ⊢
  refine run_forS 5 (it_range (n := ws.length) (lenLw G (vr 3)) G.range) (fun _ => [.no, .no, .d (wD ts), .d (wD ws), .r a, .no, .no, .no]) (fun i => [(a, .lst (((List.range i).filter (fitB ws ts)).map nn))]) (fun W1 lw i x hx => ?_) ?_ sc.nd
  · have hi := (List.getElem?_eq_some_iff.mp hx).1
    rw [List.length_range] at hi
    obtain rfl : x = i := by
      rw [List.getElem?_range hi] at hx
      exact (Option.some.inj hx).symm
    have hle : ((List.range x).filter (fitB ws ts)).length ≤ x := by
      have h := List.length_filter_le (fitB ws ts) (List.range x)
      rwa [List.length_range] at h
    refine run_set (d := .bool (goodB ws ts x 0)) 6 (Ed.to (ed_cmp (ed_op (vr 5) (lenLw G (vr 2)) o_add) (lenLw G (vr 3)) c_le) ?hk0) ?_ sc.nd
    case hk0 =>
      refine congrArg PyData.bool ?_
      unfold goodB
      rw [List.range_zero, List.all_nil, Bool.and_true]
      exact decide_eq_decide.mpr (by omega)
    refine run_forS 7 (it_range (n := ts.length) (lenLw G (vr 2)) G.range) (fun j => [.no, .no, .d (wD ts), .d (wD ws), .r a, .d (nn x), .d (.bool (goodB ws ts x j)), .no]) (fun _ => [(a, .lst (((List.range x).filter (fitB ws ts)).map nn))]) (fun W2 lw2 j y hy => ?_) ?_ sc.nd
    · have hj := (List.getElem?_eq_some_iff.mp hy).1
      rw [List.length_range] at hj
      obtain rfl : y = j := by
        rw [List.getElem?_range hj] at hy
        exact (Option.some.inj hy).symm
      rw [good_succ]
      cases hg : goodB ws ts x y with
      | false => exact run_if (k := false) (EdT.to (t_and (k := false) (l := false) (et_val (vr 6)) (fun q => nomatch q)) rfl) (fun q => nomatch q) (fun _ => run_skip run_e)
      | true =>
        have hxl : x + y < ws.length := by
          unfold goodB at hg
          rw [Bool.and_eq_true, decide_eq_true_iff] at hg
          omega
        have g1 : ws[x + y]? = some (ws.getD (x + y) []) := by rw [List.getD_eq_getElem?_getD, List.getElem?_eq_getElem hxl]; rfl
        have g2 : ts[y]? = some (ts.getD y []) := by rw [List.getD_eq_getElem?_getD, List.getElem?_eq_getElem hj]; rfl
        have b1 := hws _ (List.mem_of_getElem? g1)
        have b2 := hvn _ (List.mem_of_getElem? g2)
        rw [Bool.true_and]
        refine run_ifS (k := !decide (missN (ws.getD (x + y) []) (ts.getD y []) = 0)) [.no, .no, .d (wD ts), .d (wD ws), .r a, .d (nn x), .d (.bool (decide (missN (ws.getD (x + y) []) (ts.getD y []) = 0))), .no] [(a, .lst (((List.range x).filter (fitB ws ts)).map nn))] (EdT.to (t_and (k := true) (l := !decide (missN (ws.getD (x + y) []) (ts.getD y []) = 0)) (et_val (vr 6)) (fun _ => EdT.to (tc (ed_call F2 hr (ea_cons (ed_ix (z := sD (ws.getD (x + y) [])) (vr 3) (ed_op (vr 5) (vr 7) o_add) (i_list (n := x + y) (by rw [List.getElem?_map, g1]; rfl) rfl)) (ea_cons (ed_ix (z := sD (ts.getD y [])) (vr 2) (vr 7) (i_list (n := y) (by rw [List.getElem?_map, g2]; rfl))) ea_nil)) ⟨_, _, rfl, by omega, by omega, rfl⟩) ed_int c_gt) ?hgt)) rfl) (fun q => ?_) (fun q => ?_) run_e
        case hgt =>
          rw [Bool.eq_iff_iff, decide_eq_true_iff, Bool.not_eq_true', decide_eq_false_iff_not]
          omega
        · have q : decide (missN (ws.getD (x + y) []) (ts.getD y []) = 0) = false := by simpa using q
          rw [q]
          exact run_set (d := .bool false) 6 ed_bl run_e sc.nd
        · have q : decide (missN (ws.getD (x + y) []) (ts.getD y []) = 0) = true := by simpa using q
          rw [q]
          exact run_e
    · rw [List.length_range, List.range_succ, List.filter_append, List.map_append]
      have ef := good_fit (ws := ws) (ts := ts) (p := x)
      refine run_if (k := fitB ws ts x) (EdT.to (t_or (k := goodB ws ts x ts.length) (l := ts.isEmpty) (et_val (vr 6)) (fun _ => EdT.to (tc (vr 2) (ed_lst ea_nil (by simp)) (c_eqNil hu sh)) (by cases ts <;> rfl))) ef) (fun e => ?_) (fun e => ?_)
      · rw [show [x].filter (fitB ws ts) = [x] by simp [e]]
        exact run_app (ys := ((List.range x).filter (fitB ws ts)).map nn) (d := nn x) 4 0 (vr 5) (by rw [List.length_map]; omega) (run_skip run_e)
      · rw [show [x].filter (fitB ws ts) = [] by simp [e], List.map_nil, List.append_nil]
        exact run_skip run_e
  · rw [List.length_range]
    exact run_retL 4 rfl (hl := by simp)
theorem fd_seen_by (F : FnP K "seen_by" s_seen_by f fd) (G : Gs mg) (gS : gSEEN mg) : FnOk P w K mg base CX0 (k + 1) f fd ["mask"] (spR K R_seen_by) := by
  have sc : FnScope ["mask", "at", "sign"] ["mask"] (defScope s_seen_by) := ⟨rfl, rfl, rfl, by decide +kernel, rfl, by decide +kernel, by decide +kernel⟩
  refine fd_pure F sc _ (fun ds d ⟨m, e, _⟩ => by rw [e]; rfl) fun cdv A outer s H E hr W ds d hrow hR => ?_
  obtain ⟨m, rfl, hl, rfl⟩ := hR
  refine run_ret (lcP1 1 2 (it_enum (vr 0) G.enumerate rfl) (by simpa using hl) (fun q => decide (q.2 = 120)) (fun q => nn q.1) (fun q hq W1 l s H C cl fp => tc (vr 2) (ed_gS [120] gS) (c_eqS (m := [120])) |>.to ?_) (fun q hq hc W1 l s H C cl fp => vr 1) sc.nd |>.ed sc.nd) ?_
  · simp
  · show PyData.list _ = PyData.list _
    unfold seenL
    rw [List.map_map]
    rfl
theorem fd_is_view (F : FnP K "is_view" s_is_view f fd) (G : Gs mg) (gL : gLETTERS mg) (gO : gOPEN mg) (F1 : Fd P w K mg base k "seen_by" ["mask"] (spR K R_seen_by)) : FnOk P w K mg base CX0 (k + 1) f fd ["mask", "value"] (spR K R_is_view) := by
  have sc : FnScope ["mask", "value", "sign"] ["mask", "value"] (defScope s_is_view) := ⟨rfl, rfl, rfl, by decide +kernel, rfl, by decide +kernel, by decide +kernel⟩
  refine fd_pure F sc _ (fun ds d ⟨m, t, e, _⟩ => by rw [e]; rfl) fun cdv A outer s H E hr W ds d hrow hR => ?_
  obtain ⟨m, t, rfl, hm, ht, rfl⟩ := hR
  unfold lookB at ht
  rw [Bool.and_eq_true, decide_eq_true_iff] at ht
  obtain ⟨h1, h2⟩ := ht
  have h3 := seenL_len m
  refine run_if (k := false) ((t_or (t_not (et_val (ed_isi (T := "str") (vr 1) G.isinstance G.str (by decide +kernel)))) fun _ => tc (lenS G (vr 1)) (lenL G (ed_call F1 hr (ea_cons (vr 0) ea_nil) ⟨m, rfl, by omega, rfl⟩)) c_neI).to ?_) (fun q => nomatch q) (fun _ => run_skip ?_)
  · rw [List.length_map, h1]
    simp
  · refine run_ret (ed_callB G.all boot_all (ea_cons (lcN0 2 (it_str (vr 1)) (by omega) (fun c => .bool (decide (c ∈ [97, 98, 99, 100, 63]))) (fun c hc W1 l s H C cl fp => ed_cmp (vr 2) (ed_op (ed_gS [97, 98, 99, 100] gL) (ed_gS [63] gO) (o_adds (by decide))) c_inS) sc.nd |>.ed sc.nd) ea_nil) (c_all (bs := t.map fun c => decide (c ∈ [97, 98, 99, 100, 63])) rfl |> fun z => by rw [List.map_map] at z; exact z)) ?_
    rw [List.all_map]
    exact congrArg PyData.bool h2
theorem fd_view_by (F : FnP K "view_by" s_view_by f fd) (G : Gs mg) (F1 : Fd P w K mg base k "seen_by" ["mask"] (spR K R_seen_by)) : FnOk P w K mg base CX0 (k + 1) f fd ["row", "mask", "place"] (spR K R_view_by) := by
  have sc : FnScope ["row", "mask", "place", "at"] ["row", "mask", "place"] (defScope s_view_by) := ⟨rfl, rfl, rfl, by decide +kernel, rfl, by decide +kernel, by decide +kernel⟩
  refine fd_pure F sc _ (fun ds d ⟨l, m, p, e, _⟩ => by rw [e]; rfl) fun cdv A outer s H E hr W ds d hrow hR => ?_
  obtain ⟨l, m, p, rfl, h1, h2, h3, rfl⟩ := hR
  have h4 := seenL_len m
  refine run_ret (ed_joinC (viewL l m p) (ed_S []) (lcN0 3 (it_list (enc := nn) (xs := seenL m) (ed_call F1 hr (ea_cons (vr 1) ea_nil) ⟨m, rfl, by omega, rfl⟩)) (by omega) (fun a => sg (l.getD (p + a) 0)) (fun a ha W2 lw2 s2 H2 C2 cl2 fp2 => ed_ix (vr 0) (ed_op (vr 2) (vr 3) o_add) (i_str (n := p + a) (by omega) (by
        have h5 := mem_seen ha
        have : p + a < l.length := by omega
        rw [List.getD_eq_getElem?_getD, List.getElem?_eq_getElem this]
        rfl) (by push_cast; rfl))) sc.nd |>.ed sc.nd) (by unfold viewL; rw [List.map_map]; rfl) (by unfold viewL; simp; omega)) rfl
theorem fd_views_of (F : FnP K "views_of" s_views_of f fd) (G : Gs mg) (F1 : Fd P w K mg base k "view_by" ["row", "mask", "place"] (spR K R_view_by)) : FnOk P w K mg base CX0 (k + 1) f fd ["row", "mask"] (spR K R_views_of) := by
  have sc : FnScope ["row", "mask", "place"] ["row", "mask"] (defScope s_views_of) := ⟨rfl, rfl, rfl, by decide +kernel, rfl, by decide +kernel, by decide +kernel⟩
  refine fd_pure F sc _ (fun ds d ⟨l, m, e, _⟩ => by rw [e]; rfl) fun cdv A outer s H E hr W ds d hrow hR => ?_
  obtain ⟨l, m, rfl, h1, h2, h3, rfl⟩ := hR
  refine run_ret (lcN0 2 (it_range (n := l.length + 1 - m.length) (ed_op (ed_op (ed_callB G.len boot_len (ea_cons (vr 0) ea_nil) (c_lenS (by omega))) (ed_callB G.len boot_len (ea_cons (vr 1) ea_nil) (c_lenS (by omega))) o_sub) ed_int o_add) G.range) (by simp; omega) (fun p => sD (viewL l m p)) (fun p hp W2 lw2 s2 H2 C2 cl2 fp2 => ed_call F1 hr (ea_cons (vr 0) (ea_cons (vr 1) (ea_cons (vr 2) ea_nil))) ⟨l, m, p, rfl, by omega, by omega, by
    have := List.mem_range.mp hp
    omega, rfl⟩) sc.nd |>.ed sc.nd) ?_
  show PyData.list _ = PyData.list _
  unfold viewsL
  rw [List.map_map]
  rfl
theorem fd_misses (F : FnP K "misses" s_misses f fd) (G : Gs mg) (gO : gOPEN mg) : FnOk P w K mg base CX0 (k + 1) f fd ["view", "told"] (spR K R_misses) := by
  have sc : FnScope ["view", "told", "left", "right"] ["view", "told"] (defScope s_misses) := ⟨rfl, rfl, rfl, by decide +kernel, rfl, by decide +kernel, by decide +kernel⟩
  refine fd_pure F sc _ (fun ds d ⟨a, b, e, _⟩ => by rw [e]; rfl) fun cdv A outer s H E hr W ds d hrow hR => ?_
  obtain ⟨a, b, rfl, h1, h2, rfl⟩ := hR
  refine run_ret ((lenL G (lcP1 2 3 (it_zip (xs := a) (ys := b) (enc := sg) (enc2 := sg) (vr 0) (vr 1) G.zip rfl rfl) (by simp; omega) (fun q => decide (q.2 ≠ 63) && decide (q.1 ≠ q.2)) (fun _ => .int 1) (fun q hq W1 lw s H C cl fp => t_and (tc (vr 3) (ed_gS [63] gO) (c_neS (l := [q.2]) (m := [63])) |>.to (by simp)) fun _ => tc (vr 2) (vr 3) (c_neS (l := [q.1]) (m := [q.2])) |>.to (by simp)) (fun q hq hc W1 lw s H C cl fp => ed_int) sc.nd |>.ed sc.nd)).to (by rw [List.length_map]; rfl)) rfl
theorem ft_see {C : Addr} (F : FunD K "see" "Tracker.see" (defArgs mm_Tracker_see) (defBody mm_Tracker_see) (defScope mm_Tracker_see) [] [] f fd) (G : Gs mg) (c : Cls K C) (n1 : NoAttr K C "line") (n2 : NoAttr K C "shape") (n3 : NoAttr K C "told") (n4 : NoAttr K C "stood") (F1 : Fd P w K mg base k "is_view" ["mask", "value"] (spR K R_is_view)) (F2 : Fd P w K mg base k "views_of" ["row", "mask"] (spR K R_views_of)) (F3 : Fd P w K mg base k "misses" ["view", "told"] (spR K R_misses)) : FnOk P w K mg base CX0 (k + 1) f fd ["self", "view"] (spT K C pre_see post_see) := by
  have sc : FnScope ["self", "view", "every", "far", "rest", "place", "some"] ["self", "view"] (defScope mm_Tracker_see) := ⟨rfl, rfl, rfl, by decide +kernel, rfl, by decide +kernel, by decide +kernel⟩
  refine fd_meth F sc C _ _ (fun fs ds ⟨_, _, _, _, _, _, e, _⟩ => by rw [e]; rfl) fun cdv A outer s H E hr W a fs ds hrow hp => ?_
  obtain ⟨l, m, ts, v, rfl, ok, rfl, hv⟩ := hp
  have hvl := viewsL_len l m
  have h1 := rowB_len ok.row
  have h2 := maskB_len ok.mask
  have h3 := maskB_pos ok.mask
  have h4 := ok.few
  have hvv := views_small l m
  have hvn := (lookB_iff.mp hv).1
  have hsn := seenL_len m
  have hsl := start_len (viewsL l m) ts
  refine run_if (k := false) (t_not (k := true) (et_val (ed_call F1 hr (ea_cons (ed_fld (d := sD m) 0 0 c n2 rfl) (ea_cons (vr 1) ea_nil)) ⟨m, v, rfl, by omega, hv, rfl⟩))) (fun q => nomatch q) (fun _ => run_skip ?_)
  obtain ⟨ws, ews⟩ : ∃ ws, ws = viewsL l m := ⟨_, rfl⟩
  refine run_asg2 (x := wD ws) (y := nn ts.length) 2 3 ?hpar ?_ sc.nd
  case hpar =>
    refine ed_tup (ea_cons ?_ (ea_cons ?_ ea_nil)) (by simp)
    · exact Ed.to (ed_call F2 hr (ea_cons (ed_fld (d := sD l) 0 0 c n1 rfl) (ea_cons (ed_fld (d := sD m) 0 0 c n2 rfl) ea_nil)) ⟨l, m, rfl, by omega, h3, by omega, rfl⟩) (by rw [ews])
    · exact Ed.to (lenT G (ed_fld (d := .tuple (ts.map sD)) 0 0 c n3 rfl)) (by rw [List.length_map])
  rw [← ews] at hvl hsl hvv
  refine run_setLcP 4 (lcN1 5 (it_list (xs := startL ws ts) (enc := nn) (ed_ix (z := nD (startL ws ts)) (ed_fld (hj := rfl) (d := .tuple (stoodL ws ts)) 0 0 c n4 (by rw [ews]; rfl)) (ed_neg ed_int) (i_tupL (stood_last _ _)))) (by omega) (fun p => decide (p + ts.length < ws.length)) nn (fun p hp W1 lw s H C2 cl fp => ?_) (fun p hp hc W1 lw s H C2 cl fp => vr 5) sc.nd) (fun ys ey => ?_) sc.nd
  · exact EdT.to (tc (ed_op (vr 5) (vr 3) o_add) (lenLw G (vr 2)) c_lt) (decide_eq_decide.mpr (by omega))
  subst ey
  obtain ⟨rs, ers⟩ : ∃ rs, rs = (startL ws ts).filter fun p => decide (p + ts.length < ws.length) := ⟨_, rfl⟩
  rw [← ers]
  have hrl : rs.length ≤ (startL ws ts).length := by rw [ers]; exact List.length_filter_le _ _
  have hrm : ∀ p ∈ rs, p + ts.length < ws.length := fun p hp => by
    rw [ers] at hp
    exact of_decide_eq_true (List.mem_filter.mp hp).2
  refine run_setLcP 6 (lcN1 5 (it_list (xs := rs) (enc := nn) (vr 4)) (by omega) (fun p => decide (missN (ws.getD (p + ts.length) []) v = 0)) nn (fun p hp W1 lw s H C2 cl fp => ?_) (fun p hp hc W1 lw s H C2 cl fp => vr 5) sc.nd) (fun ys ey => ?_) sc.nd
  · have hpl := hrm p hp
    have g : ws[p + ts.length]? = some (ws.getD (p + ts.length) []) := by rw [List.getD_eq_getElem?_getD, List.getElem?_eq_getElem hpl]; rfl
    have hb := hvv _ (List.mem_of_getElem? g)
    exact EdT.to (tc (ed_call F3 hr (ea_cons (ed_ix (z := sD (ws.getD (p + ts.length) [])) (vr 2) (ed_op (vr 5) (vr 3) o_add) (i_list (n := p + ts.length) (by rw [List.getElem?_map, g]; rfl) rfl)) (ea_cons (vr 1) ea_nil)) ⟨_, v, rfl, by omega, by omega, rfl⟩) ed_int c_eqI) (decide_eq_decide.mpr (by omega))
  subst ey
  have ess : rs.filter (fun p => decide (missN (ws.getD (p + ts.length) []) v = 0)) = startL ws (ts ++ [v]) := by rw [start_snoc, ers]
  rw [ess]
  refine run_fset (hj := rfl) (d := .tuple (stoodL ws (ts ++ [v]))) 0 0 c n4 ?hst (by simp [trk]) ?_
  case hst =>
    refine Ed.to (ed_op (ed_fld (hj := rfl) (d := .tuple (stoodL ws ts)) 0 0 c n4 (by rw [ews]; rfl)) (ed_tup (ea_cons (vr 6) ea_nil) (by simp)) (o_catT ?_)) ?_
    · rw [stood_len]
      simp
      omega
    · rw [stood_snoc]
  refine run_fset (hj := rfl) (d := .tuple ((ts ++ [v]).map sD)) 0 0 c n3 ?htd (of_decide_eq_true rfl) ?_
  case htd =>
    refine Ed.to (ed_op (ed_fld (d := .tuple (ts.map sD)) 0 0 c n3 rfl) (ed_tup (ea_cons (vr 1) ea_nil) (by simp)) (o_catT ?_)) ?_
    · rw [List.length_map]
      simp
      omega
    · rw [List.map_append]
      rfl
  refine run_retT (d := nn (startL ws (ts ++ [v])).length) (fs := trk l m (ts ++ [v])) 0 (Ed.to (lenL G (vr 6)) (by rw [List.length_map])) ⟨l, m, ts, v, rfl, rfl, rfl, by rw [ews]⟩ (by rw [ews]; rfl)
theorem fd_law_seen22 (F : FnP K "_law_seen" s__law_seen f fd) {C : Addr} (c : Cls K C) (FS : FdM P w K mg base k C "see" ["self", "view"] (spT K C pre_see post_see)) : FnOk P w K mg base CX0 (k + 1) f fd ["_law_tracker", "_law_look_here"] (spT K C pre_see post_see) := by
  have sc : FnScope ["_law_tracker", "_law_look_here", "_law_found"] ["_law_tracker", "_law_look_here"] (defScope s__law_seen) := ⟨rfl, rfl, rfl, by decide +kernel, rfl, by decide +kernel, by decide +kernel⟩
  refine fd_meth F sc C _ _ (fun fs ds ⟨_, _, _, _, _, _, e, _⟩ => by rw [e]; rfl) fun cdv A outer s H E hr W a fs ds hrow hp => ?_
  obtain ⟨l, m, ts, v, rfl, ok, rfl, hv⟩ := hp
  refine run_set (d := .none) 2 ed_non ?_ sc.nd
  refine run_tryN (run_setM 2 (em_meth (fs := trk l m ts) 0 0 FS hr c rfl (ea_cons (vr 1) ea_nil) ⟨l, m, ts, v, rfl, ok, rfl, hv⟩) (fun d μ1 hd => ?_) sc.nd)
  obtain ⟨fs', ⟨l', m', ts', v', e1, e2, rfl, rfl⟩, rfl⟩ := hd
  obtain ⟨rfl, rfl, rfl⟩ := trk_inj e1
  have e3 := S_inj (PyData.str.inj (List.cons.inj e2).1)
  subst e3
  exact run_skip (run_retT 0 (vr 2) ⟨l, m, ts, v, rfl, rfl, rfl, rfl⟩)
theorem fd_is_view_o (F : FnP K "is_view" s_is_view f fd) (G : Gs mg) : FnOk P w K mg base CX0 (k + 1) f fd ["mask", "value"] (spR K R_is_view_o) := by
  have sc : FnScope ["mask", "value", "sign"] ["mask", "value"] (defScope s_is_view) := ⟨rfl, rfl, rfl, by decide +kernel, rfl, by decide +kernel, by decide +kernel⟩
  refine fd_pure F sc _ (fun ds d ⟨m, v, e, _⟩ => by rw [e]; rfl) fun cdv A outer s H E hr W ds d hrow hR => ?_
  obtain ⟨m, v, rfl, ho, rfl⟩ := hR
  exact run_if (k := true) (t_or (k := true) (l := false) (t_not (k := false) (et_val (ed_isiS ho (vr 1) G.isinstance G.str))) (fun q => nomatch q)) (fun _ => run_ret (d := .bool false) ed_bl rfl) (fun q => nomatch q)
theorem fd_is_view_t (F : FnP K "is_view" s_is_view f fd) (G : Gs mg) (gL : gLETTERS mg) (gO : gOPEN mg) (F1 : Fd P w K mg base k "seen_by" ["mask"] (spR K R_seen_by)) : FnOk P w K mg base CX0 (k + 1) f fd ["mask", "value"] (spR K R_is_view_t) := by
  have sc : FnScope ["mask", "value", "sign"] ["mask", "value"] (defScope s_is_view) := ⟨rfl, rfl, rfl, by decide +kernel, rfl, by decide +kernel, by decide +kernel⟩
  refine fd_pure F sc _ (fun ds d ⟨m, t, e, _⟩ => by rw [e]; rfl) fun cdv A outer s H E hr W ds d hrow hR => ?_
  obtain ⟨m, t, rfl, hm, ht, rfl⟩ := hR
  have h3 := seenL_len m
  have el : lookB m t = (decide (t.length = (seenL m).length) && t.all fun c => decide (c ∈ [97, 98, 99, 100, 63])) := rfl
  refine run_if (k := !decide (t.length = (seenL m).length)) ((t_or (t_not (et_val (ed_isi (T := "str") (vr 1) G.isinstance G.str (by decide +kernel)))) fun _ => tc (lenS G (vr 1)) (lenL G (ed_call F1 hr (ea_cons (vr 0) ea_nil) ⟨m, rfl, by omega, rfl⟩)) c_neI).to ?_) (fun q => ?_) (fun q => run_skip ?_)
  · rw [List.length_map]
    by_cases h : t.length = (seenL m).length
    · simp [h]
    · have h' : ¬ ((t.length : Int) = ((seenL m).length : Int)) := fun z => h (by omega)
      simp [h, h']
  · refine run_ret (d := .bool false) ed_bl ?_
    rw [el]
    rw [Bool.not_eq_true'] at q
    rw [q]
    rfl
  · rw [Bool.not_eq_false'] at q
    refine run_ret (ed_callB G.all boot_all (ea_cons (lcN0 2 (it_str (vr 1)) (by omega) (fun c => .bool (decide (c ∈ [97, 98, 99, 100, 63]))) (fun c hc W1 l s H C cl fp => ed_cmp (vr 2) (ed_op (ed_gS [97, 98, 99, 100] gL) (ed_gS [63] gO) (o_adds (by decide))) c_inS) sc.nd |>.ed sc.nd) ea_nil) (c_all (bs := t.map fun c => decide (c ∈ [97, 98, 99, 100, 63])) rfl |> fun z => by rw [List.map_map] at z; exact z)) ?_
    rw [List.all_map, el, q]
    rfl
theorem ft_see_x {C : Addr} (F : FunD K "see" "Tracker.see" (defArgs mm_Tracker_see) (defBody mm_Tracker_see) (defScope mm_Tracker_see) [] [] f fd) (c : Cls K C) (n2 : NoAttr K C "shape") (A4 : Ex0 P w K mg base k "BadView") (A5 : Fd P w K mg base (k + 1) "is_view" ["mask", "value"] (spR K R_is_view_o)) (A6 : Fd P w K mg base (k + 1) "is_view" ["mask", "value"] (spR K R_is_view_t)) : FnOk P w K mg base (L2.CX P w) (k + 2) f fd ["self", "view"] (spXT K C X_see) := by
  have sc : FnScope ["self", "view", "every", "far", "rest", "place", "some"] ["self", "view"] (defScope mm_Tracker_see) := ⟨rfl, rfl, rfl, by decide +kernel, rfl, by decide +kernel, by decide +kernel⟩
  refine fd_methX F sc C _ (fun fs ds x fo ⟨_, _, _, _, _, _, e, _⟩ => by rw [e]; rfl) fun cdv A outer s H E hr W a dx gs fs ds x fo hrow hA hF hR hw => ?_
  obtain ⟨l, m, ts, v, rfl, ok, rfl, hl, rfl, rfl⟩ := hR
  have hml := maskB_len ok.mask
  rcases hl with ho | ⟨t, rfl, ht, hb⟩
  · exact run_if (k := true) (t_not (k := false) (et_val (ed_call A5 hr (ea_cons (ed_fldH (d := sD m) 0 hrow hA hF c n2 rfl) (ea_cons (vr 1) ea_nil)) ⟨_, _, rfl, ho, rfl⟩))) (fun _ => run_raise0 A4 hr (takes_of rfl rfl rfl rfl) fun σ H1 R1 cls d H2 xo => hw σ H1 _ _ R1 cls d H2 xo) (fun q => nomatch q)
  · exact run_if (k := true) (t_not (k := false) (et_val (ed_call A6 hr (ea_cons (ed_fldH (d := sD m) 0 hrow hA hF c n2 rfl) (ea_cons (vr 1) ea_nil)) ⟨m, t, rfl, by omega, ht, by rw [hb]⟩))) (fun _ => run_raise0 A4 hr (takes_of rfl rfl rfl rfl) fun σ H1 R1 cls d H2 xo => hw σ H1 _ _ R1 cls d H2 xo) (fun q => nomatch q)
theorem fd_law_seen22B (F : FnP K "_law_seen" s__law_seen f fd) {C : Addr} (c : Cls K C) (X0 : ExF K mg "BadView") (m0 : PySem.W.exmOne K (.ref (He.ga K "BadView")) (.ref (He.ga K "BadView")) = some true) (FS : FdMX P w K mg base k C "see" ["self", "view"] X_see) : FnOk P w K mg base CX0 (k + 1) f fd ["_law_tracker", "_law_look_here"] (spT K C pre_seeB post_seeB) := by
  have sc : FnScope ["_law_tracker", "_law_look_here", "_law_found"] ["_law_tracker", "_law_look_here"] (defScope s__law_seen) := ⟨rfl, rfl, rfl, by decide +kernel, rfl, by decide +kernel, by decide +kernel⟩
  refine fd_meth F sc C _ _ (fun fs ds ⟨_, _, _, _, _, _, e, _⟩ => by rw [e]; rfl) fun cdv A outer s H E hr W a fs ds hrow hp => ?_
  obtain ⟨l, m, ts, v, rfl, ok, rfl, hv⟩ := hp
  refine run_set (d := .none) 2 ed_non ?_ sc.nd
  exact run_tryP (xr := "BadView") (fo := none) (o := none) 2 (.bare ⟨rfl, by decide, .inl X0.g⟩ m0) (fun e => nomatch e) (fun pn xe Wx t hp hw => run_setX 2 (ed_methX (fs := trk l m ts) 0 0 FS hr c rfl t (ea_cons (vr 1) ea_nil) ⟨l, m, ts, v, rfl, ok, rfl, hv, rfl, rfl⟩ hw) sc.nd) (fun W1 a oe pn cls d cg => ed_S [118, 105, 101, 119]) (run_retT (fs := trk l m ts) 0 (vr 2) ⟨rfl, rfl⟩) sc.nd
theorem ft_p_row {C : Addr} (F : FunD K "row" "Tracker.row" (defArgs pm_Tracker_row) (defBody pm_Tracker_row) (defScope pm_Tracker_row) [] [] f fd) (c : Cls K C) (n : NoAttr K C "line") : FnOk P w K mg base CX0 (k + 1) f fd ["self"] (spT K C pre_t0 (post_t0 g_row)) := by
  have sc : FnScope ["self"] ["self"] (defScope pm_Tracker_row) := ⟨rfl, rfl, rfl, by decide +kernel, rfl, by decide +kernel, by decide +kernel⟩
  refine fd_meth F sc C _ _ (fun fs ds ⟨_, _, _, _, _, e⟩ => by rw [e]; rfl) fun cdv A outer s H E hr W a fs ds hrow hp => ?_
  obtain ⟨l, m, ts, rfl, ok, rfl⟩ := hp
  have hvl := viewsL_len l m
  have h1 := rowB_len ok.row
  have h3 := maskB_pos ok.mask
  exact run_retT (d := sD l) 0 (ed_fld (d := sD l) 0 0 c n rfl) ⟨l, m, ts, rfl, rfl, rfl⟩
theorem ft_p_mask {C : Addr} (F : FunD K "mask" "Tracker.mask" (defArgs pm_Tracker_mask) (defBody pm_Tracker_mask) (defScope pm_Tracker_mask) [] [] f fd) (c : Cls K C) (n : NoAttr K C "shape") : FnOk P w K mg base CX0 (k + 1) f fd ["self"] (spT K C pre_t0 (post_t0 g_mask)) := by
  have sc : FnScope ["self"] ["self"] (defScope pm_Tracker_mask) := ⟨rfl, rfl, rfl, by decide +kernel, rfl, by decide +kernel, by decide +kernel⟩
  refine fd_meth F sc C _ _ (fun fs ds ⟨_, _, _, _, _, e⟩ => by rw [e]; rfl) fun cdv A outer s H E hr W a fs ds hrow hp => ?_
  obtain ⟨l, m, ts, rfl, ok, rfl⟩ := hp
  have hvl := viewsL_len l m
  have h1 := rowB_len ok.row
  have h3 := maskB_pos ok.mask
  exact run_retT (d := sD m) 0 (ed_fld (d := sD m) 0 0 c n rfl) ⟨l, m, ts, rfl, rfl, rfl⟩
theorem ft_p_seen {C : Addr} (F : FunD K "seen" "Tracker.seen" (defArgs pm_Tracker_seen) (defBody pm_Tracker_seen) (defScope pm_Tracker_seen) [] [] f fd) (c : Cls K C) (n : NoAttr K C "told") : FnOk P w K mg base CX0 (k + 1) f fd ["self"] (spT K C pre_t0 (post_t0 g_seen)) := by
  have sc : FnScope ["self"] ["self"] (defScope pm_Tracker_seen) := ⟨rfl, rfl, rfl, by decide +kernel, rfl, by decide +kernel, by decide +kernel⟩
  refine fd_meth F sc C _ _ (fun fs ds ⟨_, _, _, _, _, e⟩ => by rw [e]; rfl) fun cdv A outer s H E hr W a fs ds hrow hp => ?_
  obtain ⟨l, m, ts, rfl, ok, rfl⟩ := hp
  have hvl := viewsL_len l m
  have h1 := rowB_len ok.row
  have h3 := maskB_pos ok.mask
  exact run_retT (d := .tuple (ts.map sD)) 0 (ed_fld (d := .tuple (ts.map sD)) 0 0 c n rfl) ⟨l, m, ts, rfl, rfl, rfl⟩
theorem ft_starts {C : Addr} (F : FunD K "starts" "Tracker.starts" (defArgs mm_Tracker_starts) (defBody mm_Tracker_starts) (defScope mm_Tracker_starts) [] [] f fd) (G : Gs mg) (c : Cls K C) (n4 : NoAttr K C "stood") : FnOk P w K mg base CX0 (k + 1) f fd ["self"] (spT K C pre_t0 (post_t0 g_starts)) := by
  have sc : FnScope ["self"] ["self"] (defScope mm_Tracker_starts) := ⟨rfl, rfl, rfl, by decide +kernel, rfl, by decide +kernel, by decide +kernel⟩
  refine fd_meth F sc C _ _ (fun fs ds ⟨_, _, _, _, _, e⟩ => by rw [e]; rfl) fun cdv A outer s H E hr W a fs ds hrow hp => ?_
  obtain ⟨l, m, ts, rfl, ok, rfl⟩ := hp
  have hvl := viewsL_len l m
  have h1 := rowB_len ok.row
  have h3 := maskB_pos ok.mask
  refine run_retT (d := nD (startL (viewsL l m) ts)) 0 ?_ ⟨l, m, ts, rfl, rfl, rfl⟩
  exact ed_callT G.list boot_list (ea_cons (ed_ix (z := nD (startL (viewsL l m) ts)) (ed_fld 0 0 c n4 rfl) (ed_neg ed_int) (i_tupL (stood_last _ _))) ea_nil) c_listL
theorem ft_places {C : Addr} (F : FunD K "places" "Tracker.places" (defArgs mm_Tracker_places) (defBody mm_Tracker_places) (defScope mm_Tracker_places) [] [] f fd) (G : Gs mg) (c : Cls K C) (n3 : NoAttr K C "told") (n4 : NoAttr K C "stood") : FnOk P w K mg base CX0 (k + 1) f fd ["self"] (spT K C pre_t0 (post_t0 g_places)) := by
  have sc : FnScope ["self", "place"] ["self"] (defScope mm_Tracker_places) := ⟨rfl, rfl, rfl, by decide +kernel, rfl, by decide +kernel, by decide +kernel⟩
  refine fd_meth F sc C _ _ (fun fs ds ⟨_, _, _, _, _, e⟩ => by rw [e]; rfl) fun cdv A outer s H E hr W a fs ds hrow hp => ?_
  obtain ⟨l, m, ts, rfl, ok, rfl⟩ := hp
  have hvl := viewsL_len l m
  have h1 := rowB_len ok.row
  have h3 := maskB_pos ok.mask
  have hsl := start_len (viewsL l m) ts
  refine run_retT (d := nD ((startL (viewsL l m) ts).map fun p => p + (ts.length - 1))) 0 ?_ ⟨l, m, ts, rfl, rfl, rfl⟩
  refine Ed.to (LcEv.ed (lcN0 1 (it_list (xs := startL (viewsL l m) ts) (enc := nn) (ed_ix (z := nD (startL (viewsL l m) ts)) (ed_fld 0 0 c n4 rfl) (ed_neg ed_int) (i_tupL (stood_last _ _)))) (by omega) (fun p => nn (p + (ts.length - 1))) (fun p hp W1 lw s H C2 cl fp => ?_) sc.nd) sc.nd) ?_
  · refine Ed.to (ed_op (y := nn (ts.length - 1)) (vr 1) (Ed.to (ed_callB G.max boot_max (ea_cons ed_int (ea_cons (ed_op (lenT G (ed_fld (d := .tuple (ts.map sD)) 0 0 c n3 rfl)) ed_int o_sub) ea_nil)) (c_max2 rfl)) ?_) o_add) rfl
    rw [List.length_map]
    refine congrArg PyData.int ?_
    split <;> omega
  · show PyData.list _ = PyData.list _
    rw [List.map_map]
    rfl
theorem ft_len {C : Addr} (F : FunD K "__len__" "Tracker.__len__" (defArgs mm_Tracker___len__) (defBody mm_Tracker___len__) (defScope mm_Tracker___len__) [] [] f fd) (G : Gs mg) (c : Cls K C) (n3 : NoAttr K C "told") : FnOk P w K mg base CX0 (k + 1) f fd ["self"] (spT K C pre_t0 (post_t0 g_len)) := by
  have sc : FnScope ["self"] ["self"] (defScope mm_Tracker___len__) := ⟨rfl, rfl, rfl, by decide +kernel, rfl, by decide +kernel, by decide +kernel⟩
  refine fd_meth F sc C _ _ (fun fs ds ⟨_, _, _, _, _, e⟩ => by rw [e]; rfl) fun cdv A outer s H E hr W a fs ds hrow hp => ?_
  obtain ⟨l, m, ts, rfl, ok, rfl⟩ := hp
  have hvl := viewsL_len l m
  have h1 := rowB_len ok.row
  have h3 := maskB_pos ok.mask
  exact run_retT (d := nn ts.length) 0 (Ed.to (lenT G (ed_fld (d := .tuple (ts.map sD)) 0 0 c n3 rfl)) (by rw [List.length_map])) ⟨l, m, ts, rfl, rfl, rfl⟩
theorem fd_law_is_tracker (F : FnP K "_law_is_tracker" s__law_is_tracker f fd) {j : Nat} (hj : j + 1 = k) (G : Gs mg) {C : Addr} (c : Cls K C) (F1 : Fd P w K mg base k "_law_starts" ["_law_line_here", "_law_mask_here", "_law_looks"] (spR K R_lstarts)) (P1 : FdP P w K mg base j C "row" ["self"] (spT K C pre_t0 (post_t0 g_row))) (P2 : FdP P w K mg base j C "mask" ["self"] (spT K C pre_t0 (post_t0 g_mask))) (P3 : FdP P w K mg base j C "seen" ["self"] (spT K C pre_t0 (post_t0 g_seen))) (M1 : FdM P w K mg base k C "starts" ["self"] (spT K C pre_t0 (post_t0 g_starts))) (M2 : FdM P w K mg base k C "places" ["self"] (spT K C pre_t0 (post_t0 g_places))) (M3 : FdM P w K mg base j C "__len__" ["self"] (spT K C pre_t0 (post_t0 g_len))) : FnOk P w K mg base CX0 (k + 1) f fd ["_law_tracker", "_law_line_here", "_law_mask_here", "_law_looks"] (spT K C pre_ist post_ist) := by
  subst hj
  have sc : FnScope ["_law_tracker", "_law_line_here", "_law_mask_here", "_law_looks", "_law_due", "_law_at"] ["_law_tracker", "_law_line_here", "_law_mask_here", "_law_looks"] (defScope s__law_is_tracker) := ⟨rfl, rfl, rfl, by decide +kernel, rfl, by decide +kernel, by decide +kernel⟩
  refine fd_meth F sc C _ _ (fun fs ds ⟨_, _, _, _, _, e⟩ => by rw [e]; rfl) fun cdv A outer s H E hr W a fs ds hrow hp => ?_
  obtain ⟨l, m, ts, rfl, ok, rfl⟩ := hp
  have hu := hr.units
  have hp0 : pre_t0 (trk l m ts) [] := ⟨l, m, ts, rfl, ok, rfl⟩
  have h4 := ok.few
  have hvl := viewsL_len l m
  have h1 := rowB_len ok.row
  have hsl := start_len (viewsL l m) ts
  have h3 := maskB_pos ok.mask
  refine run_set (d := nD (startL (viewsL l m) ts)) 4 (ed_call F1 hr (ea_cons (vr 1) (ea_cons (vr 2) (ea_cons (vr 3) ea_nil))) ⟨l, m, ts, rfl, ok, rfl⟩) ?_ sc.nd
  refine run_if (k := false) (EdW.t (tw_or (k := false) (l := false) (tc (x := sD l) ?a1 (vr 1) (c_neSame hu (Shp.str (rowB_low ok.row)))) (fun _ => tw_or (k := false) (l := false) (tc (x := sD m) ?a2 (vr 2) (c_neSame hu (Shp.str (mask_128 ok.mask)))) (fun _ => tw_or (k := false) (l := false) (tc (x := .tuple (ts.map sD)) ?a3 ?a4 (c_neSame hu (shp_ts ok))) (fun _ => tw_or1 (tc (x := nD (startL (viewsL l m) ts)) ?a5 (vr 4) (c_neSame hu (shp_nD _)))))))) (fun q => nomatch q) (fun _ => run_skip ?_)
  case a1 => exact ed_propT (fs := trk l m ts) 0 0 P1 hr c hp0 t0_pure
  case a2 => exact ed_propT (fs := trk l m ts) 0 0 P2 hr c hp0 t0_pure
  case a3 => exact ed_propT (fs := trk l m ts) 0 0 P3 hr c hp0 t0_pure
  case a4 => exact ed_callT G.tuple boot_tuple (ea_cons (vr 3) ea_nil) c_tupL
  case a5 => exact EvM.pure_ (P := post_t0 g_starts (trk l m ts) []) (j := 0) (em_meth0 (fs := trk l m ts) 0 0 M1 hr c rfl hp0) t0_pure
  refine run_retT (fs := trk l m ts) (d := .bool true) 0 (Ed.to (ed_and (k := true) (l := true) ?c1 (fun _ => ed_one ?c2)) rfl) ⟨rfl, rfl⟩
  case c1 =>
    refine ed_cmp (x := nD ((startL (viewsL l m) ts).map fun p => p + (ts.length - 1))) ?b1 (Ed.to (LcEv.ed (lcN0 5 (it_list (xs := startL (viewsL l m) ts) (enc := nn) (vr 4)) (by omega) (fun p => nn (p + (ts.length - 1))) (fun p hp W1 lw s H C cl fp => ?_) sc.nd) sc.nd) ?b2) (c_eqSame hu (shp_nD _))
    case b1 => exact EvM.pure_ (P := post_t0 g_places (trk l m ts) []) (j := 0) (em_meth0 (fs := trk l m ts) 0 0 M2 hr c rfl hp0) t0_pure
    case b2 =>
      show PyData.list _ = PyData.list _
      rw [List.map_map]
      rfl
    refine Ed.to (ed_op (vr 5) (ed_callB G.max boot_max (ea_cons ed_int (ea_cons (ed_op (lenLw G (vr 3)) ed_int o_sub) ea_nil)) (c_max2 rfl)) o_add) ?_
    refine congrArg PyData.int ?_
    split <;> omega
  case c2 =>
    refine Ed.to (ed_cmp (ed_lenO (fs := trk l m ts) (N := ts.length) 0 0 M3 hr G.len hp0 t0_pure (by omega)) (lenLw G (vr 3)) c_eqI) ?_
    exact congrArg PyData.bool (decide_eq_true rfl)
theorem fd_is_row (F : FnP K "is_row" s_is_row f fd) (G : Gs mg) (gL : gLETTERS mg) (gR : gMOST_ROW mg) : FnOk P w K mg base CX0 (k + 1) f fd ["value"] (spR K R_is_row) := by
  have sc : FnScope ["value", "sign"] ["value"] (defScope s_is_row) := ⟨rfl, rfl, rfl, by decide +kernel, rfl, by decide +kernel, by decide +kernel⟩
  refine fd_pure F sc _ (fun ds d ⟨m, e, _⟩ => by rw [e]; rfl) fun cdv A outer s H E hr W ds d hrow hR => ?_
  obtain ⟨l, rfl, hm, rfl⟩ := hR
  unfold rowB at hm
  simp only [Bool.and_eq_true, decide_eq_true_eq] at hm
  obtain ⟨h1, h2⟩ := hm
  refine run_ret (ed_and (k := true) (l := true) (ed_isi (T := "str") (vr 0) G.isinstance G.str (by decide +kernel)) fun _ => ed_and (k := true) (l := true) ((ed_cmp (ed_callB G.len boot_len (ea_cons (vr 0) ea_nil) (c_lenS (by omega))) (ed_gint gR) c_le).to ?_) fun _ => ed_one ((ed_callB G.all boot_all (ea_cons (lcN0 1 (it_str (vr 0)) (by omega) (fun c => .bool (decide (c ∈ [97, 98, 99, 100]))) (fun c hc W1 l s H C cl fp => ed_cmp (vr 1) (ed_gS [97, 98, 99, 100] gL) c_inS) sc.nd |>.ed sc.nd) ea_nil) (c_all (bs := l.map fun c => decide (c ∈ [97, 98, 99, 100])) rfl |> fun z => by rw [List.map_map] at z; exact z)).to ?_)) rfl
  · exact congrArg PyData.bool (decide_eq_true (by omega))
  · rw [List.all_map]
    exact congrArg PyData.bool h2
theorem fd_need_row (F : FnP K "need_row" s_need_row f fd) (F1 : Fd P w K mg base k "is_row" ["value"] (spR K R_is_row)) : FnOk P w K mg base CX0 (k + 1) f fd ["row"] (spR K R_need_row) := by
  have sc : FnScope ["row"] ["row"] (defScope s_need_row) := ⟨rfl, rfl, rfl, by decide +kernel, rfl, by decide +kernel, by decide +kernel⟩
  refine fd_pure F sc _ (fun ds d ⟨m, e, _⟩ => by rw [e]; rfl) fun cdv A outer s H E hr W ds d hrow hR => ?_
  obtain ⟨m, rfl, hm, rfl⟩ := hR
  exact run_if (k := false) (t_not (k := true) (et_val (ed_call F1 hr (ea_cons (vr 0) ea_nil) ⟨m, rfl, hm, rfl⟩))) (fun q => nomatch q) (fun _ => run_skip (run_end rfl))
theorem fd_is_mask (F : FnP K "is_mask" s_is_mask f fd) (G : Gs mg) (gS : gSEEN mg) (gH : gHOLE mg) (gM : gMOST_MASK mg) : FnOk P w K mg base CX0 (k + 1) f fd ["value"] (spR K R_is_mask) := by
  have sc : FnScope ["value", "sign"] ["value"] (defScope s_is_mask) := ⟨rfl, rfl, rfl, by decide +kernel, rfl, by decide +kernel, by decide +kernel⟩
  refine fd_pure F sc _ (fun ds d ⟨m, e, _⟩ => by rw [e]; rfl) fun cdv A outer s H E hr W ds d hrow hR => ?_
  obtain ⟨m, rfl, hm, rfl⟩ := hR
  unfold maskB at hm
  simp only [Bool.and_eq_true, decide_eq_true_eq] at hm
  obtain ⟨⟨⟨⟨h1, h2⟩, h3⟩, h4⟩, h5⟩ := hm
  refine run_if (k := false) ((t_or (t_not (et_val (ed_isi (T := "str") (vr 0) G.isinstance G.str (by decide +kernel)))) fun _ => t_not (tc_chain ed_int (ed_callB G.len boot_len (ea_cons (vr 0) ea_nil) (c_lenS (by omega))) (fun _ => ed_gint gM) c_le c_le)).to ?_) (fun q => nomatch q) (fun _ => run_skip ?_)
  · have e1 : decide ((1 : Int) ≤ ((m.length : Nat) : Int)) = true := decide_eq_true (by omega)
    have e2 : decide (((m.length : Nat) : Int) ≤ (12 : Int)) = true := decide_eq_true (by omega)
    rw [e1, e2]
    rfl
  · refine run_ret ((ed_and (k := true) (l := true) ((ed_callB G.all boot_all (ea_cons (lcN0 1 (it_str (vr 0)) (by omega) (fun c => .bool (decide (c ∈ [120, 46]))) (fun c hc W1 l s H C cl fp => ed_cmp (vr 1) (ed_op (ed_gS [120] gS) (ed_gS [46] gH) (o_adds (by decide))) c_inS) sc.nd |>.ed sc.nd) ea_nil) (c_all (bs := m.map fun c => decide (c ∈ [120, 46])) rfl |> fun z => by rw [List.map_map] at z; exact z)).to ?_)
      (fun _ => ed_and (k := true) (l := true) ((ed_cmp (ed_ix (vr 0) ed_int (i_str (n := 0) (by omega) h4)) (ed_gS [120] gS) (c_eqS (l := [120]))).to ?_) fun _ => ed_one ((ed_cmp (ed_ix (vr 0) (ed_neg ed_int) (i_strL (by omega) h5)) (ed_gS [120] gS) (c_eqS (l := [120]))).to ?_)))) rfl
    · rw [List.all_map]
      exact congrArg PyData.bool h3
    · rfl
    · rfl
theorem fd_need_mask (F : FnP K "need_mask" s_need_mask f fd) (F1 : Fd P w K mg base k "is_mask" ["value"] (spR K R_is_mask)) : FnOk P w K mg base CX0 (k + 1) f fd ["mask"] (spR K R_need_mask) := by
  have sc : FnScope ["mask"] ["mask"] (defScope s_need_mask) := ⟨rfl, rfl, rfl, by decide +kernel, rfl, by decide +kernel, by decide +kernel⟩
  refine fd_pure F sc _ (fun ds d ⟨m, e, _⟩ => by rw [e]; rfl) fun cdv A outer s H E hr W ds d hrow hR => ?_
  obtain ⟨m, rfl, hm, rfl⟩ := hR
  exact run_if (k := false) (t_not (k := true) (et_val (ed_call F1 hr (ea_cons (vr 0) ea_nil) ⟨m, rfl, hm, rfl⟩))) (fun q => nomatch q) (fun _ => run_skip (run_end rfl))
theorem ft_init {C : Addr} (F : FunD K "__init__" "Tracker.__init__" (defArgs mm_Tracker___init__) (defBody mm_Tracker___init__) (defScope mm_Tracker___init__) [] [] f fd) (G : Gs mg) (c : Cls K C) (n1 : NoAttr K C "line") (n2 : NoAttr K C "shape") (n3 : NoAttr K C "told") (n4 : NoAttr K C "stood") (F1 : Fd P w K mg base k "need_row" ["row"] (spR K R_need_row)) (F2 : Fd P w K mg base k "need_mask" ["mask"] (spR K R_need_mask)) : FnOk P w K mg base CX0 (k + 1) f fd ["self", "row", "mask"] (spT K C pre_init post_init) := by
  have sc : FnScope ["self", "row", "mask"] ["self", "row", "mask"] (defScope mm_Tracker___init__) := ⟨rfl, rfl, rfl, by decide +kernel, rfl, by decide +kernel, by decide +kernel⟩
  refine fd_meth F sc C _ _ (fun fs ds ⟨_, _, _, e, _⟩ => by rw [e]; rfl) fun cdv A outer s H E hr W a fs ds hrow hp => ?_
  obtain ⟨rfl, l, m, rfl, hl, hm⟩ := hp
  have h1 := rowB_len hl
  have h2 := maskB_len hm
  have h3 := maskB_pos hm
  have hvl := viewsL_len l m
  refine run_expr (ed_call F1 hr (ea_cons (vr 1) ea_nil) ⟨l, rfl, hl, rfl⟩) (run_expr (ed_call F2 hr (ea_cons (vr 2) ea_nil) ⟨m, rfl, hm, rfl⟩) ?_)
  refine run_fset (hj := rfl) (d := sD l) 0 0 c n1 (vr 1) (by simp) ?_
  refine run_fset (hj := rfl) (d := sD m) 0 0 c n2 (vr 2) (of_decide_eq_true rfl) ?_
  refine run_fset (hj := rfl) (d := .tuple []) 0 0 c n3 (ed_tup ea_nil (by simp)) (of_decide_eq_true rfl) ?_
  refine run_fset (hj := rfl) (d := .tuple (stoodL (viewsL l m) [])) 0 0 c n4 ?hst (of_decide_eq_true rfl) ?_
  case hst =>
    rw [stood_nil, hvl]
    refine ed_tup (ea_cons ?_ ea_nil) (by simp)
    refine ed_listRange (N := l.length + 1 - m.length) ?_ G.range G.list (by omega)
    refine Ed.to (ed_callB G.max boot_max (ea_cons ed_int (ea_cons (ed_op (ed_op (lenS G (vr 1)) (lenS G (vr 2)) o_sub) ed_int o_add) ea_nil)) (c_max2 rfl)) ?_
    refine congrArg PyData.int ?_
    split <;> omega
  exact run_endT 0 ⟨l, m, rfl, rfl, rfl⟩
theorem ft_undo {C : Addr} (F : FunD K "undo" "Tracker.undo" (defArgs mm_Tracker_undo) (defBody mm_Tracker_undo) (defScope mm_Tracker_undo) [] [] f fd) (G : Gs mg) (c : Cls K C) (n3 : NoAttr K C "told") (n4 : NoAttr K C "stood") : FnOk P w K mg base CX0 (k + 1) f fd ["self"] (spT K C pre_t0 post_undo) := by
  have sc : FnScope ["self"] ["self"] (defScope mm_Tracker_undo) := ⟨rfl, rfl, rfl, by decide +kernel, rfl, by decide +kernel, by decide +kernel⟩
  refine fd_meth F sc C _ _ (fun fs ds ⟨_, _, _, _, _, e⟩ => by rw [e]; rfl) fun cdv A outer s H E hr W a fs ds hrow hp => ?_
  obtain ⟨l, m, ts, rfl, ok, rfl⟩ := hp
  have hvl := viewsL_len l m
  have h1 := rowB_len ok.row
  have h3 := maskB_pos ok.mask
  have hu := hr.units
  have sh : Shp 1 (.tuple (ts.map sD)) := Shp.tup fun y hy => by
    obtain ⟨v, hv, rfl⟩ := List.mem_map.mp hy
    refine Shp.str fun c hc => ?_
    have := (lookB_iff.mp (ok.looks v hv)).2 c hc
    omega
  refine run_if (k := ts.isEmpty) (EdT.to (tc (ed_fld (d := .tuple (ts.map sD)) 0 0 c n3 rfl) (ed_tup ea_nil (by simp)) (c_eqNilT hu sh)) (by cases ts <;> rfl)) (fun e => ?_) (fun e => run_skip ?_)
  · have e := List.isEmpty_iff.mp e
    subst e
    exact run_retT 0 ed_bl ⟨l, m, [], rfl, rfl, rfl⟩
  · have hne : ts ≠ [] := fun z => by rw [z] at e; cases e
    have hlen := List.length_pos_iff.mpr hne
    refine run_fset (hj := rfl) (d := .tuple (stoodL (viewsL l m) ts.dropLast)) 0 0 c n4 (Ed.to (ed_sl (ed_fld (d := .tuple (stoodL (viewsL l m) ts)) 0 0 c n4 rfl) so_none (so_some (ed_neg ed_int)) (s_tupI rfl (by rw [stood_len]; omega))) (by rw [stood_drop _ _ hne])) (by simp [trk]) ?_
    refine run_fset (hj := rfl) (d := .tuple (ts.dropLast.map sD)) 0 0 c n3 (Ed.to (ed_sl (ed_fld (d := .tuple (ts.map sD)) 0 0 c n3 rfl) so_none (so_some (ed_neg ed_int)) (s_tupI rfl (by rw [List.length_map]; omega))) (by rw [List.map_dropLast])) (of_decide_eq_true rfl) ?_
    exact run_retT (fs := trk l m ts.dropLast) 0 ed_bl ⟨l, m, ts, rfl, rfl, by rw [e]; rfl⟩ rfl
theorem ft_copy {C : Addr} (F : FunD K "copy" "Tracker.copy" (defArgs mm_Tracker_copy) (defBody mm_Tracker_copy) (defScope mm_Tracker_copy) [] [] f fd) (c : Cls K C) (n1 : NoAttr K C "line") (n2 : NoAttr K C "shape") (n3 : NoAttr K C "told") (n4 : NoAttr K C "stood") (FT : MkT P w K mg base k C "Tracker" ["self", "row", "mask"] (spT K C pre_init post_init)) : FnOk P w K mg base CX0 (k + 1) f fd ["self"] (spC K C pre_copy) := by
  have sc : FnScope ["self", "found"] ["self"] (defScope mm_Tracker_copy) := ⟨rfl, rfl, rfl, by decide +kernel, rfl, by decide +kernel, by decide +kernel⟩
  refine fd_copy F sc C _ rfl fun cdv A outer s H E hr W a fs hrow hp => ?_
  obtain ⟨l, m, ts, rfl, ok⟩ := hp
  refine run_setM 1 (em_makeT (fs := trk l m []) FT hr (ea_cons (ed_fld (d := sD l) 0 0 c n1 rfl) (ea_cons (ed_fld (d := sD m) 0 0 c n2 rfl) ea_nil)) ⟨rfl, l, m, rfl, ok.row, ok.mask⟩ ?hz) (fun d μ1 hd => ?_) sc.nd
  case hz =>
    rintro fs' d ⟨l', m', e, rfl, rfl⟩
    have e1 := S_inj (PyData.str.inj (List.cons.inj e).1)
    have e2 := S_inj (PyData.str.inj (List.cons.inj (List.cons.inj e).2).1)
    subst e1 e2
    exact ⟨rfl, rfl⟩
  obtain ⟨b, rfl, rfl⟩ := hd
  refine run_toR 1 b ?_
  refine run_fset2 (hj := rfl) (x := .tuple (ts.map sD)) (y := .tuple (stoodL (viewsL l m) ts)) 1 0 c n3 n4 (ed_tup (ea_cons (ed_fld 0 1 c n3 rfl) (ea_cons (ed_fld 0 1 c n4 rfl) ea_nil)) (by simp)) (by simp [trk]) ?_
  exact run_retC (fs := trk l m ts) 1 1 0
end
end HW
set_option maxHeartbeats 4000000
namespace HW
open PySem PySem.Spec PyProof.Rows L2 Tx
open SX (S)
section
variable {P : Program} {w : World} {K : PySem.W.Frag} {mg : Str → Option Value} {base : Heap} {f : Addr} {fd : FuncData} {k : Nat}
theorem view_look {l m v : List Nat} (hl : lowL 4 l) (h : v ∈ viewsL l m) : lookB m v = true := by
  unfold viewsL at h
  obtain ⟨p, hp, rfl⟩ := List.mem_map.mp h
  have hp := List.mem_range.mp hp
  exact lookB_iff.mpr ⟨viewL_len l m p, fun c hc => .inr (by have := viewL_low hl (m := m) (p := p) (by omega) c hc; omega)⟩
theorem look_q {m v : List Nat} (hm : maskB m = true) (h : lookB m v = true) : lookB m (63 :: v.drop 1) = true := by
  have h2 := lookB_iff.mp h
  have hs := maskB_seen hm
  refine lookB_iff.mpr ⟨?_, fun c hc => ?_⟩
  · rw [List.length_cons, List.length_drop]
    have := h2.1
    omega
  · rcases List.mem_cons.mp hc with e | e
    · exact .inl e
    · exact h2.2 c (List.mem_of_mem_drop e)
theorem fd_the_law (F : FnP K "law" s_law f fd) (G : Gs mg) {C : Addr} (c : Cls K C) (F0 : DRAW P w K mg base k) (F1 : Fd P w K mg base k "_law_mask" ["_law_row", "_law_width"] (spW K pre_mask post_mask)) (F2 : Fd P w K mg base k "_law_line" ["_law_row", "_law_most", "_law_letters"] (spW K pre_line post_line))
    (F3 : Fd P w K mg base k "_law_look" ["_law_row", "_law_line_here", "_law_mask_here"] (spW K pre_look post_look)) (F4 : Fd P w K mg base k "_law_odd_look" ["_law_row", "_law_mask_here"] (spW K pre_odd post_odd)) (F5 : Fd P w K mg base k "_law_views" ["_law_line_here", "_law_mask_here"] (spR K R_lviews))
    (F6 : Fd P w K mg base k "_law_starts" ["_law_line_here", "_law_mask_here", "_law_looks"] (spR K R_lstarts)) (F7 : Fd P w K mg base k "_law_seen" ["_law_tracker", "_law_look_here"] (spT K C pre_see post_see)) (F8 : Fd P w K mg base k "_law_seen" ["_law_tracker", "_law_look_here"] (spT K C pre_seeB post_seeB)) (F9 : Fd P w K mg base k "_law_is_tracker" ["_law_tracker", "_law_line_here", "_law_mask_here", "_law_looks"] (spT K C pre_ist post_ist))
    (FT : MkT P w K mg base k C "Tracker" ["self", "row", "mask"] (spT K C pre_init post_init)) (MU : FdM P w K mg base k C "undo" ["self"] (spT K C pre_t0 post_undo)) (MC : FdM P w K mg base k C "copy" ["self"] (spC K C pre_copy)) : FnOk P w K mg base CX0 (k + 1) f fd ["_law_script"] (spLaw K) := by
  have sc : FnScope ["_law_script", "_law_row", "_law_mask_here", "_law_line_here", "_law_tracker", "_law_looks", "_law_twin", "_law_kept", "_law_told", "_law_begun", "_law_turn", "_law_kind", "_law_at", "_law_look_here", "_law_late"] ["_law_script"] (defScope s_law) := ⟨rfl, rfl, rfl, by decide +kernel, rfl, by decide +kernel, by decide +kernel⟩
  refine fd_law (rest := (defBody s_law).drop 1) F sc rfl rfl (h := fun cdv A outer s H E hr W r scr ns hrow => ?_)
  have hu := hr.units
  refine run_setP 2 (ev_lmask 12 F1 hr hrow 1 (Ev.imp (ev_pick [nn 3, nn 8] ?hl1 (ev_takenN 2 F0 hr hrow 1 ed_int rfl)) ?hp1)) (fun d hd => ?_) sc.nd
  case hl1 => exact ed_lst (ea_cons ed_int (ea_cons ed_int ea_nil)) (by simp)
  case hp1 =>
    intro z hz
    simp only [List.mem_cons, List.not_mem_nil, or_false] at hz
    rcases hz with e | e
    · exact ⟨3, e, by decide, by decide⟩
    · exact ⟨8, e, by decide, by decide⟩
  obtain ⟨m, e, hm, _⟩ := hd
  subst e
  have hml := maskB_len hm
  have hm1 := maskB_pos hm
  refine run_setP 3 (ev_lline 60 4 F2 hr hrow 1 (Ev.imp (ev_pick [nn 9, nn 40] ?hl2 (ev_takenN 2 F0 hr hrow 1 ed_int rfl)) ?hp2) (Ev.imp (ev_1up (ev_takenN 3 F0 hr hrow 1 ed_int rfl)) fun z ⟨q, e, h1, h2⟩ => ⟨q, e, h1, by omega⟩)) (fun d hd => ?_) sc.nd
  case hl2 => exact ed_lst (ea_cons ed_int (ea_cons ed_int ea_nil)) (by simp)
  case hp2 =>
    intro z hz
    simp only [List.mem_cons, List.not_mem_nil, or_false] at hz
    rcases hz with e | e
    · exact ⟨9, e, by decide⟩
    · exact ⟨40, e, by decide⟩
  obtain ⟨l, e, hl, hlow⟩ := hd
  subst e
  have hlr : rowB l = true := low_row hl hlow
  have hvl := viewsL_len l m
  have ok0 : OkT l m [] := ⟨hlr, hm, by simp, fun _ h => nomatch h⟩
  obtain ⟨ws, ew⟩ : ∃ ws, ws = viewsL l m := ⟨_, rfl⟩
  refine run_parM (P := fun ds μ' => ∃ b, ds = [ptD b, wD []] ∧ μ' = [(b, .ins C (trk l m []))]) 4 5 ?hmk (fun ds μ1 hd => ?_) sc.nd
  case hmk =>
    refine EvAM.imp (eam_cons (B := fun d μ1 r μ' => r = [wD []] ∧ μ' = μ1) (em_makeT (fs := trk l m []) FT hr (ea_cons (vr 3) (ea_cons (vr 2) ea_nil)) ⟨rfl, l, m, rfl, hlr, hm⟩ ?hz) (fun d μ1 _ => EvAM.imp (eam_cons (B := fun d μ1 r μ' => r = [] ∧ μ' = μ1) (Ed.m (ed_lst ea_nil (by simp))) (fun _ _ _ => eam_nil)) ?h2)) ?h1
    case hz =>
      rintro fs' d ⟨l', m', e, rfl, rfl⟩
      have e1 := S_inj (PyData.str.inj (List.cons.inj e).1)
      have e2 := S_inj (PyData.str.inj (List.cons.inj (List.cons.inj e).2).1)
      subst e1 e2
      exact ⟨rfl, rfl⟩
    case h2 =>
      rintro ds μ' ⟨d, μ2, r, ⟨rfl, rfl⟩, ⟨rfl, rfl⟩, rfl⟩
      exact ⟨rfl, rfl⟩
    case h1 =>
      rintro ds μ' ⟨d, μ2, r, ⟨b, rfl, rfl⟩, ⟨rfl, rfl⟩, rfl⟩
      exact ⟨b, rfl, rfl⟩
  obtain ⟨b, rfl, rfl⟩ := hd
  refine ⟨_, _, rfl, ?_⟩
  refine run_toR 4 b ?_
  refine run_par3M (P := fun ds μ' => ∃ b2, ds = [ptD b2, wD [], wD ws] ∧ μ' = [(b2, .ins C (trk l m [])), (b, .ins C (trk l m []))]) 6 7 8 ?hcp (fun ds μ1 hd => ?_) sc.nd
  case hcp =>
    refine EvAM.imp (eam_cons (B := fun d μ1 r μ' => r = [wD [], wD ws] ∧ μ' = μ1) (em_copy (fs := trk l m []) 4 0 MC hr c rfl ⟨l, m, [], rfl, ok0⟩) (fun d μ1 _ => EvAM.imp (eam_cons (B := fun d μ1 r μ' => r = [wD ws] ∧ μ' = μ1) (Ed.m (ed_lst ea_nil (by simp))) (fun d2 μ2 _ => EvAM.imp (eam_cons (B := fun d μ1 r μ' => r = [] ∧ μ' = μ1) (Ed.m (d := wD ws) (Ed.to (ed_call F5 hr (ea_cons (vr 3) (ea_cons (vr 2) ea_nil)) ⟨l, m, rfl, by omega, hm1, by omega, rfl⟩) (by rw [ew, lawV_eq]))) (fun _ _ _ => eam_nil)) ?h3)) ?h2)) ?h1
    case h3 =>
      rintro ds μ' ⟨d, μ2, r, ⟨rfl, rfl⟩, ⟨rfl, rfl⟩, rfl⟩
      exact ⟨rfl, rfl⟩
    case h2 =>
      rintro ds μ' ⟨d, μ2, r, ⟨rfl, rfl⟩, ⟨rfl, rfl⟩, rfl⟩
      exact ⟨rfl, rfl⟩
    case h1 =>
      rintro ds μ' ⟨d, μ2, r, ⟨b2, rfl, rfl⟩, ⟨rfl, rfl⟩, rfl⟩
      exact ⟨b2, rfl, rfl⟩
  obtain ⟨b2, rfl, rfl⟩ := hd
  refine ⟨_, _, _, rfl, ?_⟩
  refine run_toR 6 b2 ?_
  refine run_mu (μ' := [(b, .ins C (trk l m [])), (b2, .ins C (trk l m []))]) (fun p hp => ?hsub) (fun nd => ?hnd) ?_
  case hsub => simp at hp ⊢; rcases hp with h | h <;> simp [h]
  case hnd => simp at nd ⊢; exact fun e => nd e.symm
  rw [← ew] at hvl
  refine run_setP 9 (ev_takenN (max 1 ws.length) F0 hr hrow 1 (ed_callB G.max boot_max (ea_cons ed_int (ea_cons (lenLw G (vr 8)) ea_nil)) (c_max2 rfl)) (by split <;> omega) (by omega) (by omega)) (fun d hd => ?_) sc.nd
  obtain ⟨q, e, hq⟩ := hd
  subst e
  have hq2 : q ≤ 60 := by omega
  refine run_for 10 (it_range (n := 9) ed_int G.range) (fun i Γ μ => ∃ ts ks b2, OkT l m ts ∧ OkT l m ks ∧ ts.length ≤ i ∧ wk Γ [.no, .r r, .d (sD m), .d (sD l), .r b, .d (wD ts), .r b2, .d (wD ks), .d (wD ws), .d (nn q), .no, .no, .no, .no, .no] ∧ μ = [(b, .ins C (trk l m ts)), (b2, .ins C (trk l m ks))]) ?hj0 (fun W1 lw i x Γ' μ' hx hj => ?_) (fun Γ' μ' hj => ?_) sc.nd
  case hj0 => exact ⟨[], [], b2, ok0, ok0, by simp, wk_0 (wk_s (wk_s (wk_s (wk_s (wk_s (wk_s (wk_s (wk_s (wk_s (wk_0 (wk_0 (wk_0 (wk_0 (wk_0 wk_n)))))))))))))), rfl⟩
  · obtain ⟨ts, ks, b2, ok, okk, htl, wkΓ, rfl⟩ := hj
    refine run_weak ?_ (run_forS.wk_set wkΓ 10)
    clear wkΓ
    have hi := (List.getElem?_eq_some_iff.mp hx).1
    rw [List.length_range] at hi
    obtain rfl : x = i := by
      rw [List.getElem?_range hi] at hx
      exact (Option.some.inj hx).symm
    have hrow1 := lw.row.trans hrow
    refine run_setP 11 (ev_takenN 6 F0 hr hrow1 1 ed_int rfl) (fun d hd => ?_) sc.nd
    obtain ⟨kd, e, hkd⟩ := hd
    subst e
    refine run_ifVJ (A := fun z => z = decide ((kd : Int) = 0)) (fun Γ μ => ∃ ts', OkT l m ts' ∧ ts'.length ≤ x + 1 ∧ wk Γ [.no, .r r, .d (sD m), .d (sD l), .r b, .d (wD ts'), .r b2, .d (wD ks), .d (wD ws), .d (nn q), .d (nn x), .no, .no, .no, .no] ∧ μ = [(b, .ins C (trk l m ts')), (b2, .ins C (trk l m ks))]) (EdT.ev (tc (vr 11) ed_int c_eqI) rfl) (fun hA => ?k0) (fun hA => ?k1) (fun Γ' μ' hj => ?_)
    case k0 =>
      refine run_ifM (A := fun z μ' => z = false ∧ μ' = [(b, .ins C (trk l m ts.dropLast)), (b2, .ins C (trk l m ks))]) (tcm (em_meth0 (fs := trk l m ts) 4 0 MU hr c rfl ⟨l, m, ts, rfl, ok, rfl⟩) (fun x μ1 hx => Ed.m (ed_cmp (vr 5) (ed_lst ea_nil (by simp)) (c_neNil hu (shp_tsL ok)))) ?hz) (fun μ1 h => nomatch h.1) (fun μ1 h => run_skip ?_)
      case hz =>
        rintro z μ1 y μ2 ⟨fs', ⟨l', m', ts', e1, rfl, rfl⟩, rfl⟩ ⟨rfl, rfl⟩
        obtain ⟨rfl, rfl, rfl⟩ := trk_inj e1
        refine ⟨false, ⟨rfl, rfl⟩, ?_⟩
        rw [show (List.map sD ts).isEmpty = ts.isEmpty by cases ts <;> rfl]
        exact c_neSame hu Shp.bl
      obtain ⟨_, rfl⟩ := h
      refine run_set (d := wD ts.dropLast) 5 (Ed.to (ed_sl (vr 5) so_none (so_some (ed_neg ed_int)) (s_listE rfl)) (congrArg PyData.list List.map_dropLast.symm)) ?_ sc.nd
      exact run_go [.no, .r r, .d (sD m), .d (sD l), .r b, .d (wD ts.dropLast), .r b2, .d (wD ks), .d (wD ws), .d (nn q), .d (nn x), .no, .no, .no, .no] (wk_0 (wk_s (wk_s (wk_s (wk_s (wk_s (wk_s (wk_s (wk_s (wk_s (wk_s (wk_0 (wk_0 (wk_0 (wk_0 wk_n))))))))))))))) ⟨ts.dropLast, ok.drop, by rw [List.length_dropLast]; omega, wk_0 (wk_s (wk_s (wk_s (wk_s (wk_s (wk_s (wk_s (wk_s (wk_s (wk_s (wk_0 (wk_0 (wk_0 (wk_0 wk_n)))))))))))))), rfl⟩
    case k1 =>
      by_cases h1 : kd = 1
      · subst h1
        refine run_if (k := true) (tc (vr 11) ed_int c_eqI) (fun _ => ?_) (fun e => nomatch e)
        refine run_ifM (A := fun z μ' => z = false ∧ μ' = [(b, .ins C (trk l m ts)), (b2, .ins C (trk l m ks))]) (tcm (em_callV (fs := trk l m ts) (A := fun ds => ∃ v, ds = [v] ∧ noLook m v) 4 0 F8 hr ?hodd (fun ds ⟨v, e, hv⟩ => ⟨l, m, ts, v, rfl, ok, e, hv⟩)) (fun x μ1 hx => Ed.m (ed_S [118, 105, 101, 119])) ?hz) (fun μ1 h => nomatch h.1) (fun μ1 h => run_skip ?_)
        case hodd =>
          refine EvA.imp (eva_cons (Ev.imp (ev_draw (A := fun ds => ds = [sD m]) F4 hr hrow1 1 (EdA.ev (ea_cons (vr 2) ea_nil) rfl) (fun ds e => ⟨m, e, hm⟩)) (B := noLook m) ?hd1) eva_nil) ?hd2
          case hd1 =>
            rintro d ⟨ds, e, m', e', hd⟩
            rw [e] at e'
            have : m = m' := S_inj (PyData.str.inj (List.cons.inj e').1)
            rw [this]
            exact hd
          case hd2 =>
            rintro ds ⟨v, r, rfl, hv, rfl⟩
            exact ⟨v, rfl, hv⟩
        case hz =>
          rintro z μ1 y μ2 ⟨ds, _, fs', ⟨rfl, rfl⟩, rfl⟩ ⟨rfl, rfl⟩
          exact ⟨false, ⟨rfl, rfl⟩, c_neSame hu (Shp.str (by decide))⟩
        obtain ⟨_, rfl⟩ := h
        exact run_skip (run_go [.no, .r r, .d (sD m), .d (sD l), .r b, .d (wD ts), .r b2, .d (wD ks), .d (wD ws), .d (nn q), .d (nn x), .no, .no, .no, .no] (wk_0 (wk_s (wk_s (wk_s (wk_s (wk_s (wk_s (wk_s (wk_s (wk_s (wk_s (wk_0 (wk_0 (wk_0 (wk_0 wk_n))))))))))))))) ⟨ts, ok, by omega, wk_0 (wk_s (wk_s (wk_s (wk_s (wk_s (wk_s (wk_s (wk_s (wk_s (wk_s (wk_0 (wk_0 (wk_0 (wk_0 wk_n)))))))))))))), rfl⟩)
      · refine run_if (k := false) (EdT.to (tc (vr 11) ed_int c_eqI) (by simp; omega)) (fun e => nomatch e) (fun _ => ?_)
        refine run_set (d := nn (q + ts.length)) 12 (ed_op (vr 9) (lenLw G (vr 5)) o_add) ?_ sc.nd
        refine run_setP (P := fun z => ∃ v : List Nat, z = sD v ∧ lookB m v = true) 13 (ev_if (A := fun z => z = true → q + ts.length < ws.length) (EdT.ev (t_and (tc (vr 12) (lenLw G (vr 8)) c_lt) (fun _ => tc (vr 11) ed_int c_gt)) ?hA1) (fun hA => ?hv1) (fun _ => ?hv2)) (fun d hd => ?_) sc.nd
        case hA1 =>
          intro h
          rw [Bool.and_eq_true, decide_eq_true_iff] at h
          omega
        case hv1 =>
          have hlt := hA rfl
          refine Ed.evP (ed_ix (z := sD ws[q + ts.length]) (vr 8) (vr 12) (i_list (n := q + ts.length) (by rw [List.getElem?_map, List.getElem?_eq_getElem hlt]; rfl) rfl)) ⟨_, rfl, view_look hlow ?_⟩
          rw [← ew]
          exact List.getElem_mem hlt
        case hv2 => exact ev_look F3 hr hrow1 1 (vr 3) (vr 2) (by omega) hlow hm
        obtain ⟨v0, e, hv0⟩ := hd
        subst e
        have hv0l := (lookB_iff.mp hv0).1
        have hsn := seenL_len m
        refine run_ifVJ (A := fun z => True) (fun Γ μ => ∃ v : List Nat, lookB m v = true ∧ wk Γ [.no, .r r, .d (sD m), .d (sD l), .r b, .d (wD ts), .r b2, .d (wD ks), .d (wD ws), .d (nn q), .d (nn x), .no, .no, .d (sD v), .no] ∧ μ = [(b, .ins C (trk l m ts)), (b2, .ins C (trk l m ks))]) (EdT.ev (tc (vr 11) ed_int c_eqI) trivial) (fun _ => ?q0) (fun _ => ?q1) (fun Γ' μ' hj => ?_)
        case q0 =>
          refine run_set (d := sD (63 :: v0.drop 1)) 13 (ed_op (ed_S [63]) (ed_sl (vr 13) (so_some ed_int) so_none (s_strD 1 (by omega))) (o_adds (by simp; omega))) ?_ sc.nd
          exact run_go [.no, .r r, .d (sD m), .d (sD l), .r b, .d (wD ts), .r b2, .d (wD ks), .d (wD ws), .d (nn q), .d (nn x), .no, .no, .d (sD (63 :: v0.drop 1)), .no] (wk_0 (wk_s (wk_s (wk_s (wk_s (wk_s (wk_s (wk_s (wk_s (wk_s (wk_s (wk_0 (wk_0 (wk_s (wk_0 wk_n))))))))))))))) ⟨_, look_q hm hv0, wk_0 (wk_s (wk_s (wk_s (wk_s (wk_s (wk_s (wk_s (wk_s (wk_s (wk_s (wk_0 (wk_0 (wk_s (wk_0 wk_n)))))))))))))), rfl⟩
        case q1 => exact run_go [.no, .r r, .d (sD m), .d (sD l), .r b, .d (wD ts), .r b2, .d (wD ks), .d (wD ws), .d (nn q), .d (nn x), .no, .no, .d (sD v0), .no] (wk_0 (wk_s (wk_s (wk_s (wk_s (wk_s (wk_s (wk_s (wk_s (wk_s (wk_s (wk_0 (wk_0 (wk_s (wk_0 wk_n))))))))))))))) ⟨_, hv0, wk_0 (wk_s (wk_s (wk_s (wk_s (wk_s (wk_s (wk_s (wk_s (wk_s (wk_s (wk_0 (wk_0 (wk_s (wk_0 wk_n)))))))))))))), rfl⟩
        obtain ⟨v, hv, wkΓ, rfl⟩ := hj
        refine run_weak ?_ wkΓ
        clear wkΓ
        have ok2 := ok.snoc hv (by omega)
        refine run_set (d := wD (ts ++ [v])) 5 (Ed.to (ed_op (vr 5) (ed_lst (ea_cons (vr 13) ea_nil) (by simp)) (o_cat (by rw [List.length_map]; simp; omega))) ?hcat) ?_ sc.nd
        case hcat =>
          show PyData.list _ = PyData.list _
          rw [List.map_append]
          rfl
        refine run_ifM (A := fun z μ' => z = false ∧ μ' = [(b, .ins C (trk l m (ts ++ [v]))), (b2, .ins C (trk l m ks))]) (tcm (em_call (fs := trk l m ts) 4 0 F7 hr (ea_cons (vr 13) ea_nil) ⟨l, m, ts, v, rfl, ok, rfl, hv⟩) (fun x μ1 hx => Ed.m (lenL G (ed_call F6 hr (ea_cons (vr 3) (ea_cons (vr 2) (ea_cons (vr 5) ea_nil))) ⟨l, m, ts ++ [v], rfl, ok2, rfl⟩))) ?hz) (fun μ1 h => nomatch h.1) (fun μ1 h => run_skip ?_)
        case hz =>
          rintro z μ1 y μ2 ⟨fs', ⟨l', m', ts', v', e1, e2, rfl, rfl⟩, rfl⟩ ⟨rfl, rfl⟩
          obtain ⟨rfl, rfl, rfl⟩ := trk_inj e1
          have e3 := S_inj (PyData.str.inj (List.cons.inj e2).1)
          subst e3
          refine ⟨false, ⟨rfl, rfl⟩, ?_⟩
          rw [List.length_map]
          exact c_neSame hu Shp.int
        obtain ⟨_, rfl⟩ := h
        exact run_skip (run_go [.no, .r r, .d (sD m), .d (sD l), .r b, .d (wD (ts ++ [v])), .r b2, .d (wD ks), .d (wD ws), .d (nn q), .d (nn x), .no, .no, .no, .no] (wk_0 (wk_s (wk_s (wk_s (wk_s (wk_s (wk_s (wk_s (wk_s (wk_s (wk_s (wk_0 (wk_0 (wk_0 (wk_0 wk_n))))))))))))))) ⟨ts ++ [v], ok2, by rw [List.length_append]; simp; omega, wk_0 (wk_s (wk_s (wk_s (wk_s (wk_s (wk_s (wk_s (wk_s (wk_s (wk_s (wk_0 (wk_0 (wk_0 (wk_0 wk_n)))))))))))))), rfl⟩)
    obtain ⟨ts', ok', htl', wkΓ, rfl⟩ := hj
    refine run_weak ?_ wkΓ
    clear wkΓ
    refine run_if (k := false) (t_not (k := true) (et_val ?hist)) (fun e => nomatch e) (fun _ => run_skip ?_)
    case hist => exact EvM.pure_ (P := post_ist (trk l m ts') [sD l, sD m, wD ts']) (j := 0) (em_call (fs := trk l m ts') 4 0 F9 hr (ea_cons (vr 3) (ea_cons (vr 2) (ea_cons (vr 5) ea_nil))) ⟨l, m, ts', rfl, ok', rfl⟩) (fun fs' z h => h)
    by_cases h4 : x = 4
    · subst h4
      refine run_if (k := true) (tc (vr 10) ed_int c_eqI) (fun _ => ?_) (fun e => nomatch e)
      refine run_parM (P := fun ds μ' => ∃ b3, ds = [ptD b3, wD ts'] ∧ μ' = [(b3, .ins C (trk l m ts')), (b, .ins C (trk l m ts')), (b2, .ins C (trk l m ks))]) 6 7 ?hcp2 (fun ds μ1 hd => ?_) sc.nd
      case hcp2 =>
        refine EvAM.imp (eam_cons (B := fun d μ1 r μ' => r = [wD ts'] ∧ μ' = μ1) (em_copy (fs := trk l m ts') 4 0 MC hr c rfl ⟨l, m, ts', rfl, ok'⟩) (fun d μ1 _ => EvAM.imp (eam_cons (B := fun d μ1 r μ' => r = [] ∧ μ' = μ1) (Ed.m (vr 5)) (fun _ _ _ => eam_nil)) ?g2)) ?g1
        case g2 =>
          rintro ds μ' ⟨d, μ2, r, ⟨rfl, rfl⟩, ⟨rfl, rfl⟩, rfl⟩
          exact ⟨rfl, rfl⟩
        case g1 =>
          rintro ds μ' ⟨d, μ2, r, ⟨b3, rfl, rfl⟩, ⟨rfl, rfl⟩, rfl⟩
          exact ⟨b3, rfl, rfl⟩
      obtain ⟨b3, rfl, rfl⟩ := hd
      refine ⟨_, _, rfl, ?_⟩
      refine run_toR 6 b3 ?_
      refine run_mu (μ' := [(b, .ins C (trk l m ts')), (b3, .ins C (trk l m ts'))]) (fun p hp => ?hsub2) (fun nd => ?hnd2) ?_
      case hsub2 => simp at hp ⊢; rcases hp with h | h <;> simp [h]
      case hnd2 => simp at nd ⊢; exact fun e => nd.1.1 e.symm
      exact run_skip (run_go [.no, .r r, .d (sD m), .d (sD l), .r b, .d (wD ts'), .r b3, .d (wD ts'), .d (wD ws), .d (nn q), .no, .no, .no, .no, .no] (wk_0 (wk_s (wk_s (wk_s (wk_s (wk_s (wk_s (wk_s (wk_s (wk_s (wk_0 (wk_0 (wk_0 (wk_0 (wk_0 wk_n))))))))))))))) ⟨ts', ts', b3, ok', ok', htl', wk_0 (wk_s (wk_s (wk_s (wk_s (wk_s (wk_s (wk_s (wk_s (wk_s (wk_0 (wk_0 (wk_0 (wk_0 (wk_0 wk_n)))))))))))))), rfl⟩)
    · refine run_if (k := false) (EdT.to (tc (vr 10) ed_int c_eqI) (by simp; omega)) (fun e => nomatch e) (fun _ => ?_)
      exact run_skip (run_go [.no, .r r, .d (sD m), .d (sD l), .r b, .d (wD ts'), .r b2, .d (wD ks), .d (wD ws), .d (nn q), .no, .no, .no, .no, .no] (wk_0 (wk_s (wk_s (wk_s (wk_s (wk_s (wk_s (wk_s (wk_s (wk_s (wk_0 (wk_0 (wk_0 (wk_0 (wk_0 wk_n))))))))))))))) ⟨ts', ks, b2, ok', okk, htl', wk_0 (wk_s (wk_s (wk_s (wk_s (wk_s (wk_s (wk_s (wk_s (wk_s (wk_0 (wk_0 (wk_0 (wk_0 (wk_0 wk_n)))))))))))))), rfl⟩)
  · obtain ⟨ts, ks, b2, ok, okk, htl, wkΓ, rfl⟩ := hj
    refine run_weak ?_ wkΓ
    clear wkΓ
    rw [List.length_range] at htl
    refine run_if (k := false) (t_not (k := true) (et_val ?hist)) (fun e => nomatch e) (fun _ => run_skip ?_)
    case hist => exact EvM.pure_ (P := post_ist (trk l m ks) [sD l, sD m, wD ks]) (j := 1) (em_call (fs := trk l m ks) 6 1 F9 hr (ea_cons (vr 3) (ea_cons (vr 2) (ea_cons (vr 7) ea_nil))) ⟨l, m, ks, rfl, okk, rfl⟩) (fun fs' z h => h)
    refine run_setP (P := fun z => ∃ v : List Nat, z = sD v ∧ lookB m v = true) 13 (ev_look F3 hr hrow 1 (vr 3) (vr 2) (by omega) hlow hm) (fun d hd => ?_) sc.nd
    obtain ⟨v, e, hv⟩ := hd
    subst e
    have ok2 := ok.snoc hv (by omega)
    refine run_parM (P := fun ds μ' => ∃ b3 b4, ds = [ptD b3, ptD b4] ∧ μ' = [(b4, .ins C (trk l m ts)), (b3, .ins C (trk l m ts)), (b, .ins C (trk l m ts)), (b2, .ins C (trk l m ks))]) 6 14 ?hcp3 (fun ds μ1 hd => ?_) sc.nd
    case hcp3 =>
      refine EvAM.imp (eam_cons (B := fun d μ1 r μ' => ∃ b4, r = [ptD b4] ∧ μ' = (b4, .ins C (trk l m ts)) :: μ1) (em_copy (fs := trk l m ts) 4 0 MC hr c rfl ⟨l, m, ts, rfl, ok⟩) (fun d μ1 hd => ?w3)) ?w1
      case w3 =>
        obtain ⟨b3, rfl, rfl⟩ := hd
        refine EvAM.imp (eam_cons (B := fun d μ1 r μ' => r = [] ∧ μ' = μ1) (em_copy (fs := trk l m ts) 4 1 MC hr c rfl ⟨l, m, ts, rfl, ok⟩) (fun _ _ _ => eam_nil)) ?_
        rintro ds μ' ⟨d, μ2, r, ⟨b4, rfl, rfl⟩, ⟨rfl, rfl⟩, rfl⟩
        exact ⟨b4, rfl, rfl⟩
      case w1 =>
        rintro ds μ' ⟨d, μ2, r, ⟨b3, rfl, rfl⟩, ⟨b4, rfl, rfl⟩, rfl⟩
        exact ⟨b3, b4, rfl, rfl⟩
    obtain ⟨b3, b4, rfl, rfl⟩ := hd
    refine ⟨_, _, rfl, ?_⟩
    refine run_toR 6 b3 (run_toR 14 b4 ?_)
    refine run_ifM (A := fun z μ' => z = false ∧ μ' = [(b4, .ins C (trk l m (ts ++ [v]))), (b3, .ins C (trk l m ts.dropLast)), (b, .ins C (trk l m ts)), (b2, .ins C (trk l m ks))]) (EvWM.t (twm_or (A := fun z μ' => z = false ∧ μ' = [(b4, .ins C (trk l m ts)), (b3, .ins C (trk l m ts.dropLast)), (b, .ins C (trk l m ts)), (b2, .ins C (trk l m ks))]) (tcm (em_meth0 (fs := trk l m ts) 6 1 MU hr c rfl ⟨l, m, ts, rfl, ok, rfl⟩) (fun x μ1 hx => Ed.m (ed_cmp (vr 5) (ed_lst ea_nil (by simp)) (c_neNil hu (shp_tsL ok)))) ?hz1) (fun μ1 h => ?hor) (fun μ1 h => nomatch h.1))) (fun μ1 h => nomatch h.1) (fun μ1 h => run_skip ?_)
    case hz1 =>
      rintro z μ1 y μ2 ⟨fs', ⟨l', m', ts', e1, rfl, rfl⟩, rfl⟩ ⟨rfl, rfl⟩
      obtain ⟨rfl, rfl, rfl⟩ := trk_inj e1
      refine ⟨false, ⟨rfl, rfl⟩, ?_⟩
      rw [show (List.map sD ts).isEmpty = ts.isEmpty by cases ts <;> rfl]
      exact c_neSame hu Shp.bl
    case hor =>
      obtain ⟨_, rfl⟩ := h
      refine twm_or1 (tcm (em_call (fs := trk l m ts) 14 0 F7 hr (ea_cons (vr 13) ea_nil) ⟨l, m, ts, v, rfl, ok, rfl, hv⟩) (fun x μ1 hx => Ed.m (lenL G (ed_call F6 hr (ea_cons (vr 3) (ea_cons (vr 2) (ea_cons (x := wD (ts ++ [v])) ?hcat ea_nil))) ⟨l, m, ts ++ [v], rfl, ok2, rfl⟩))) ?hz2)
      case hcat =>
        refine Ed.to (ed_op (vr 5) (ed_lst (ea_cons (vr 13) ea_nil) (by simp)) (o_cat (by rw [List.length_map]; simp; omega))) ?_
        show PyData.list _ = PyData.list _
        rw [List.map_append]
        rfl
      case hz2 =>
        rintro z μ1 y μ2 ⟨fs', ⟨l', m', ts', v', e1, e2, rfl, rfl⟩, rfl⟩ ⟨rfl, rfl⟩
        obtain ⟨rfl, rfl, rfl⟩ := trk_inj e1
        have e3 := S_inj (PyData.str.inj (List.cons.inj e2).1)
        subst e3
        refine ⟨false, ⟨rfl, rfl⟩, ?_⟩
        rw [List.length_map]
        exact c_neSame hu Shp.int
    obtain ⟨_, rfl⟩ := h
    refine run_ret (d := .bool true) (Ed.to (ed_and (k := true) (l := true) ?c1 (fun _ => ed_one ?c2)) rfl) rfl
    case c1 => exact EvM.pure_ (P := post_ist (trk l m ts) [sD l, sD m, wD ts]) (j := 2) (em_call (fs := trk l m ts) 4 2 F9 hr (ea_cons (vr 3) (ea_cons (vr 2) (ea_cons (vr 5) ea_nil))) ⟨l, m, ts, rfl, ok, rfl⟩) (fun fs' z h => h)
    case c2 => exact EvM.pure_ (P := post_ist (trk l m ts.dropLast) [sD l, sD m, wD ts.dropLast]) (j := 1) (em_call (fs := trk l m ts.dropLast) 6 1 F9 hr (ea_cons (vr 3) (ea_cons (vr 2) (ea_cons (x := wD ts.dropLast) (Ed.to (ed_sl (vr 5) so_none (so_some (ed_neg ed_int)) (s_listE rfl)) (congrArg PyData.list List.map_dropLast.symm)) ea_nil))) ⟨l, m, ts.dropLast, rfl, ok.drop, rfl⟩) (fun fs' z h => h)
end
end HW
set_option maxHeartbeats 4000000
namespace HW
open PySem PySem.Spec PyProof.Rows L2 Tx
open SX (S)
theorem facts {P : Program} {w : World} {K : PySem.W.Frag} {h : Heap} {mg : Str → Option Value} {f : Addr} (X : K.In h) (G0 : h.Ns mainGlobals mg) (hfa : mg ("law" : Str) = some (.ref f)) (c : He.SaysD Tx.fa Tx.fn K) (cx : Tx.ex K = true) (cp : HX.SaysP Tx.pn K) :
    ∃ fd : FuncData, (∀ (s : Shared) (v : Value), BindsTo s fd ⟨[v], []⟩ [("_law_script", v)]) ∧ ∀ base : Heap, K.In base → base.Ns mainGlobals mg → FnOk P w K mg base CX0 6 f fd ["_law_script"] (spLaw K) := by
  obtain ⟨q__law_taken, F__law_taken⟩ := c.def_ 9 (d := d__law_taken) rfl
  have g__law_taken := He.glo_ok X G0 (c.fact 9 (f := .glo "_law_taken") rfl)
  obtain ⟨q__law_mask, F__law_mask⟩ := c.def_ 10 (d := d__law_mask) rfl
  have g__law_mask := He.glo_ok X G0 (c.fact 10 (f := .glo "_law_mask") rfl)
  obtain ⟨q__law_line, F__law_line⟩ := c.def_ 11 (d := d__law_line) rfl
  have g__law_line := He.glo_ok X G0 (c.fact 11 (f := .glo "_law_line") rfl)
  obtain ⟨q__law_open, F__law_open⟩ := c.def_ 12 (d := d__law_open) rfl
  have g__law_open := He.glo_ok X G0 (c.fact 12 (f := .glo "_law_open") rfl)
  obtain ⟨q__law_views, F__law_views⟩ := c.def_ 13 (d := d__law_views) rfl
  have g__law_views := He.glo_ok X G0 (c.fact 13 (f := .glo "_law_views") rfl)
  obtain ⟨q__law_look, F__law_look⟩ := c.def_ 15 (d := d__law_look) rfl
  have g__law_look := He.glo_ok X G0 (c.fact 15 (f := .glo "_law_look") rfl)
  obtain ⟨q__law_odd_look, F__law_odd_look⟩ := c.def_ 14 (d := d__law_odd_look) rfl
  have g__law_odd_look := He.glo_ok X G0 (c.fact 14 (f := .glo "_law_odd_look") rfl)
  obtain ⟨q__law_misses, F__law_misses⟩ := c.def_ 16 (d := d__law_misses) rfl
  have g__law_misses := He.glo_ok X G0 (c.fact 16 (f := .glo "_law_misses") rfl)
  obtain ⟨q__law_starts, F__law_starts⟩ := c.def_ 18 (d := d__law_starts) rfl
  have g__law_starts := He.glo_ok X G0 (c.fact 18 (f := .glo "_law_starts") rfl)
  obtain ⟨q_seen_by, F_seen_by⟩ := c.def_ 4 (d := d_seen_by) rfl
  have g_seen_by := He.glo_ok X G0 (c.fact 4 (f := .glo "seen_by") rfl)
  obtain ⟨q_is_view, F_is_view⟩ := c.def_ 7 (d := d_is_view) rfl
  have g_is_view := He.glo_ok X G0 (c.fact 7 (f := .glo "is_view") rfl)
  obtain ⟨q_view_by, F_view_by⟩ := c.def_ 5 (d := d_view_by) rfl
  have g_view_by := He.glo_ok X G0 (c.fact 5 (f := .glo "view_by") rfl)
  obtain ⟨q_views_of, F_views_of⟩ := c.def_ 6 (d := d_views_of) rfl
  have g_views_of := He.glo_ok X G0 (c.fact 6 (f := .glo "views_of") rfl)
  obtain ⟨q_misses, F_misses⟩ := c.def_ 8 (d := d_misses) rfl
  have g_misses := He.glo_ok X G0 (c.fact 8 (f := .glo "misses") rfl)
  obtain ⟨q__law_seen, F__law_seen⟩ := c.def_ 17 (d := d__law_seen) rfl
  have g__law_seen := He.glo_ok X G0 (c.fact 17 (f := .glo "_law_seen") rfl)
  obtain ⟨q__law_is_tracker, F__law_is_tracker⟩ := c.def_ 19 (d := d__law_is_tracker) rfl
  have g__law_is_tracker := He.glo_ok X G0 (c.fact 19 (f := .glo "_law_is_tracker") rfl)
  obtain ⟨q_is_row, F_is_row⟩ := c.def_ 2 (d := d_is_row) rfl
  have g_is_row := He.glo_ok X G0 (c.fact 2 (f := .glo "is_row") rfl)
  obtain ⟨q_need_row, F_need_row⟩ := c.def_ 3 (d := d_need_row) rfl
  have g_need_row := He.glo_ok X G0 (c.fact 3 (f := .glo "need_row") rfl)
  obtain ⟨q_is_mask, F_is_mask⟩ := c.def_ 0 (d := d_is_mask) rfl
  have g_is_mask := He.glo_ok X G0 (c.fact 0 (f := .glo "is_mask") rfl)
  obtain ⟨q_need_mask, F_need_mask⟩ := c.def_ 1 (d := d_need_mask) rfl
  have g_need_mask := He.glo_ok X G0 (c.fact 1 (f := .glo "need_mask") rfl)
  obtain ⟨q_law, F_law⟩ := c.def_ 20 (d := d_law) rfl
  have g_law := He.glo_ok X G0 (c.fact 20 (f := .glo "law") rfl)
  have e := hfa.symm.trans g_law
  cases e
  have n_isinstance := He.free_ok X G0 (c.fact 24 (f := .free "isinstance") rfl)
  have n_str := He.free_ok X G0 (c.fact 30 (f := .free "str") rfl)
  have n_int := He.free_ok X G0 (c.fact 23 (f := .free "int") rfl)
  have n_len := He.free_ok X G0 (c.fact 25 (f := .free "len") rfl)
  have n_all := He.free_ok X G0 (c.fact 21 (f := .free "all") rfl)
  have n_range := He.free_ok X G0 (c.fact 29 (f := .free "range") rfl)
  have n_set := He.free_ok X G0 (c.fact 33 (f := .free "set") rfl)
  have n_enumerate := He.free_ok X G0 (c.fact 22 (f := .free "enumerate") rfl)
  have n_zip := He.free_ok X G0 (c.fact 32 (f := .free "zip") rfl)
  have n_min := He.free_ok X G0 (c.fact 34 (f := .free "min") rfl)
  have n_max := He.free_ok X G0 (c.fact 27 (f := .free "max") rfl)
  have n_sorted := He.free_ok X G0 (c.fact 35 (f := .free "sorted") rfl)
  have n_any := He.free_ok X G0 (c.fact 36 (f := .free "any") rfl)
  have n_tuple := He.free_ok X G0 (c.fact 31 (f := .free "tuple") rfl)
  have n_list := He.free_ok X G0 (c.fact 26 (f := .free "list") rfl)
  have n_bool := He.free_ok X G0 (c.fact 37 (f := .free "bool") rfl)
  have n_dict := He.free_ok X G0 (c.fact 38 (f := .free "dict") rfl)
  have n_abs := He.free_ok X G0 (c.fact 39 (f := .free "abs") rfl)
  have n_sum := He.free_ok X G0 (c.fact 40 (f := .free "sum") rfl)
  have k_SEEN := He.str_ok X G0 (c.fact 55 (f := .str "SEEN" "x") rfl)
  have k_HOLE := He.str_ok X G0 (c.fact 56 (f := .str "HOLE" ".") rfl)
  have k_LETTERS := He.str_ok X G0 (c.fact 57 (f := .str "LETTERS" "abcd") rfl)
  have k_MOST_MASK := He.int_ok X G0 (c.fact 58 (f := .int "MOST_MASK" 12) rfl)
  have k_MOST_ROW := He.int_ok X G0 (c.fact 59 (f := .int "MOST_ROW" 60) rfl)
  have k_OPEN := He.str_ok X G0 (c.fact 60 (f := .str "OPEN" "?") rfl)
  unfold Tx.ex at cx
  simp only [Bool.and_eq_true] at cx
  obtain ⟨⟨⟨⟨⟨c_xBadView, c_bWindowError⟩, c_pTracker_row⟩, c_pTracker_mask⟩, c_pTracker_seen⟩, _⟩ := cx
  have k_xBadView := HW.exfB_ok X G0 c_xBadView
  have k_bWindowError := HW.baseB_ok X G0 c_bWindowError
  have k_pTracker_row := HX.propB_ok c_pTracker_row
  have k_pTracker_mask := HX.propB_ok c_pTracker_mask
  have k_pTracker_seen := HX.propB_ok c_pTracker_seen
  have ex_BadView_BadView := He.exm_ok (c.fact 54 (f := .exm "BadView" "BadView" true) rfl)
  have cls_Tracker := He.cls_ok (c.fact 42 (f := .cls "Tracker") rfl)
  have g_Tracker := He.glo_ok X G0 (c.fact 41 (f := .glo "Tracker") rfl)
  have mk_Tracker := He.mkr_ok (c.fact 43 (f := .mkr "Tracker") rfl)
  have meth_Tracker_starts := He.meth_ok (c.fact 44 (f := .meth "Tracker" "starts") rfl)
  have meth_Tracker_places := He.meth_ok (c.fact 45 (f := .meth "Tracker" "places") rfl)
  have meth_Tracker_see := He.meth_ok (c.fact 46 (f := .meth "Tracker" "see") rfl)
  have meth_Tracker_undo := He.meth_ok (c.fact 47 (f := .meth "Tracker" "undo") rfl)
  have meth_Tracker_copy := He.meth_ok (c.fact 48 (f := .meth "Tracker" "copy") rfl)
  have meth_Tracker___len__ := He.meth_ok (c.fact 49 (f := .meth "Tracker" "__len__") rfl)
  have nf_Tracker_line := He.noat_ok (c.fact 50 (f := .noat "Tracker" "line") rfl)
  have nf_Tracker_shape := He.noat_ok (c.fact 51 (f := .noat "Tracker" "shape") rfl)
  have nf_Tracker_told := He.noat_ok (c.fact 52 (f := .noat "Tracker" "told") rfl)
  have nf_Tracker_stood := He.noat_ok (c.fact 53 (f := .noat "Tracker" "stood") rfl)
  obtain ⟨qp_Tracker_row, Fp_Tracker_row⟩ := cp.def_ 0 (d := ip_Tracker_row) rfl
  obtain ⟨qp_Tracker_mask, Fp_Tracker_mask⟩ := cp.def_ 1 (d := ip_Tracker_mask) rfl
  obtain ⟨qp_Tracker_seen, Fp_Tracker_seen⟩ := cp.def_ 2 (d := ip_Tracker_seen) rfl
  obtain ⟨qm_Tracker___init__, Fm_Tracker___init__⟩ := c.def_ 22 (d := im_Tracker___init__) rfl
  obtain ⟨qm_Tracker_starts, Fm_Tracker_starts⟩ := c.def_ 23 (d := im_Tracker_starts) rfl
  obtain ⟨qm_Tracker_places, Fm_Tracker_places⟩ := c.def_ 24 (d := im_Tracker_places) rfl
  obtain ⟨qm_Tracker_see, Fm_Tracker_see⟩ := c.def_ 25 (d := im_Tracker_see) rfl
  obtain ⟨qm_Tracker_undo, Fm_Tracker_undo⟩ := c.def_ 26 (d := im_Tracker_undo) rfl
  obtain ⟨qm_Tracker_copy, Fm_Tracker_copy⟩ := c.def_ 27 (d := im_Tracker_copy) rfl
  obtain ⟨qm_Tracker___len__, Fm_Tracker___len__⟩ := c.def_ 28 (d := im_Tracker___len__) rfl
  obtain ⟨qi_BadView, Fi_BadView⟩ := c.def_ 21 (d := i_BadView) rfl
  have G : Gs mg := ⟨n_isinstance, n_str, n_int, n_len, n_all, n_range, n_set, n_enumerate, n_zip, n_min, n_max, n_sorted, n_any, n_tuple, n_list, n_bool, n_dict, n_abs, n_sum⟩
  have b := FunD.bindsA (ps := ["_law_script"]) F_law fun _ _ _ _ _ _ us hl => match us, hl with | [_], _ => rfl
  refine ⟨q_law, fun s v => b s [v] rfl, fun base _ _ => ?_⟩
  have E_BadView : Ex0 P w K mg base 1 "BadView" := ⟨k_xBadView, _, fi_BadView (k := 0) Fi_BadView k_bWindowError, FunD.bindsN Fi_BadView fun _ _ _ _ _ _ us hl => match us, hl with | [_], _ => rfl⟩
  have A__law_taken : Fd P w K mg base 1 "_law_taken" ["_law_row", "_law_many"] (spW K R_taken_pre R_taken_post) := ⟨_, _, fd_taken (k := 0) F__law_taken n_int n_len, g__law_taken, FunD.kp F__law_taken, FunD.bindsN F__law_taken fun _ _ _ _ _ _ us hl => match us, hl with | [_, _], _ => rfl⟩
  have A__law_mask : Fd P w K mg base 2 "_law_mask" ["_law_row", "_law_width"] (spW K pre_mask post_mask) := ⟨_, _, fd_law_mask (k := 1) F__law_mask n_range (A__law_taken.mono (by decide)), g__law_mask, FunD.kp F__law_mask, FunD.bindsN F__law_mask fun _ _ _ _ _ _ us hl => match us, hl with | [_, _], _ => rfl⟩
  have A__law_line : Fd P w K mg base 2 "_law_line" ["_law_row", "_law_most", "_law_letters"] (spW K pre_line post_line) := ⟨_, _, fd_law_line (k := 1) F__law_line n_range (A__law_taken.mono (by decide)), g__law_line, FunD.kp F__law_line, FunD.bindsN F__law_line fun _ _ _ _ _ _ us hl => match us, hl with | [_, _, _], _ => rfl⟩
  have A__law_open : Fd P w K mg base 1 "_law_open" ["_law_mask_here"] (spR K R_open) := ⟨_, _, fd_law_open (k := 0) F__law_open G, g__law_open, FunD.kp F__law_open, FunD.bindsN F__law_open fun _ _ _ _ _ _ us hl => match us, hl with | [_], _ => rfl⟩
  have A__law_views : Fd P w K mg base 2 "_law_views" ["_law_line_here", "_law_mask_here"] (spR K R_lviews) := ⟨_, _, fd_law_views (k := 1) F__law_views G (A__law_open.mono (by decide)), g__law_views, FunD.kp F__law_views, FunD.bindsN F__law_views fun _ _ _ _ _ _ us hl => match us, hl with | [_, _], _ => rfl⟩
  have A__law_look : Fd P w K mg base 3 "_law_look" ["_law_row", "_law_line_here", "_law_mask_here"] (spW K pre_look post_look) := ⟨_, _, fd_law_look (k := 2) F__law_look G (A__law_taken.mono (by decide)) (A__law_open.mono (by decide)) (A__law_views.mono (by decide)), g__law_look, FunD.kp F__law_look, FunD.bindsN F__law_look fun _ _ _ _ _ _ us hl => match us, hl with | [_, _, _], _ => rfl⟩
  have A__law_odd_look : Fd P w K mg base 2 "_law_odd_look" ["_law_row", "_law_mask_here"] (spW K pre_odd post_odd) := ⟨_, _, fd_law_odd_look (k := 1) F__law_odd_look G (A__law_taken.mono (by decide)) (A__law_open.mono (by decide)), g__law_odd_look, FunD.kp F__law_odd_look, FunD.bindsN F__law_odd_look fun _ _ _ _ _ _ us hl => match us, hl with | [_, _], _ => rfl⟩
  have A__law_misses : Fd P w K mg base 1 "_law_misses" ["_law_view", "_law_look_here"] (spR K R_lmisses) := ⟨_, _, fd_law_misses (k := 0) F__law_misses G, g__law_misses, FunD.kp F__law_misses, FunD.bindsN F__law_misses fun _ _ _ _ _ _ us hl => match us, hl with | [_, _], _ => rfl⟩
  have A__law_starts : Fd P w K mg base 3 "_law_starts" ["_law_line_here", "_law_mask_here", "_law_looks"] (spR K R_lstarts) := ⟨_, _, fd_law_starts22 (k := 2) F__law_starts G (A__law_views.mono (by decide)) (A__law_misses.mono (by decide)), g__law_starts, FunD.kp F__law_starts, FunD.bindsN F__law_starts fun _ _ _ _ _ _ us hl => match us, hl with | [_, _, _], _ => rfl⟩
  have A_seen_by : Fd P w K mg base 1 "seen_by" ["mask"] (spR K R_seen_by) := ⟨_, _, fd_seen_by (k := 0) F_seen_by G k_SEEN, g_seen_by, FunD.kp F_seen_by, FunD.bindsN F_seen_by fun _ _ _ _ _ _ us hl => match us, hl with | [_], _ => rfl⟩
  have A_is_view : Fd P w K mg base 2 "is_view" ["mask", "value"] (spR K R_is_view) := ⟨_, _, fd_is_view (k := 1) F_is_view G k_LETTERS k_OPEN (A_seen_by.mono (by decide)), g_is_view, FunD.kp F_is_view, FunD.bindsN F_is_view fun _ _ _ _ _ _ us hl => match us, hl with | [_, _], _ => rfl⟩
  have A_view_by : Fd P w K mg base 2 "view_by" ["row", "mask", "place"] (spR K R_view_by) := ⟨_, _, fd_view_by (k := 1) F_view_by G (A_seen_by.mono (by decide)), g_view_by, FunD.kp F_view_by, FunD.bindsN F_view_by fun _ _ _ _ _ _ us hl => match us, hl with | [_, _, _], _ => rfl⟩
  have A_views_of : Fd P w K mg base 3 "views_of" ["row", "mask"] (spR K R_views_of) := ⟨_, _, fd_views_of (k := 2) F_views_of G (A_view_by.mono (by decide)), g_views_of, FunD.kp F_views_of, FunD.bindsN F_views_of fun _ _ _ _ _ _ us hl => match us, hl with | [_, _], _ => rfl⟩
  have A_misses : Fd P w K mg base 1 "misses" ["view", "told"] (spR K R_misses) := ⟨_, _, fd_misses (k := 0) F_misses G k_OPEN, g_misses, FunD.kp F_misses, FunD.bindsN F_misses fun _ _ _ _ _ _ us hl => match us, hl with | [_, _], _ => rfl⟩
  have A_Tracker_see : FdM P w K mg base 4 (He.ga K "Tracker") "see" ["self", "view"] (spT K (He.ga K "Tracker") pre_see post_see) := ⟨_, _, ft_see (k := 3) Fm_Tracker_see G cls_Tracker nf_Tracker_line nf_Tracker_shape nf_Tracker_told nf_Tracker_stood (A_is_view.mono (by decide)) (A_views_of.mono (by decide)) (A_misses.mono (by decide)), meth_Tracker_see, FunD.bindsN Fm_Tracker_see fun _ _ _ _ _ _ us hl => match us, hl with | [_, _], _ => rfl⟩
  have A__law_seen : Fd P w K mg base 5 "_law_seen" ["_law_tracker", "_law_look_here"] (spT K (He.ga K "Tracker") pre_see post_see) := ⟨_, _, fd_law_seen22 (k := 4) F__law_seen cls_Tracker (A_Tracker_see.mono (by decide)), g__law_seen, FunD.kp F__law_seen, FunD.bindsN F__law_seen fun _ _ _ _ _ _ us hl => match us, hl with | [_, _], _ => rfl⟩
  have A_is_view_O : Fd P w K mg base 1 "is_view" ["mask", "value"] (spR K R_is_view_o) := ⟨_, _, fd_is_view_o (k := 0) F_is_view G, g_is_view, FunD.kp F_is_view, FunD.bindsN F_is_view fun _ _ _ _ _ _ us hl => match us, hl with | [_, _], _ => rfl⟩
  have A_is_view_T : Fd P w K mg base 2 "is_view" ["mask", "value"] (spR K R_is_view_t) := ⟨_, _, fd_is_view_t (k := 1) F_is_view G k_LETTERS k_OPEN (A_seen_by.mono (by decide)), g_is_view, FunD.kp F_is_view, FunD.bindsN F_is_view fun _ _ _ _ _ _ us hl => match us, hl with | [_, _], _ => rfl⟩
  have A_Tracker_see_X : FdMX P w K mg base 3 (He.ga K "Tracker") "see" ["self", "view"] (X_see) := ⟨_, _, ft_see_x (k := 1) Fm_Tracker_see cls_Tracker nf_Tracker_shape (E_BadView.mono (by decide)) (A_is_view_O.mono (by decide)) (A_is_view_T.mono (by decide)), meth_Tracker_see, FunD.bindsN Fm_Tracker_see fun _ _ _ _ _ _ us hl => match us, hl with | [_, _], _ => rfl⟩
  have A__law_seen_B : Fd P w K mg base 4 "_law_seen" ["_law_tracker", "_law_look_here"] (spT K (He.ga K "Tracker") pre_seeB post_seeB) := ⟨_, _, fd_law_seen22B (k := 3) F__law_seen cls_Tracker k_xBadView ex_BadView_BadView (A_Tracker_see_X.mono (by decide)), g__law_seen, FunD.kp F__law_seen, FunD.bindsN F__law_seen fun _ _ _ _ _ _ us hl => match us, hl with | [_, _], _ => rfl⟩
  have A_Tracker_row : FdP P w K mg base 2 (He.ga K "Tracker") "row" ["self"] (spT K (He.ga K "Tracker") pre_t0 (post_t0 g_row)) := ⟨_, _, _, ft_p_row (k := 1) Fp_Tracker_row cls_Tracker nf_Tracker_line, k_pTracker_row, FunD.bindsN Fp_Tracker_row fun _ _ _ _ _ _ us hl => match us, hl with | [_], _ => rfl⟩
  have A_Tracker_mask : FdP P w K mg base 2 (He.ga K "Tracker") "mask" ["self"] (spT K (He.ga K "Tracker") pre_t0 (post_t0 g_mask)) := ⟨_, _, _, ft_p_mask (k := 1) Fp_Tracker_mask cls_Tracker nf_Tracker_shape, k_pTracker_mask, FunD.bindsN Fp_Tracker_mask fun _ _ _ _ _ _ us hl => match us, hl with | [_], _ => rfl⟩
  have A_Tracker_seen : FdP P w K mg base 2 (He.ga K "Tracker") "seen" ["self"] (spT K (He.ga K "Tracker") pre_t0 (post_t0 g_seen)) := ⟨_, _, _, ft_p_seen (k := 1) Fp_Tracker_seen cls_Tracker nf_Tracker_told, k_pTracker_seen, FunD.bindsN Fp_Tracker_seen fun _ _ _ _ _ _ us hl => match us, hl with | [_], _ => rfl⟩
  have A_Tracker_starts : FdM P w K mg base 1 (He.ga K "Tracker") "starts" ["self"] (spT K (He.ga K "Tracker") pre_t0 (post_t0 g_starts)) := ⟨_, _, ft_starts (k := 0) Fm_Tracker_starts G cls_Tracker nf_Tracker_stood, meth_Tracker_starts, FunD.bindsN Fm_Tracker_starts fun _ _ _ _ _ _ us hl => match us, hl with | [_], _ => rfl⟩
  have A_Tracker_places : FdM P w K mg base 1 (He.ga K "Tracker") "places" ["self"] (spT K (He.ga K "Tracker") pre_t0 (post_t0 g_places)) := ⟨_, _, ft_places (k := 0) Fm_Tracker_places G cls_Tracker nf_Tracker_told nf_Tracker_stood, meth_Tracker_places, FunD.bindsN Fm_Tracker_places fun _ _ _ _ _ _ us hl => match us, hl with | [_], _ => rfl⟩
  have A_Tracker___len__ : FdM P w K mg base 2 (He.ga K "Tracker") "__len__" ["self"] (spT K (He.ga K "Tracker") pre_t0 (post_t0 g_len)) := ⟨_, _, ft_len (k := 1) Fm_Tracker___len__ G cls_Tracker nf_Tracker_told, meth_Tracker___len__, FunD.bindsN Fm_Tracker___len__ fun _ _ _ _ _ _ us hl => match us, hl with | [_], _ => rfl⟩
  have A__law_is_tracker : Fd P w K mg base 4 "_law_is_tracker" ["_law_tracker", "_law_line_here", "_law_mask_here", "_law_looks"] (spT K (He.ga K "Tracker") pre_ist post_ist) := ⟨_, _, fd_law_is_tracker (k := 3) F__law_is_tracker rfl G cls_Tracker (A__law_starts.mono (by decide)) (A_Tracker_row.mono (by decide)) (A_Tracker_mask.mono (by decide)) (A_Tracker_seen.mono (by decide)) (A_Tracker_starts.mono (by decide)) (A_Tracker_places.mono (by decide)) (A_Tracker___len__.mono (by decide)), g__law_is_tracker, FunD.kp F__law_is_tracker, FunD.bindsN F__law_is_tracker fun _ _ _ _ _ _ us hl => match us, hl with | [_, _, _, _], _ => rfl⟩
  have A_is_row : Fd P w K mg base 1 "is_row" ["value"] (spR K R_is_row) := ⟨_, _, fd_is_row (k := 0) F_is_row G k_LETTERS k_MOST_ROW, g_is_row, FunD.kp F_is_row, FunD.bindsN F_is_row fun _ _ _ _ _ _ us hl => match us, hl with | [_], _ => rfl⟩
  have A_need_row : Fd P w K mg base 2 "need_row" ["row"] (spR K R_need_row) := ⟨_, _, fd_need_row (k := 1) F_need_row (A_is_row.mono (by decide)), g_need_row, FunD.kp F_need_row, FunD.bindsN F_need_row fun _ _ _ _ _ _ us hl => match us, hl with | [_], _ => rfl⟩
  have A_is_mask : Fd P w K mg base 1 "is_mask" ["value"] (spR K R_is_mask) := ⟨_, _, fd_is_mask (k := 0) F_is_mask G k_SEEN k_HOLE k_MOST_MASK, g_is_mask, FunD.kp F_is_mask, FunD.bindsN F_is_mask fun _ _ _ _ _ _ us hl => match us, hl with | [_], _ => rfl⟩
  have A_need_mask : Fd P w K mg base 2 "need_mask" ["mask"] (spR K R_need_mask) := ⟨_, _, fd_need_mask (k := 1) F_need_mask (A_is_mask.mono (by decide)), g_need_mask, FunD.kp F_need_mask, FunD.bindsN F_need_mask fun _ _ _ _ _ _ us hl => match us, hl with | [_], _ => rfl⟩
  have A_Tracker : MkT P w K mg base 4 (He.ga K "Tracker") "Tracker" ["self", "row", "mask"] (spT K (He.ga K "Tracker") pre_init post_init) := ⟨_, _, 3, by decide, g_Tracker, mk_Tracker, ft_init (k := 2) Fm_Tracker___init__ G cls_Tracker nf_Tracker_line nf_Tracker_shape nf_Tracker_told nf_Tracker_stood (A_need_row.mono (by decide)) (A_need_mask.mono (by decide)), FunD.bindsN Fm_Tracker___init__ fun _ _ _ _ _ _ us hl => match us, hl with | [_, _, _], _ => rfl⟩
  have A_Tracker_undo : FdM P w K mg base 1 (He.ga K "Tracker") "undo" ["self"] (spT K (He.ga K "Tracker") pre_t0 post_undo) := ⟨_, _, ft_undo (k := 0) Fm_Tracker_undo G cls_Tracker nf_Tracker_told nf_Tracker_stood, meth_Tracker_undo, FunD.bindsN Fm_Tracker_undo fun _ _ _ _ _ _ us hl => match us, hl with | [_], _ => rfl⟩
  have A_Tracker_copy : FdM P w K mg base 5 (He.ga K "Tracker") "copy" ["self"] (spC K (He.ga K "Tracker") pre_copy) := ⟨_, _, ft_copy (k := 4) Fm_Tracker_copy cls_Tracker nf_Tracker_line nf_Tracker_shape nf_Tracker_told nf_Tracker_stood (A_Tracker.mono (by decide)), meth_Tracker_copy, FunD.bindsN Fm_Tracker_copy fun _ _ _ _ _ _ us hl => match us, hl with | [_], _ => rfl⟩
  exact fd_the_law (k := 5) F_law G cls_Tracker (A__law_taken.mono (by decide)) (A__law_mask.mono (by decide)) (A__law_line.mono (by decide)) (A__law_look.mono (by decide)) (A__law_odd_look.mono (by decide)) (A__law_views.mono (by decide)) (A__law_starts.mono (by decide)) (A__law_seen.mono (by decide)) (A__law_seen_B.mono (by decide)) (A__law_is_tracker.mono (by decide)) (A_Tracker.mono (by decide)) (A_Tracker_undo.mono (by decide)) (A_Tracker_copy.mono (by decide))
end HW
open PySem PySem.W PySem.Calls PyProof.Rows
theorem PySem.Challenge.cw_holedwindows_k22_whole_trackers_holds : PySem.Challenge.rw_holedwindows_k22_whole_trackers.Holds := by
  w_on; o_law
  refine HandSHeadRun.head_any (r := OpenLaw.row PySem.Challenge.rw_holedwindows_k22_whole_trackers) (q := view (OpenLaw.row PySem.Challenge.rw_holedwindows_k22_whole_trackers).prog [37]) (H := Tx.hk) (ob := Tx.ob) (M := 12000) (loose := Tx.names) (d := HandSHeadRun.topDef (OpenLaw.row PySem.Challenge.rw_holedwindows_k22_whole_trackers).prog 37) (kwd := []) Tx.ob_eq
    (by kernel_rfl) (fun s => by kernel_rfl) Tx.run (by kernel_rfl) (by kernel_rfl) (by kernel_rfl) (by rfl) (by first | assumption | decide +kernel) (by decide +kernel) ⟨rfl, rfl, rfl, rfl, rfl, by decide +kernel⟩ ?hw ?hc
  case hw => w_witness2
  case hc =>
    refine L2.walk_ofE (l := PySem.Challenge.rw_holedwindows_k22_whole_trackers) (n := 63) (k := 6) (x := "_law_script") (CX := L2.CX0) rfl (by decide) (by kernel_rfl) ⟨rfl, by decide, by decide⟩ ?F (fun _ _ _ _ z => z)
    intro w mg fa h Y G hmg0
    obtain ⟨K, KX, c, cx, cp⟩ := Y
    have hmg : mg ("law" : PySem.Str) = some (.ref fa) := by
      have e : (HandSHeadRun.topDef (OpenLaw.row PySem.Challenge.rw_holedwindows_k22_whole_trackers).prog 37).name = ("law" : PySem.Str) := by kernel_rfl
      rw [← e]
      exact hmg0
    obtain ⟨fd, hb, hF⟩ := HW.facts (P := (PySem.Challenge.rw_holedwindows_k22_whole_trackers).prog) (w := w) KX G hmg c cx cp
    exact ⟨K, fd, HW.spLaw K, KX, hb, fun H a ns hl _ hS => ⟨a, ns, rfl, hl, hS, fun _ => rfl⟩, hF⟩

