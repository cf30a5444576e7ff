import PyProof.Rows.All
import Wide.All
import OpenK.AllK
import Wide.FinOn
import KE.KStateDown
import HandS.ForMost
import HandS.Head0
import HandS.Head1
import HandS.Head2
import HandS.HeadEnd
import HandS.HeadHook1
import HandS.HeadHook2
import HandS.Defaults
import HandS.Codes
import HandS.IsInst
import KE.GoesEnum
import HandS.Strs
import HandS.Zip
import HandS.TupAny
import HandS.TupMul
import PyProof.StrOps2
import HandS.NoneIn
import HandS.Style
import KE.KRevSl
import HandS.Replace
import KE.DataMinMax
import KE.SortData
import KE.DataCmp
import HandS.Flow
import HandS.Wide
import HandS.Set
import HandS.SetFor
import HandS.ExcInit
import HandS.ExcField
import HandS.TryOnly
import HandS.TryMany
import HandS.WordsExc
import HandS.ClsMeth
import HandS.Iter
import PyProof.SeqIndex
import HandS.TupSets
import PyProof.StrLawsChain
import PySem.Challenge.RW_holedwindows_k23_texts
set_option Elab.async false
set_option linter.all false
set_option maxRecDepth 100000
set_option maxHeartbeats 4000000
namespace HX
open PySem PySem.Spec PyProof.Rows L2 He
/-! the head's Hook with one more question ex -/
abbrev AlE : Type := AlD × Bool
end HX
set_option maxHeartbeats 4000000
/-! A layer of my own over HandS: expressions that evaluate to plain data, statements over a state of data. -/
namespace HW
open PySem PySem.Spec PyProof.Rows L2
/-! ### heaps -/
/-- the heap without the addresses of L -/
def off (L : List Addr) (H : Hp) : Hp := fun a => if a ∈ L then none else H a
theorem off_in {L : List Addr} {H : Hp} {a : Addr} (h : a ∈ L) : off L H a = none := if_pos h
theorem off_out {L : List Addr} {H : Hp} {a : Addr} (h : a ∉ L) : off L H a = H a := if_neg h
theorem off_some {L : List Addr} {H : Hp} {a : Addr} {o : HO} (h : off L H a = some o) : a ∉ L ∧ H a = some o := by
  by_cases q : a ∈ L
  · rw [off_in q] at h; cases h
  · rw [off_out q] at h; exact ⟨q, h⟩
/-- H' keeps all that H has but at L -/
def XT (L : List Addr) (H H' : Hp) : Prop := ∀ a o, off L H a = some o → off L H' a = some o
theorem XT.refl {L : List Addr} {H : Hp} : XT L H H := fun _ _ h => h
theorem XT.trans {L : List Addr} {H H1 H2 : Hp} (a : XT L H H1) (b : XT L H1 H2) : XT L H H2 := fun x o h => b x o (a x o h)
theorem XT.same {L : List Addr} {H H' : Hp} (e : Same H H') : XT L H H' := fun a o h => by
  obtain ⟨h1, h2⟩ := off_some h
  rw [off_out h1]
  exact e a o h2
theorem same_off {L : List Addr} {H : Hp} : Same (off L H) H := fun _ _ h => (off_some h).2
theorem same_offs {L L' : List Addr} {H : Hp} (h : ∀ a ∈ L', a ∈ L) : Same (off L H) (off L' H) := fun a o e => by
  obtain ⟨h1, h2⟩ := off_some e
  rw [off_out (fun q => h1 (h a q))]
  exact h2

/-! ### data -/
mutual
/-- no dict within -/
def nod : PyData → Bool
  | .dict _ => false
  | .list xs => nodAll xs
  | .tuple xs => nodAll xs
  | _ => true
def nodAll : List PyData → Bool
  | [] => true
  | x :: xs => nod x && nodAll xs
end
mutual
theorem nod_of_lay : ∀ {d : PyData}, d.canLay0 = true → nod d = true
  | .none, _ => rfl
  | .bool _, _ => rfl
  | .int _, _ => rfl
  | .str _, _ => rfl
  | .list xs, h => nodAll_of_lay (xs := xs) h
  | .tuple xs, h => nodAll_of_lay (xs := xs) h
  | .dict _, h => nomatch h
theorem nodAll_of_lay : ∀ {xs : List PyData}, PyData.canLayAll0 xs = true → nodAll xs = true
  | [], _ => rfl
  | x :: xs, h => by
    have q : x.canLay0 = true ∧ PyData.canLayAll0 xs = true := by simpa [PyData.canLayAll0] using h
    show (nod x && nodAll xs) = true
    rw [nod_of_lay q.1, nodAll_of_lay q.2]
    rfl
end
/-- a key as data -/
def kD : L2.Key → PyData
  | .inl i => .int i
  | .inr x => .str x
/-- a locked dict as data: its keys are numbers and texts, or tuples of them -/
abbrev dkD (kvs : List (PyData × PyData)) : PyData := .dict ((.none, .none) :: kvs)
abbrev dtD (kvs : List (PyData × PyData)) : PyData := .dict ((.bool true, .none) :: kvs)
mutual
/-- the value v is the data d -/
inductive Va (K : PySem.W.Frag) (H : Hp) : V → PyData → Prop
  | non : Va K H .non .none
  | bl (b : Bool) : Va K H (.bl b) (.bool b)
  | int (i : Int) : Va K H (.int i) (.int i)
  | str (x : Str) : Va K H (.str x) (.str x)
  | lst {a : Addr} {xs : List V} {ds : List PyData} : H a = some (.lst xs) → VaAll K H xs ds → Va K H (.ref a) (.list ds)
  | tup {a : Addr} {xs : List V} {ds : List PyData} : SqT K H a xs → VaAll K H xs ds → Va K H (.ref a) (.tuple ds)
  | dct {a : Addr} : H a = some (.dK []) → Va K H (.ref a) (.dict [])
  | ptr (a : Addr) : Va K H (.ref a) (.dict [(.int a, .none)])
  | dcf {a : Addr} {o : Obj} {ks : List (Key × V)} {ds : List PyData} {kvs : List (PyData × PyData)} : H a = some (.frz o (.dK ks)) → VaAll K H (ks.map (·.2)) ds → kvs = (ks.map fun p => kD p.1).zip ds → Va K H (.ref a) (dkD kvs)
  | dtf {a : Addr} {o : Obj} {ks : List (List Key × V)} {ds : List PyData} {kvs : List (PyData × PyData)} : H a = some (.frz o (.dT ks)) → VaAll K H (ks.map (·.2)) ds → kvs = (ks.map fun p => PyData.tuple (p.1.map kD)).zip ds → Va K H (.ref a) (dtD kvs)
inductive VaAll (K : PySem.W.Frag) (H : Hp) : List V → List PyData → Prop
  | nil : VaAll K H [] []
  | cons {v : V} {vs : List V} {d : PyData} {ds : List PyData} : Va K H v d → VaAll K H vs ds → VaAll K H (v :: vs) (d :: ds)
end
section
variable {K : PySem.W.Frag} {H H' : Hp}
theorem SqT.up {a : Addr} {xs : List V} (e : Same H H') (h : SqT K H a xs) : SqT K H' a xs := by
  rcases h with (h | ⟨o, h⟩) | h
  · exact .inl (.inl (e _ _ h))
  · exact .inl (.inr ⟨o, e _ _ h⟩)
  · exact .inr h
mutual
theorem Va.up (e : Same H H') : ∀ {v : V} {d : PyData}, Va K H v d → Va K H' v d
  | _, _, .non => .non
  | _, _, .bl b => .bl b
  | _, _, .int i => .int i
  | _, _, .str x => .str x
  | _, _, .lst h hs => .lst (e _ _ h) (VaAll.up e hs)
  | _, _, .tup h hs => .tup (SqT.up e h) (VaAll.up e hs)
  | _, _, .dct h => .dct (e _ _ h)
  | _, _, .ptr a => .ptr a
  | _, _, .dcf h hs q => .dcf (e _ _ h) (VaAll.up e hs) q
  | _, _, .dtf h hs q => .dtf (e _ _ h) (VaAll.up e hs) q
theorem VaAll.up (e : Same H H') : ∀ {vs : List V} {ds : List PyData}, VaAll K H vs ds → VaAll K H' vs ds
  | _, _, .nil => .nil
  | _, _, .cons h hs => .cons (Va.up e h) (VaAll.up e hs)
end
mutual
theorem Va.dp : ∀ {v : V} {d : PyData}, Va K H v d → nod d = true → Dp K H v d
  | _, _, .non, _ => .non
  | _, _, .bl b, _ => .bl b
  | _, _, .int i, _ => .int i
  | _, _, .str x, _ => .str x
  | _, _, .lst h hs, n => .lst (SqL.of h) (VaAll.dp hs n)
  | _, _, .tup h hs, n => .tup h (VaAll.dp hs n)
  | _, _, .dct _, n => nomatch n
  | _, _, .ptr _, n => nomatch n
  | _, _, .dcf _ _ _, n => nomatch n
  | _, _, .dtf _ _ _, n => nomatch n
theorem VaAll.dp : ∀ {vs : List V} {ds : List PyData}, VaAll K H vs ds → nodAll ds = true → DpAll K H vs ds
  | _, _, .nil, _ => .nil
  | _, _, .cons h hs, n => by
    obtain ⟨n1, n2⟩ := Bool.and_eq_true_iff.mp n
    exact .cons (Va.dp h n1) (VaAll.dp hs n2)
end
theorem VaAll.length : ∀ {vs : List V} {ds : List PyData}, VaAll K H vs ds → vs.length = ds.length
  | _, _, .nil => rfl
  | _, _, .cons _ hs => by rw [List.length_cons, List.length_cons, VaAll.length hs]
theorem VaAll.get : ∀ {vs : List V} {ds : List PyData} {i : Nat} {v : V}, VaAll K H vs ds → vs[i]? = some v → ∃ d, ds[i]? = some d ∧ Va K H v d
  | _, _, i, _, .nil, e => by simp at e
  | _, _, 0, _, .cons h _, e => by
    have e : _ = _ := Option.some.inj e
    subst e
    exact ⟨_, rfl, h⟩
  | _, _, i + 1, v, .cons _ hs, e => by
    obtain ⟨d, h1, h2⟩ := VaAll.get (i := i) (v := v) hs (by simpa using e)
    exact ⟨d, by simpa using h1, h2⟩
theorem VaAll.at : ∀ {vs : List V} {ds : List PyData} {i : Nat} {d : PyData}, VaAll K H vs ds → ds[i]? = some d → ∃ v, vs[i]? = some v ∧ Va K H v d
  | _, _, i, _, .nil, e => by simp at e
  | _, _, 0, _, .cons h _, e => by
    have e : _ = _ := Option.some.inj e
    subst e
    exact ⟨_, rfl, h⟩
  | _, _, i + 1, d, .cons _ hs, e => by
    obtain ⟨v, h1, h2⟩ := VaAll.at (i := i) (d := d) hs (by simpa using e)
    exact ⟨v, by simpa using h1, h2⟩
theorem VaAll.app : ∀ {vs ws : List V} {ds es : List PyData}, VaAll K H vs ds → VaAll K H ws es → VaAll K H (vs ++ ws) (ds ++ es)
  | _, _, _, _, .nil, s => s
  | _, _, _, _, .cons h hs, s => .cons h (VaAll.app hs s)
theorem VaAll.take : ∀ {vs : List V} {ds : List PyData} (n : Nat), VaAll K H vs ds → VaAll K H (vs.take n) (ds.take n)
  | _, _, 0, _ => .nil
  | _, _, _ + 1, .nil => .nil
  | _, _, n + 1, .cons h hs => .cons h (VaAll.take n hs)
theorem VaAll.drop : ∀ {vs : List V} {ds : List PyData} (n : Nat), VaAll K H vs ds → VaAll K H (vs.drop n) (ds.drop n)
  | _, _, 0, r => r
  | _, _, _ + 1, .nil => .nil
  | _, _, n + 1, .cons _ hs => VaAll.drop n hs
theorem VaAll.ints : ∀ {vs : List V} {ns : List Int}, VaAll K H vs (ns.map PyData.int) → vs = ns.map V.int
  | _, [], h => by cases h; rfl
  | _, n :: ns, h => by
    cases h with
    | cons h hs => cases h; rw [VaAll.ints hs]; rfl
theorem VaAll.bls : ∀ {vs : List V} {bs : List Bool}, VaAll K H vs (bs.map PyData.bool) → vs = bs.map V.bl
  | _, [], h => by cases h; rfl
  | _, n :: ns, h => by
    cases h with
    | cons h hs => cases h; rw [VaAll.bls hs]; rfl
theorem VaAll.strs : ∀ {vs : List V} {xs : List Str}, VaAll K H vs (xs.map PyData.str) → vs = xs.map V.str
  | _, [], h => by cases h; rfl
  | _, n :: ns, h => by
    cases h with
    | cons h hs => cases h; rw [VaAll.strs hs]; rfl
end
/-! ### the state: slots of data, local mutable objects, the world around -/
inductive DV where
  | no | d (x : PyData) | r (a : Addr)
inductive MO where
  | lst (ds : List PyData) | dK (kvs : List (Key × PyData)) | dT (kvs : List (List Key × PyData))
abbrev Mu := List (Addr × MO)
/-- H0: all that must stay; M: hidden objects (the callers' mutable ones); row: the draws' row, its script -/
structure Wd where
  H0 : Hp
  M : List Addr
  row : Option (Addr × Addr × List Int)
def RowC (H : Hp) (r scr : Addr) : Prop := ∃ i s q : Int, H r = some (.lst [.ref scr, .int i, .int s, .int q]) ∧ 0 ≤ i
def Wd.isRow (W : Wd) (a : Addr) : Prop := ∃ scr ns, W.row = some (a, scr, ns)
structure Fr (W : Wd) (H : Hp) : Prop where
  keep : ∀ a o, ¬ W.isRow a → W.H0 a = some o → H a = some o
  row : ∀ r scr ns, W.row = some (r, scr, ns) → RowC H r scr
structure WdOk (K : PySem.W.Frag) (W : Wd) : Prop where
  hid : ∀ a ∈ W.M, W.H0 a ≠ none
  row : ∀ r scr ns, W.row = some (r, scr, ns) → r ∈ W.M ∧ SqL K W.H0 scr (ns.map V.int) ∧ scr ≠ r ∧ ns.length ≤ 63
def SltR (K : PySem.W.Frag) (H : Hp) : Option V → DV → Prop
  | _, .no => True
  | o, .d d => ∃ v, o = some v ∧ Va K H v d
  | o, .r a => o = some (.ref a)
structure Slots (K : PySem.W.Frag) (H : Hp) (σ : L2.St) (Γ : List DV) : Prop where
  len : σ.length = Γ.length
  at_ : ∀ (i : Nat) (dv : DV), Γ[i]? = some dv → ∃ o, σ[i]? = some o ∧ SltR K H o dv
def MOk (K : PySem.W.Frag) (Ho H : Hp) (a : Addr) : MO → Prop
  | .lst ds => ∃ xs, H a = some (.lst xs) ∧ VaAll K Ho xs ds
  | .dK kvs => ∃ ks : List (Key × V), H a = some (.dK ks) ∧ Paired (fun (p : Key × V) (q : Key × PyData) => p.1 = q.1 ∧ Va K Ho p.2 q.2) ks kvs
  | .dT kvs => ∃ ks : List (List Key × V), H a = some (.dT ks) ∧ Paired (fun (p : List Key × V) (q : List Key × PyData) => p.1 = q.1 ∧ Va K Ho p.2 q.2) ks kvs
abbrev hd (W : Wd) (μ : Mu) : List Addr := W.M ++ μ.map (·.1)
structure Rep (K : PySem.W.Frag) (W : Wd) (Γ : List DV) (μ : Mu) (σ : L2.St) (H : Hp) : Prop where
  wd : WdOk K W
  fr : Fr W H
  sl : Slots K (off (hd W μ) H) σ Γ
  mu : ∀ p ∈ μ, W.H0 p.1 = none ∧ MOk K (off (hd W μ) H) H p.1 p.2
  nd : (μ.map (·.1)).Nodup
section
variable {K : PySem.W.Frag} {H H' Ho Ho' : Hp} {W : Wd} {Γ : List DV} {μ : Mu} {σ : L2.St}
theorem SltR.up (e : Same H H') {o : Option V} {dv : DV} (h : SltR K H o dv) : SltR K H' o dv := by
  cases dv with
  | no => trivial
  | d x => obtain ⟨v, e1, e2⟩ := h; exact ⟨v, e1, e2.up e⟩
  | r a => exact h
theorem Slots.up (e : Same H H') (h : Slots K H σ Γ) : Slots K H' σ Γ := ⟨h.len, fun i dv q => by
  obtain ⟨o, h1, h2⟩ := h.at_ i dv q
  exact ⟨o, h1, h2.up e⟩⟩
theorem Slots.set (h : Slots K H σ Γ) (i : Nat) {v : V} {d : PyData} (r : Va K H v d) : Slots K H (σ.set i (some v)) (Γ.set i (.d d)) := ⟨by rw [List.length_set, List.length_set, h.len], fun j dv q => by
  by_cases hj : j = i
  · subst hj
    have hl : j < Γ.length := by
      have := (List.getElem?_eq_some_iff.mp q).1
      simpa using this
    rw [List.getElem?_set_self hl] at q
    cases q
    exact ⟨_, List.getElem?_set_self (by rw [h.len]; exact hl), v, rfl, r⟩
  · rw [List.getElem?_set_ne (Ne.symm hj)] at q ⊢
    exact h.at_ j dv q⟩
theorem Slots.setr (h : Slots K H σ Γ) (i : Nat) {a : Addr} : Slots K H (σ.set i (some (.ref a))) (Γ.set i (.r a)) := ⟨by rw [List.length_set, List.length_set, h.len], fun j dv q => by
  by_cases hj : j = i
  · subst hj
    have hl : j < Γ.length := by
      have := (List.getElem?_eq_some_iff.mp q).1
      simpa using this
    rw [List.getElem?_set_self hl] at q
    cases q
    exact ⟨_, List.getElem?_set_self (by rw [h.len]; exact hl), rfl⟩
  · rw [List.getElem?_set_ne (Ne.symm hj)] at q ⊢
    exact h.at_ j dv q⟩
theorem Slots.no (h : Slots K H σ Γ) (i : Nat) {x : Option V} : Slots K H (σ.set i x) (Γ.set i .no) := ⟨by rw [List.length_set, List.length_set, h.len], fun j dv q => by
  by_cases hj : j = i
  · subst hj
    have hl : j < Γ.length := by
      have := (List.getElem?_eq_some_iff.mp q).1
      simpa using this
    rw [List.getElem?_set_self hl] at q
    cases q
    exact ⟨_, List.getElem?_set_self (by rw [h.len]; exact hl), trivial⟩
  · rw [List.getElem?_set_ne (Ne.symm hj)] at q ⊢
    exact h.at_ j dv q⟩
theorem pmp {α β : Type} {F G : α → β → Prop} : ∀ {l₁ : List α} {l₂ : List β}, Paired F l₁ l₂ → (∀ a b, F a b → G a b) → Paired G l₁ l₂
  | _, _, .nil, _ => .nil
  | _, _, .cons r t, f => .cons (f _ _ r) (pmp t f)
theorem MOk.up (e : Same Ho Ho') {a : Addr} (e2 : ∀ o, H a = some o → H' a = some o) {m : MO} (h : MOk K Ho H a m) : MOk K Ho' H' a m := by
  cases m with
  | lst ds => obtain ⟨xs, h1, h2⟩ := h; exact ⟨xs, e2 _ h1, h2.up e⟩
  | dK kvs => obtain ⟨xs, h1, h2⟩ := h; exact ⟨xs, e2 _ h1, pmp h2 fun _ _ z => ⟨z.1, z.2.up e⟩⟩
  | dT kvs => obtain ⟨xs, h1, h2⟩ := h; exact ⟨xs, e2 _ h1, pmp h2 fun _ _ z => ⟨z.1, z.2.up e⟩⟩
theorem MOk.ne {a : Addr} {m : MO} (h : MOk K Ho H a m) : H a ≠ none := by
  cases m with
  | lst ds => obtain ⟨xs, h1, h2⟩ := h; rw [h1]; simp
  | dK kvs => obtain ⟨xs, h1, h2⟩ := h; rw [h1]; simp
  | dT kvs => obtain ⟨xs, h1, h2⟩ := h; rw [h1]; simp
theorem Fr.dom (h : Fr W H) {a : Addr} (q : W.H0 a ≠ none) : H a ≠ none := by
  by_cases hr : W.isRow a
  · obtain ⟨scr, ns, e⟩ := hr
    obtain ⟨i, s, q, e1, _⟩ := h.row _ _ _ e
    rw [e1]; simp
  · cases e : W.H0 a with
    | none => exact absurd e q
    | some o => rw [h.keep a o hr e]; simp
theorem Fr.same (h : Fr W H) (e : Same H H') : Fr W H' := ⟨fun a o n q => e a o (h.keep a o n q), fun r scr ns q => by
  obtain ⟨i, s, z, e1, e2⟩ := h.row r scr ns q
  exact ⟨i, s, z, e _ _ e1, e2⟩⟩
theorem Rep.ne (R : Rep K W Γ μ σ H) : ∀ a ∈ hd W μ, H a ≠ none := fun a ha => by
  rcases List.mem_append.mp ha with h | h
  · exact R.fr.dom (R.wd.hid a h)
  · obtain ⟨p, hp, rfl⟩ := List.mem_map.mp h
    exact (R.mu p hp).2.ne
/-- all is kept -/
theorem Rep.same (R : Rep K W Γ μ σ H) (e : Same H H') : Rep K W Γ μ σ H' :=
  ⟨R.wd, R.fr.same e, R.sl.up (XT.same e), fun p hp => ⟨(R.mu p hp).1, (R.mu p hp).2.up (XT.same e) (e _)⟩, R.nd⟩
/-- a new object is no hidden one -/
theorem new_out {L : List Addr} (hL : ∀ a ∈ L, H a ≠ none) {p : Addr} (hp : H p = none) : p ∉ L := fun q => hL p q hp
theorem same_new {p : Addr} {o : HO} (hp : H p = none) : Same H (upd H p o) := fun b u e => by
  rw [upd_ne (ne_of_none e hp)]
  exact e
theorem off_upd {L : List Addr} {p : Addr} {o : HO} (h : p ∉ L) : off L (upd H p o) p = some o := by rw [off_out h, upd_same]

/-- the world grows: what stands now must stay -/
structure Wle (W W' : Wd) : Prop where
  m : ∀ a ∈ W.M, a ∈ W'.M
  row : W'.row = W.row
  keep : ∀ a o, ¬ W.isRow a → W.H0 a = some o → W'.H0 a = some o
theorem Wle.refl {W : Wd} : Wle W W := ⟨fun _ h => h, rfl, fun _ _ _ h => h⟩
theorem Wle.isRow {W W' : Wd} (l : Wle W W') (a : Addr) : W'.isRow a ↔ W.isRow a := by
  unfold Wd.isRow
  rw [l.row]
theorem Wle.trans {W W1 W2 : Wd} (a : Wle W W1) (b : Wle W1 W2) : Wle W W2 :=
  ⟨fun x h => b.m x (a.m x h), b.row.trans a.row, fun x o n h => b.keep x o (fun q => n ((a.isRow x).mp q)) (a.keep x o n h)⟩
theorem Fr.down {W W' : Wd} (l : Wle W W') (h : Fr W' H) : Fr W H :=
  ⟨fun a o n q => h.keep a o (fun z => n ((l.isRow a).mp z)) (l.keep a o n q), fun r scr ns q => h.row r scr ns (l.row.trans q)⟩
/-- from the grown world back, where the local objects are new to the smaller one -/
theorem Rep.down {W W' : Wd} (l : Wle W W') (ok : WdOk K W) (hm : ∀ p ∈ μ, W.H0 p.1 = none) (R : Rep K W' Γ μ σ H) : Rep K W Γ μ σ H := by
  have e : Same (off (hd W' μ) H) (off (hd W μ) H) := same_offs fun a ha => by
    rcases List.mem_append.mp ha with h | h
    · exact List.mem_append_left _ (l.m a h)
    · exact List.mem_append_right _ h
  exact ⟨ok, R.fr.down l, R.sl.up e, fun p hp => ⟨hm p hp, (R.mu p hp).2.up e fun _ z => z⟩, R.nd⟩
/-- the world as it stands: everything but the local objects and the row must stay -/
def Wd.now (W : Wd) (μ : Mu) (H : Hp) : Wd := { W with H0 := off (μ.map (·.1)) H }
theorem Rep.mu_new (R : Rep K W Γ μ σ H) {a : Addr} (h : W.H0 a ≠ none) : a ∉ μ.map (·.1) := fun q => by
  obtain ⟨p, hp, rfl⟩ := List.mem_map.mp q
  exact h (R.mu p hp).1
theorem Rep.now_le (R : Rep K W Γ μ σ H) : Wle W (W.now μ H) := ⟨fun _ h => h, rfl, fun a o n h => by
  have q : a ∉ μ.map (·.1) := R.mu_new (by rw [h]; simp)
  show off (μ.map (·.1)) H a = some o
  rw [off_out q]
  exact R.fr.keep a o n h⟩
theorem SqL.up {a : Addr} {xs : List V} (e : ∀ o, H a = some o → H' a = some o) (h : SqL K H a xs) : SqL K H' a xs := by
  rcases h with (h | ⟨o, h⟩) | h
  · exact .inl (.inl (e _ h))
  · exact .inl (.inr ⟨o, e _ h⟩)
  · exact .inr h
theorem Rep.now_ok (R : Rep K W Γ μ σ H) : WdOk K (W.now μ H) := ⟨fun a ha => by
  show off (μ.map (·.1)) H a ≠ none
  rw [off_out (R.mu_new (R.wd.hid a ha))]
  exact R.fr.dom (R.wd.hid a ha), fun r scr ns q => by
  obtain ⟨h1, h2, h3, h4⟩ := R.wd.row r scr ns q
  refine ⟨h1, SqL.up (fun o e => ?_) h2, h3, h4⟩
  show off (μ.map (·.1)) H scr = some o
  rw [off_out (R.mu_new (by rw [e]; simp))]
  refine R.fr.keep scr o (fun ⟨s2, n2, z⟩ => ?_) e
  have q' : W.row = some (r, scr, ns) := q
  rw [q'] at z
  cases z
  exact h3 rfl⟩
theorem Rep.now (R : Rep K W Γ μ σ H) : Rep K (W.now μ H) Γ μ σ H :=
  ⟨R.now_ok, ⟨fun a o n q => (off_some q).2, R.fr.row⟩, R.sl, fun p hp => ⟨off_in (List.mem_map.mpr ⟨p, hp, rfl⟩), (R.mu p hp).2⟩, R.nd⟩
end
end HW
set_option maxHeartbeats 4000000
namespace HW
open PySem PySem.Spec PyProof.Rows L2
/-! ### judgements -/
/-- what e wants -/
def wE (X : Cx) (e : Expr) : TE := fun σ H Q => ∀ (pins : List (Addr × Obj)) (s : Shared), Inv X pins σ H s → wpAny (model X.prog X.w) X.A (eval e X.env) (EP X pins σ Q) X.xe s
theorem wE.pe {X : Cx} {e : Expr} : PE X e (wE X e) := ⟨fun pins s _ _ _ I h => h pins s I⟩
theorem _root_.L2.PE.w {X : Cx} {e : Expr} {t : TE} (h : PE X e t) {σ : L2.St} {H : Hp} {Q : VK} (q : t σ H Q) : wE X e σ H Q := fun pins s I => h.run pins s σ H Q I q
def wA (X : Cx) (es : List Expr) : TA := fun σ H Q => ∀ (pos : Pos) (pins : List (Addr × Obj)) (s : Shared), Inv X pins σ H s → wpAny (model X.prog X.w) X.A (spliced (backTo pos (starEach es X.env))) (AP X pins σ Q) X.xe s
theorem wA.pa {X : Cx} {es : List Expr} : PA X es (wA X es) := ⟨fun pos pins s _ _ _ I h => h pos pins s I⟩
theorem _root_.L2.PA.w {X : Cx} {es : List Expr} {t : TA} (h : PA X es t) {σ : L2.St} {H : Hp} {Q : List V → Hp → Prop} (q : t σ H Q) : wA X es σ H Q := fun pos pins s I => h.run pos pins s σ H Q I q
def wT (X : Cx) (e : Expr) : TT := fun σ H Q => ∀ (pins : List (Addr × Obj)) (s : Shared), Inv X pins σ H s → wpAny (model X.prog X.w) X.A (isTrue e X.env (eval e X.env)) (TP X pins σ Q) X.xe s
theorem wT.pt {X : Cx} {e : Expr} : PT X e (wT X e) := ⟨fun pins s _ _ _ I h => h pins s I⟩
theorem _root_.L2.PT.w {X : Cx} {e : Expr} {t : TT} (h : PT X e t) {σ : L2.St} {H : Hp} {Q : Bool → Hp → Prop} (q : t σ H Q) : wT X e σ H Q := fun pins s I => h.run pins s σ H Q I q
def wS (X : Cx) (st : Stmt) : TS := fun D σ H => ∀ (pins : List (Addr × Obj)) (s : Shared), Inv X pins σ H s → wpAny (model X.prog X.w) X.A (exec st X.env) (SP X pins D) X.xe s
theorem wS.ps {X : Cx} {st : Stmt} : PS X st (wS X st) := ⟨fun pins s _ _ _ I h => h pins s I⟩
theorem _root_.L2.PS.w {X : Cx} {st : Stmt} {t : TS} (h : PS X st t) {σ : L2.St} {H : Hp} {D : Ends} (q : t D σ H) : wS X st D σ H := fun pins s I => h.run pins s σ H D I q
def wSs (X : Cx) (sts : List Stmt) : TS := fun D σ H => ∀ (pins : List (Addr × Obj)) (s : Shared), Inv X pins σ H s → wpAny (model X.prog X.w) X.A (execs sts X.env) (SP X pins D) X.xe s
theorem wSs.ps {X : Cx} {sts : List Stmt} : PSs X sts (wSs X sts) := ⟨fun pins s _ _ _ I h => h pins s I⟩
theorem _root_.L2.PSs.w {X : Cx} {sts : List Stmt} {t : TS} (h : PSs X sts t) {σ : L2.St} {H : Hp} {D : Ends} (q : t D σ H) : wSs X sts D σ H := fun pins s I => h.run pins s σ H D I q
/-- one statement, then the rest -/
theorem wSs_cons {X : Cx} {st : Stmt} {rest : List Stmt} {σ : L2.St} {H : Hp} {D : Ends} (h : wS X st { D with nx := wSs X rest D } σ H) : wSs X (st :: rest) D σ H := (pss_cons wS.ps wSs.ps).w h

/-- e gives data with P -/
def Ev (X : Cx) (W : Wd) (Γ : List DV) (μ : Mu) (e : Expr) (P : PyData → Prop) : Prop :=
  ∀ σ H, Rep X.K W Γ μ σ H → ∀ Q : VK, (∀ v d H2, Rep X.K W Γ μ σ H2 → XT (hd W μ) H H2 → Va X.K (off (hd W μ) H2) v d → P d → Q v H2) → wE X e σ H Q
def Ed (X : Cx) (W : Wd) (Γ : List DV) (μ : Mu) (e : Expr) (d : PyData) : Prop :=
  ∀ σ H, Rep X.K W Γ μ σ H → ∀ Q : VK, (∀ v H2, Rep X.K W Γ μ σ H2 → XT (hd W μ) H H2 → Va X.K (off (hd W μ) H2) v d → Q v H2) → wE X e σ H Q
def EvA (X : Cx) (W : Wd) (Γ : List DV) (μ : Mu) (es : List Expr) (P : List PyData → Prop) : Prop :=
  ∀ σ H, Rep X.K W Γ μ σ H → ∀ Q : List V → Hp → Prop, (∀ vs ds H2, Rep X.K W Γ μ σ H2 → XT (hd W μ) H H2 → VaAll X.K (off (hd W μ) H2) vs ds → P ds → Q vs H2) → wA X es σ H Q
def EdA (X : Cx) (W : Wd) (Γ : List DV) (μ : Mu) (es : List Expr) (ds : List PyData) : Prop :=
  ∀ σ H, Rep X.K W Γ μ σ H → ∀ Q : List V → Hp → Prop, (∀ vs H2, Rep X.K W Γ μ σ H2 → XT (hd W μ) H H2 → VaAll X.K (off (hd W μ) H2) vs ds → Q vs H2) → wA X es σ H Q
/-- e as a test gives b; gives a b with P -/
def EdT (X : Cx) (W : Wd) (Γ : List DV) (μ : Mu) (e : Expr) (b : Bool) : Prop :=
  ∀ σ H, Rep X.K W Γ μ σ H → ∀ Q : Bool → Hp → Prop, (∀ H2, Rep X.K W Γ μ σ H2 → XT (hd W μ) H H2 → Q b H2) → wT X e σ H Q
def EvT (X : Cx) (W : Wd) (Γ : List DV) (μ : Mu) (e : Expr) (P : Bool → Prop) : Prop :=
  ∀ σ H, Rep X.K W Γ μ σ H → ∀ Q : Bool → Hp → Prop, (∀ b H2, Rep X.K W Γ μ σ H2 → XT (hd W μ) H H2 → P b → Q b H2) → wT X e σ H Q
/-- and, or: whatever the 'whole' is -/
def wW (X : Cx) (e : Expr) : TT := fun σ H Q => ∀ (whole : Sem Value) (pins : List (Addr × Obj)) (s : Shared), Inv X pins σ H s → wpAny (model X.prog X.w) X.A (isTrue e X.env whole) (TP X pins σ Q) X.xe s
theorem wW.pw {X : Cx} {e : Expr} : PW X e (wW X e) := ⟨fun whole pins s _ _ _ I h => h whole pins s I⟩
theorem _root_.L2.PW.w {X : Cx} {e : Expr} {t : TT} (h : PW X e t) {σ : L2.St} {H : Hp} {Q : Bool → Hp → Prop} (q : t σ H Q) : wW X e σ H Q := fun whole pins s I => h.run whole pins s σ H Q I q
def EdW (X : Cx) (W : Wd) (Γ : List DV) (μ : Mu) (e : Expr) (b : Bool) : Prop :=
  ∀ σ H, Rep X.K W Γ μ σ H → ∀ Q : Bool → Hp → Prop, (∀ H2, Rep X.K W Γ μ σ H2 → XT (hd W μ) H H2 → Q b H2) → wW X e σ H Q
def EvW (X : Cx) (W : Wd) (Γ : List DV) (μ : Mu) (e : Expr) (P : Bool → Prop) : Prop :=
  ∀ σ H, Rep X.K W Γ μ σ H → ∀ Q : Bool → Hp → Prop, (∀ b H2, Rep X.K W Γ μ σ H2 → XT (hd W μ) H H2 → P b → Q b H2) → wW X e σ H Q

section
variable {X : Cx} {W : Wd} {Γ : List DV} {μ : Mu} {e a b : Expr} {es : List Expr} {d x y z : PyData} {ds : List PyData} {P A B C : PyData → Prop} {pos : Pos}
theorem Ed.ev (h : Ed X W Γ μ e d) : Ev X W Γ μ e (fun z => z = d) := fun σ H R Q k => h σ H R Q fun v H2 R2 x2 r => k v d H2 R2 x2 r rfl
theorem Ed.evP (h : Ed X W Γ μ e d) (p : P d) : Ev X W Γ μ e P := fun σ H R Q k => h σ H R Q fun v H2 R2 x2 r => k v d H2 R2 x2 r p
theorem Ev.ed (h : Ev X W Γ μ e (fun z => z = d)) : Ed X W Γ μ e d := fun σ H R Q k => h σ H R Q fun v d' H2 R2 x2 r e => k v H2 R2 x2 (e ▸ r)
theorem Ev.imp (h : Ev X W Γ μ e A) (i : ∀ d, A d → B d) : Ev X W Γ μ e B := fun σ H R Q k => h σ H R Q fun v d H2 R2 x2 r p => k v d H2 R2 x2 r (i d p)
theorem Ed.to (h : Ed X W Γ μ e x) (q : x = y) : Ed X W Γ μ e y := q ▸ h
theorem EdA.ev {ds : List PyData} {P : List PyData → Prop} (h : EdA X W Γ μ es ds) (p : P ds) : EvA X W Γ μ es P := fun σ H R Q k => h σ H R Q fun v H2 R2 x2 r => k v ds H2 R2 x2 r p
theorem EdT.ev {b : Bool} {P : Bool → Prop} (h : EdT X W Γ μ e b) (p : P b) : EvT X W Γ μ e P := fun σ H R Q k => h σ H R Q fun H2 R2 x2 => k b H2 R2 x2 p
theorem EdT.to {b b' : Bool} (h : EdT X W Γ μ e b) (q : b = b') : EdT X W Γ μ e b' := q ▸ h
theorem EvT.imp {A B : Bool → Prop} (h : EvT X W Γ μ e A) (i : ∀ b, A b → B b) : EvT X W Γ μ e B := fun σ H R Q k => h σ H R Q fun b H2 R2 x2 p => k b H2 R2 x2 (i b p)

/-! ### names, constants -/
/-- a local name -/
theorem vr (i : Nat) {n : Str} (hd_ : Γ[i]? = some (.d d) := by rfl) (hN : X.N[i]? = some n := by rfl) (hv : Vis X.env.scope n := by first | exact Or.inl rfl | exact Or.inr (Or.inl rfl) | exact Or.inr (Or.inr rfl))
    (h1 : (n == ("__debug__" : Str)) = false := by decide) (h2 : (n == ("__classdict__" : Str)) = false := by decide) : Ed X W Γ μ (.Name n pos) d := fun σ H R Q k => by
  obtain ⟨o, e1, v, e2, r⟩ := R.sl.at_ i _ hd_
  subst e2
  exact (pe_var hN hv h1 h2).w ⟨v, e1, k v H R XT.refl r⟩
theorem ed_c {v : V} (h : PE X e (tC v)) (r : ∀ H, Va X.K H v d) : Ed X W Γ μ e d := fun σ H R Q k => h.w (k v H R XT.refl (r _))
theorem ed_int {i : Int} {j p} : Ed X W Γ μ (.Constant (.int i) j p) (.int i) := ed_c pe_int fun _ => .int i
theorem ed_bl {i : Bool} {j p} : Ed X W Γ μ (.Constant (.bool i) j p) (.bool i) := ed_c pe_bl fun _ => .bl i
theorem ed_non {j p} : Ed X W Γ μ (.Constant .none j p) .none := ed_c pe_non fun _ => .non
theorem ed_str {i : Str} {j p} : Ed X W Γ μ (.Constant (.str i) j p) (.str i) := ed_c pe_str fun _ => .str i
/-- a constant of the module -/
theorem ed_gstr {n z : Str} (hm : ∃ t, X.mg n = some (.str z t)) (hg : Gl X n := by rfl) (h1 : (n == ("__debug__" : Str)) = false := by decide) : Ed X W Γ μ (.Name n pos) (.str z) := by
  obtain ⟨t, hm⟩ := hm
  exact ed_c (pe_glob hg hm (v := .str z) ⟨t, rfl⟩ h1) fun _ => .str z
theorem ed_gint {n : Str} {z : Int} (hm : ∃ t, X.mg n = some (.int z t)) (hg : Gl X n := by rfl) (h1 : (n == ("__debug__" : Str)) = false := by decide) : Ed X W Γ μ (.Name n pos) (.int z) := by
  obtain ⟨t, hm⟩ := hm
  exact ed_c (pe_glob hg hm (v := .int z) ⟨t, rfl⟩ h1) fun _ => .int z

/-! ### two values -/
/-- on the data x and y, z comes -/
def rD (K : PySem.W.Frag) (x y z : PyData) : R2 := fun a b H Q => ∃ L : List Addr, (∀ l ∈ L, H l ≠ none) ∧ Va K (off L H) a x ∧ Va K (off L H) b y ∧ ∀ v H2, Same H H2 → Va K (off L H2) v z → Q v H2
def OpD (X : Cx) (f : Value → Value → Sem Value) (x y z : PyData) : Prop := OpR X f (rD X.K x y z)
theorem OpR.to {f : Value → Value → Sem Value} {r r' : R2} (h : OpR X f r) (i : ∀ a b H Q, r' a b H Q → r a b H Q) : OpR X f r' := fun pins s σ H x y v u Q I rx ry q => h pins s σ H x y v u Q I rx ry (i _ _ _ _ q)
theorem bin_ev {r : V → V → Hp → VK → Prop} (ha : Ev X W Γ μ a A) (hb : Ev X W Γ μ b B) (hz : ∀ x y, A x → B y → ∃ z, C z ∧ ∀ va vb H Q, rD X.K x y z va vb H Q → r va vb H Q) {σ : L2.St} {H : Hp} (R : Rep X.K W Γ μ σ H) {Q : VK}
    (k : ∀ v d H2, Rep X.K W Γ μ σ H2 → XT (hd W μ) H H2 → Va X.K (off (hd W μ) H2) v d → C d → Q v H2) :
    wE X a σ H fun va H1 => wE X b σ H1 fun vb H2 => r va vb H2 Q := by
  refine ha σ H R _ fun va x H1 R1 e1 r1 p1 => hb σ H1 R1 _ fun vb y H2 R2 e2 r2 p2 => ?_
  obtain ⟨z, pz, hr⟩ := hz x y p1 p2
  exact hr _ _ _ _ ⟨hd W μ, R2.ne, r1.up e2, r2, fun v H3 e3 r3 => k v z H3 (R2.same e3) ((e1.trans e2).trans (XT.same e3)) r3 pz⟩
def rAny (X : Cx) (f : Value → Value → Sem Value) : R2 := fun va vb H Q => ∃ x y z, OpD X f x y z ∧ rD X.K x y z va vb H Q
theorem rAny.ok {f : Value → Value → Sem Value} : OpR X f (rAny X f) := fun pins s σ H x y v u Q I rx ry ⟨_, _, _, o, q⟩ => o pins s σ H x y v u Q I rx ry q
def IxD (X : Cx) (x y z : PyData) : Prop := IxR X (rD X.K x y z)
def rAnyI (X : Cx) : R2 := fun va vb H Q => ∃ x y z, IxD X x y z ∧ rD X.K x y z va vb H Q
theorem rAnyI.ok : IxR X (rAnyI X) := fun e1 e2 pins s σ H x y v u Q I rx ry ⟨_, _, _, o, q⟩ hs => o e1 e2 pins s σ H x y v u Q I rx ry q hs
theorem ev_op {op : Operator} (ha : Ev X W Γ μ a A) (hb : Ev X W Γ μ b B) (hz : ∀ x y, A x → B y → ∃ z, C z ∧ OpD X (binaryOp op) x y z) : Ev X W Γ μ (.BinOp a op b pos) C := fun σ H R Q k => by
  refine (pe_op (rAny.ok (X := X)) wE.pe wE.pe).w ?_
  exact bin_ev (r := rAny X (binaryOp op)) ha hb (fun x y px py => (hz x y px py).imp fun z h => ⟨h.1, fun va vb H Q q => ⟨x, y, z, h.2, q⟩⟩) R k
theorem ed_op {op : Operator} (ha : Ed X W Γ μ a x) (hb : Ed X W Γ μ b y) (hz : OpD X (binaryOp op) x y z) : Ed X W Γ μ (.BinOp a op b pos) z :=
  (ev_op (C := fun w => w = z) ha.ev hb.ev fun _ _ e1 e2 => ⟨z, rfl, by rw [e1, e2]; exact hz⟩).ed
theorem ev_cmp {op : CmpOp} (ha : Ev X W Γ μ a A) (hb : Ev X W Γ μ b B) (hz : ∀ x y, A x → B y → ∃ z, C z ∧ OpD X (compareOp op) x y z) (hm : behindInMarks op b = false := by first | exact nomark _ | rfl) : Ev X W Γ μ (.Compare a [op] [b] pos) C := fun σ H R Q k => by
  refine (pe_cmpR (rAny.ok (X := X)) wE.pe wE.pe hm).w ?_
  exact bin_ev (r := rAny X (compareOp op)) ha hb (fun x y px py => (hz x y px py).imp fun z h => ⟨h.1, fun va vb H Q q => ⟨x, y, z, h.2, q⟩⟩) R k
theorem ed_cmp {op : CmpOp} (ha : Ed X W Γ μ a x) (hb : Ed X W Γ μ b y) (hz : OpD X (compareOp op) x y z) (hm : behindInMarks op b = false := by first | exact nomark _ | rfl) : Ed X W Γ μ (.Compare a [op] [b] pos) z :=
  (ev_cmp (C := fun w => w = z) ha.ev hb.ev (fun _ _ e1 e2 => ⟨z, rfl, by rw [e1, e2]; exact hz⟩) hm).ed
/-- a subscript -/
theorem ev_ix (ha : Ev X W Γ μ a A) (hb : Ev X W Γ μ b B) (hz : ∀ x y, A x → B y → ∃ z, C z ∧ IxD X x y z) (hs : PlainIx b := by exact fun _ _ => rfl) : Ev X W Γ μ (.Subscript a b pos) C := fun σ H R Q k => by
  refine (pe_ix (rAnyI.ok (X := X)) wE.pe wE.pe hs).w ?_
  exact bin_ev (r := rAnyI X) ha hb (fun x y px py => (hz x y px py).imp fun z h => ⟨h.1, fun va vb H Q q => ⟨x, y, z, h.2, q⟩⟩) R k
theorem ed_ix (ha : Ed X W Γ μ a x) (hb : Ed X W Γ μ b y) (hz : IxD X x y z) (hs : PlainIx b := by exact fun _ _ => rfl) : Ed X W Γ μ (.Subscript a b pos) z :=
  (ev_ix (C := fun w => w = z) ha.ev hb.ev (fun _ _ e1 e2 => ⟨z, rfl, by rw [e1, e2]; exact hz⟩) hs).ed

/-! ### tests -/
theorem et_val {k : Bool} (h : Ed X W Γ μ e (.bool k)) (he : ∀ whole, isTrue e X.env whole = (do let v ← whole; standAt e.pos; holding [v] (truthy v)) := by intro _; rfl) : EdT X W Γ μ e k := fun σ H R Q q => by
  refine (pt_val wE.pe he).w ?_
  refine h σ H R _ fun v H2 R2 e2 r => ?_
  cases r
  exact ⟨k, rfl, q H2 R2 e2⟩
end
section
variable {X : Cx} {W : Wd} {Γ : List DV} {μ : Mu} {e a b : Expr} {rest : List Expr} {pos : Pos} {x y z : PyData} {k l : Bool}
theorem tc_ev {e : Expr} {P : Bool → Prop} {A B : PyData → Prop} {op : CmpOp} (ha : Ev X W Γ μ a A) (hb : Ev X W Γ μ b B) (hz : ∀ x y, A x → B y → ∃ k, P k ∧ OpD X (compareOp op) x y (.bool k)) (hm : behindInMarks op b = false := by first | exact nomark _ | rfl) : EvT X W Γ μ (.Compare a [op] [b] pos) P := fun σ H R Q q => by
  refine (pt_cmpR (rAny.ok (X := X)) wE.pe wE.pe hm).w ?_
  refine bin_ev (r := rAny X (compareOp op)) (C := fun z => ∃ k, z = .bool k ∧ P k) ha hb (fun x y px py => ?_) R fun v d H2 R2 e2 r p => ?_
  · obtain ⟨k, pk, o⟩ := hz x y px py
    exact ⟨.bool k, ⟨k, rfl, pk⟩, fun va vb H Q q => ⟨x, y, _, o, q⟩⟩
  · obtain ⟨k, rfl, pk⟩ := p
    cases r
    exact ⟨k, rfl, q k H2 R2 e2 pk⟩
/-- a comparison as a test -/
theorem tc {op : CmpOp} (ha : Ed X W Γ μ a x) (hb : Ed X W Γ μ b y) (hz : OpD X (compareOp op) x y (.bool k)) (hm : behindInMarks op b = false := by first | exact nomark _ | rfl) : EdT X W Γ μ (.Compare a [op] [b] pos) k := fun σ H R Q q =>
  tc_ev (e := a) (P := fun z => z = k) ha.ev hb.ev (fun _ _ e1 e2 => ⟨k, rfl, by rw [e1, e2]; exact hz⟩) hm σ H R Q fun b' H2 R2 e2 p => p ▸ q H2 R2 e2
theorem t_not (h : EdT X W Γ μ a k) : EdT X W Γ μ (.UnaryOp .Not a pos) (!k) := fun σ H R Q q => (pt_not wT.pt).w (h σ H R _ fun H2 R2 e2 => q H2 R2 e2)
theorem tw_and1 (h : EdT X W Γ μ a k) : EdW X W Γ μ (.BoolOp .And [a] pos) k := fun σ H R Q q => (pw_and1 wT.pt).w (h σ H R Q q)
theorem tw_or1 (h : EdT X W Γ μ a k) : EdW X W Γ μ (.BoolOp .Or [a] pos) k := fun σ H R Q q => (pw_or1 wT.pt).w (h σ H R Q q)
theorem tw_and (h : EdT X W Γ μ a k) (h2 : k = true → EdW X W Γ μ (.BoolOp .And (b :: rest) pos) l) : EdW X W Γ μ (.BoolOp .And (a :: b :: rest) pos) (k && l) := fun σ H R Q q => (pw_and wT.pt wW.pw).w (h σ H R _ fun H2 R2 e2 => by
  cases k with
  | true => exact iteT (h2 rfl σ H2 R2 Q fun H3 R3 e3 => q H3 R3 (e2.trans e3))
  | false => exact iteF (q H2 R2 e2))
theorem tw_or (h : EdT X W Γ μ a k) (h2 : k = false → EdW X W Γ μ (.BoolOp .Or (b :: rest) pos) l) : EdW X W Γ μ (.BoolOp .Or (a :: b :: rest) pos) (k || l) := fun σ H R Q q => (pw_or wT.pt wW.pw).w (h σ H R _ fun H2 R2 e2 => by
  cases k with
  | true => exact iteT (q H2 R2 e2)
  | false => exact iteF (h2 rfl σ H2 R2 Q fun H3 R3 e3 => q H3 R3 (e2.trans e3)))
theorem EdW.t (h : EdW X W Γ μ e k) : EdT X W Γ μ e k := fun σ H R Q q => wW.pw.pt.w (h σ H R Q q)
theorem t_and (h : EdT X W Γ μ a k) (h2 : k = true → EdT X W Γ μ b l) : EdT X W Γ μ (.BoolOp .And [a, b] pos) (k && l) := (tw_and h fun e => tw_and1 (h2 e)).t
theorem t_or (h : EdT X W Γ μ a k) (h2 : k = false → EdT X W Γ μ b l) : EdT X W Γ μ (.BoolOp .Or [a, b] pos) (k || l) := (tw_or h fun e => tw_or1 (h2 e)).t
theorem EvW.t {P : Bool → Prop} (h : EvW X W Γ μ e P) : EvT X W Γ μ e P := fun σ H R Q q => wW.pw.pt.w (h σ H R Q q)
/-- .. as values -/
theorem ed_one {op} (h : Ed X W Γ μ a x) : Ed X W Γ μ (.BoolOp op [a] pos) x := fun σ H R Q q => (pe_one wE.pe).w (h σ H R Q q)
theorem ed_and (h : Ed X W Γ μ a (.bool k)) (h2 : k = true → Ed X W Γ μ (.BoolOp .And (b :: rest) pos) (.bool l)) : Ed X W Γ μ (.BoolOp .And (a :: b :: rest) pos) (.bool (k && l)) := fun σ H R Q q => (pe_and wE.pe wE.pe).w (h σ H R _ fun v H2 R2 e2 r => by
  cases r
  refine ⟨k, rfl, ?_⟩
  cases k with
  | true => exact iteT (h2 rfl σ H2 R2 Q fun v H3 R3 e3 r3 => q v H3 R3 (e2.trans e3) r3)
  | false => exact iteF (q _ H2 R2 e2 (.bl false)))
theorem ed_if {c : Expr} (h : EdT X W Γ μ c k) (h1 : k = true → Ed X W Γ μ a x) (h2 : k = false → Ed X W Γ μ b y) : Ed X W Γ μ (.IfExp c a b pos) (if k = true then x else y) := fun σ H R Q q => (pe_ifExp wT.pt wE.pe wE.pe).w (h σ H R _ fun H2 R2 e2 => by
  cases k with
  | true =>
    rw [if_pos rfl] at q
    exact iteT (h1 rfl σ H2 R2 Q fun v H3 R3 e3 r3 => q v H3 R3 (e2.trans e3) r3)
  | false =>
    rw [if_neg Bool.false_ne_true] at q
    exact iteF (h2 rfl σ H2 R2 Q fun v H3 R3 e3 r3 => q v H3 R3 (e2.trans e3) r3))
theorem ev_if {c : Expr} {A : Bool → Prop} {P : PyData → Prop} (h : EvT X W Γ μ c A) (h1 : A true → Ev X W Γ μ a P) (h2 : A false → Ev X W Γ μ b P) : Ev X W Γ μ (.IfExp c a b pos) P := fun σ H R Q q => (pe_ifExp wT.pt wE.pe wE.pe).w (h σ H R _ fun k H2 R2 e2 p => by
  cases k with
  | true => exact iteT (h1 p σ H2 R2 Q fun v d H3 R3 e3 r3 p3 => q v d H3 R3 (e2.trans e3) r3 p3)
  | false => exact iteF (h2 p σ H2 R2 Q fun v d H3 R3 e3 r3 p3 => q v d H3 R3 (e2.trans e3) r3 p3))
theorem tc_chain {c : Expr} {op op' : CmpOp} {w : PyData} (ha : Ed X W Γ μ a x) (hb : Ed X W Γ μ b y) (hc : k = true → Ed X W Γ μ c w) (hz : OpD X (compareOp op) x y (.bool k)) (hz' : OpD X (compareOp op') y w (.bool l)) (hm : lastMarks [op, op'] [b, c] = false := by with_unfolding_all rfl) :
    EdT X W Γ μ (.Compare a [op, op'] [b, c] pos) (k && l) := fun σ H R Q q => (pt_chain hz hz' wE.pe wE.pe wE.pe hm).w (ha σ H R _ fun v H2 R2 e2 r2 => hb σ H2 R2 _ fun u H3 R3 e3 r3 => ⟨hd W μ, R3.ne, r2.up e3, r3, fun t H4 e4 r4 => by
  cases r4
  refine ⟨k, rfl, ?_⟩
  have R4 := R3.same e4
  cases k with
  | true =>
    refine iteT (hc rfl σ H4 R4 _ fun t H5 R5 e5 r5 => ⟨hd W μ, R5.ne, (r3.up (XT.same e4)).up e5, r5, fun t' H6 e6 r6 => ?_⟩)
    cases r6
    exact ⟨l, rfl, q H6 (R5.same e6) ((((e2.trans e3).trans (XT.same e4)).trans e5).trans (XT.same e6))⟩
  | false => exact iteF ⟨false, rfl, q H4 R4 ((e2.trans e3).trans (XT.same e4))⟩⟩)

/-! ### arguments, calls -/
theorem ea_nil : EdA X W Γ μ [] [] := fun σ H R Q q => pa_nil.w (q [] H R XT.refl .nil)
theorem ea_cons {es : List Expr} {ds : List PyData} (h : Ed X W Γ μ e x) (hr : EdA X W Γ μ es ds) (hs : starEach (e :: es) X.env = (false, eval e X.env) :: starEach es X.env := by rfl) : EdA X W Γ μ (e :: es) (x :: ds) := fun σ H R Q q =>
  (pa_cons wE.pe wA.pa hs).w (h σ H R _ fun v H2 R2 e2 r2 => hr σ H2 R2 _ fun vs H3 R3 e3 r3 => q _ H3 R3 (e2.trans e3) (.cons (r2.up e3) r3))
theorem eva_cons {es : List Expr} {A : PyData → Prop} {As : List PyData → Prop} (h : Ev X W Γ μ e A) (hr : EvA X W Γ μ es As) (hs : starEach (e :: es) X.env = (false, eval e X.env) :: starEach es X.env := by rfl) : EvA X W Γ μ (e :: es) (fun l => ∃ x r, l = x :: r ∧ A x ∧ As r) := fun σ H R Q q =>
  (pa_cons wE.pe wA.pa hs).w (h σ H R _ fun v d H2 R2 e2 r2 p2 => hr σ H2 R2 _ fun vs ds H3 R3 e3 r3 p3 => q _ _ H3 R3 (e2.trans e3) (.cons (r2.up e3) r3) ⟨_, _, rfl, p2, p3⟩)
theorem eva_nil : EvA X W Γ μ [] (fun l => l = []) := fun σ H R Q q => pa_nil.w (q [] [] H R XT.refl .nil rfl)
/-- a tuple, a list displayed -/
theorem ed_tup {es : List Expr} {ds : List PyData} {x1} (h : EdA X W Γ μ es ds) (hl : ds.length ≤ 1000) : Ed X W Γ μ (.Tuple es x1 pos) (.tuple ds) := fun σ H R Q q =>
  (pe_tup wA.pa).w (h σ H R _ fun vs H2 R2 e2 r2 => ⟨by rw [r2.length]; exact Nat.le_trans hl (by decide), fun p hp => by
    have s := same_new (o := .tup vs) hp
    exact q _ _ (R2.same s) (e2.trans (XT.same s)) (.tup (.inl (.inl (off_upd (new_out R2.ne hp)))) (r2.up (XT.same s)))⟩)
theorem ed_lst {es : List Expr} {ds : List PyData} (h : EdA X W Γ μ es ds) (hl : ds.length ≤ 1000) : Ed X W Γ μ (.List es pos) (.list ds) := fun σ H R Q q =>
  (pe_lst wA.pa).w (h σ H R _ fun vs H2 R2 e2 r2 => ⟨by rw [r2.length]; exact Nat.le_trans hl (by decide), fun p hp => by
    have s := same_new (o := .lst vs) hp
    exact q _ _ (R2.same s) (e2.trans (XT.same s)) (.lst (off_upd (new_out R2.ne hp)) (r2.up (XT.same s)))⟩)
theorem ev_lst {es : List Expr} {As : List PyData → Prop} (h : EvA X W Γ μ es As) (hl : ∀ ds, As ds → ds.length ≤ 1000) : Ev X W Γ μ (.List es pos) (fun z => ∃ ds, z = .list ds ∧ As ds) := fun σ H R Q q =>
  (pe_lst wA.pa).w (h σ H R _ fun vs ds H2 R2 e2 r2 p2 => ⟨by rw [r2.length]; exact Nat.le_trans (hl ds p2) (by decide), fun p hp => by
    have s := same_new (o := .lst vs) hp
    exact q _ _ _ (R2.same s) (e2.trans (XT.same s)) (.lst (off_upd (new_out R2.ne hp)) (r2.up (XT.same s))) ⟨ds, rfl, p2⟩⟩)
/-- a built-in function on data -/
def rDc (K : PySem.W.Frag) (ds : List PyData) (z : PyData) : List V → Hp → VK → Prop := fun vs H Q => ∃ L : List Addr, (∀ l ∈ L, H l ≠ none) ∧ VaAll K (off L H) vs ds ∧ ∀ v H2, Same H H2 → Va K (off L H2) v z → Q v H2
def CallD (X : Cx) (f : Value) (ds : List PyData) (z : PyData) : Prop := CallR X f (rDc X.K ds z)
theorem CallR.to {f : Value} {r r' : List V → Hp → VK → Prop} (h : CallR X f r) (i : ∀ vs H Q, r' vs H Q → r vs H Q) : CallR X f r' := fun pins s σ H vs us Q I rv q => h pins s σ H vs us Q I rv (i _ _ _ q)
theorem ev_callB {n : Str} {id : String} {es : List Expr} {As : List PyData → Prop} {C : PyData → Prop} {p : Pos} (hm : X.mg n = none) (hv : bootBuiltins n = some (.builtin id)) (ha : EvA X W Γ μ (e :: es) As) (hz : ∀ ds, As ds → ∃ z, C z ∧ CallD X (.builtin id) ds z) (hg : Gl X n := by rfl)
    (hn : n ≠ "__name__" := by decide) (hdb : (n == ("__debug__" : Str)) = false := by decide)
    (he : starEach (e :: es) X.env = (false, eval e X.env) :: starEach es X.env := by rfl) (hpl : (backTo pos (starEach es X.env)).any (·.1) = false := by rfl) : Ev X W Γ μ (.Call (.Name n p) (e :: es) [] pos) C := fun σ H R Q q =>
  (pe_callB (r := fun vs H Q => ∃ ds z, CallD X (.builtin id) ds z ∧ rDc X.K ds z vs H Q) (fun pins s σ H vs us Q I rv ⟨_, _, o, q⟩ => o pins s σ H vs us Q I rv q) hg hm hv wA.pa hn hdb he hpl).w
    (ha σ H R _ fun vs ds H2 R2 e2 r2 p2 => by
      obtain ⟨z, pz, o⟩ := hz ds p2
      exact ⟨ds, z, o, hd W μ, R2.ne, r2, fun v H3 e3 r3 => q v z H3 (R2.same e3) (e2.trans (XT.same e3)) r3 pz⟩)
theorem ed_callB {n : Str} {id : String} {es : List Expr} {ds : List PyData} {p : Pos} (hm : X.mg n = none) (hv : bootBuiltins n = some (.builtin id)) (ha : EdA X W Γ μ (e :: es) ds) (hz : CallD X (.builtin id) ds z) (hg : Gl X n := by rfl)
    (hn : n ≠ "__name__" := by decide) (hdb : (n == ("__debug__" : Str)) = false := by decide)
    (he : starEach (e :: es) X.env = (false, eval e X.env) :: starEach es X.env := by rfl) (hpl : (backTo pos (starEach es X.env)).any (·.1) = false := by rfl) : Ed X W Γ μ (.Call (.Name n p) (e :: es) [] pos) z :=
  (ev_callB (C := fun w => w = z) hm hv (ha.ev (P := fun l => l = ds) rfl) (fun _ e => ⟨z, rfl, e ▸ hz⟩) hg hn hdb he hpl).ed
theorem ev_callT {n : Str} {id : String} {es : List Expr} {As : List PyData → Prop} {C : PyData → Prop} {p : Pos} (hm : X.mg n = none) (hv : bootBuiltins n = some (.type id)) (ha : EvA X W Γ μ (e :: es) As) (hz : ∀ ds, As ds → ∃ z, C z ∧ CallD X (.type id) ds z) (hg : Gl X n := by rfl)
    (hn : n ≠ "__name__" := by decide) (hdb : (n == ("__debug__" : Str)) = false := by decide)
    (he : starEach (e :: es) X.env = (false, eval e X.env) :: starEach es X.env := by rfl) (hpl : (backTo pos (starEach es X.env)).any (·.1) = false := by rfl) : Ev X W Γ μ (.Call (.Name n p) (e :: es) [] pos) C := fun σ H R Q q =>
  (pe_callTy (r := fun vs H Q => ∃ ds z, CallD X (.type id) ds z ∧ rDc X.K ds z vs H Q) (fun pins s σ H vs us Q I rv ⟨_, _, o, q⟩ => o pins s σ H vs us Q I rv q) hg hm hv wA.pa hn hdb he hpl).w
    (ha σ H R _ fun vs ds H2 R2 e2 r2 p2 => by
      obtain ⟨z, pz, o⟩ := hz ds p2
      exact ⟨ds, z, o, hd W μ, R2.ne, r2, fun v H3 e3 r3 => q v z H3 (R2.same e3) (e2.trans (XT.same e3)) r3 pz⟩)
theorem ed_callT {n : Str} {id : String} {es : List Expr} {ds : List PyData} {p : Pos} (hm : X.mg n = none) (hv : bootBuiltins n = some (.type id)) (ha : EdA X W Γ μ (e :: es) ds) (hz : CallD X (.type id) ds z) (hg : Gl X n := by rfl)
    (hn : n ≠ "__name__" := by decide) (hdb : (n == ("__debug__" : Str)) = false := by decide)
    (he : starEach (e :: es) X.env = (false, eval e X.env) :: starEach es X.env := by rfl) (hpl : (backTo pos (starEach es X.env)).any (·.1) = false := by rfl) : Ed X W Γ μ (.Call (.Name n p) (e :: es) [] pos) z :=
  (ev_callT (C := fun w => w = z) hm hv (ha.ev (P := fun l => l = ds) rfl) (fun _ e => ⟨z, rfl, e ▸ hz⟩) hg hn hdb he hpl).ed

end
end HW
set_option maxHeartbeats 4000000
namespace HW
open PySem PySem.Spec PyProof.Rows L2
/-! ### a local object is hidden, and told again -/
section
variable {K : PySem.W.Frag} {H H' : Hp} {W W' : Wd} {Γ Γ' : List DV} {μ : Mu} {σ σ' : L2.St} {D : Addr} {m : MO}
def Wd.park (W : Wd) (μ : Mu) (D : Addr) (H : Hp) : Wd := ⟨off (μ.map (·.1)) H, D :: W.M, W.row⟩
theorem mem_park {a : Addr} : a ∈ hd (W.park μ D H) μ ↔ a ∈ hd W ((D, m) :: μ) := by
  unfold Wd.park hd
  simp only [List.mem_append, List.mem_cons, List.map_cons]
  constructor
  · rintro ((h | h) | h)
    · exact .inr (.inl h)
    · exact .inl h
    · exact .inr (.inr h)
  · rintro (h | h | h)
    · exact .inl (.inr h)
    · exact .inl (.inl h)
    · exact .inr h
theorem off_cong {L L' : List Addr} (h : ∀ a, a ∈ L ↔ a ∈ L') : off L H = off L' H := by
  funext a
  unfold off
  by_cases q : a ∈ L
  · rw [if_pos q, if_pos ((h a).mp q)]
  · rw [if_neg q, if_neg (fun z => q ((h a).mpr z))]
theorem Rep.isRow_M (wd : WdOk K W) {a : Addr} (h : W.isRow a) : a ∈ W.M := by
  obtain ⟨scr, ns, e⟩ := h
  exact (wd.row _ _ _ e).1
theorem Rep.park (R : Rep K W Γ ((D, m) :: μ) σ H) : Rep K (W.park μ D H) Γ μ σ H := by
  have hD : W.H0 D = none ∧ MOk K (off (hd W ((D, m) :: μ)) H) H D m := R.mu (D, m) List.mem_cons_self
  have nd : D ∉ μ.map (·.1) ∧ (μ.map (·.1)).Nodup := by
    have := R.nd
    rw [List.map_cons] at this
    exact List.nodup_cons.mp this
  have nmu : ∀ a, W.H0 a ≠ none → a ∉ μ.map (·.1) := fun a h q => by
    obtain ⟨p, hp, rfl⟩ := List.mem_map.mp q
    exact h (R.mu p (List.mem_cons_of_mem _ hp)).1
  have oc : off (hd W ((D, m) :: μ)) H = off (hd (W.park μ D H) μ) H := off_cong fun a => (mem_park (m := m)).symm
  refine ⟨⟨fun a ha => ?_, fun r scr ns q => ?_⟩, ⟨fun a o n q => (off_some q).2, R.fr.row⟩, oc ▸ R.sl, fun p hp => ⟨off_in (List.mem_map.mpr ⟨p, hp, rfl⟩), oc ▸ (R.mu p (List.mem_cons_of_mem _ hp)).2⟩, nd.2⟩
  · show off (μ.map (·.1)) H a ≠ none
    rcases List.mem_cons.mp ha with h | h
    · rw [h, off_out nd.1]
      exact hD.2.ne
    · rw [off_out (nmu a (R.wd.hid a h))]
      exact R.fr.dom (R.wd.hid a h)
  · obtain ⟨h1, h2, h3, h4⟩ := R.wd.row r scr ns q
    refine ⟨List.mem_cons_of_mem _ h1, SqL.up (fun o e => ?_) h2, h3, h4⟩
    show off (μ.map (·.1)) H scr = some o
    rw [off_out (nmu scr (by rw [e]; simp))]
    refine R.fr.keep scr o (fun ⟨s2, n2, z⟩ => ?_) e
    have q' : W.row = some (r, scr, ns) := q
    rw [q'] at z
    cases z
    exact h3 rfl
/-- what stood off the hidden objects stands -/
theorem park_xt (R : Rep K W Γ ((D, m) :: μ) σ H) (R' : Rep K (W.park μ D H) Γ' μ σ' H') : XT (hd W ((D, m) :: μ)) H H' := fun a o e => by
  obtain ⟨h1, h2⟩ := off_some e
  rw [off_out h1]
  refine R'.fr.keep a o (fun q => h1 ((mem_park (m := m)).mp (List.mem_append_left _ (Rep.isRow_M R'.wd q)))) ?_
  show off (μ.map (·.1)) H a = some o
  rw [off_out (fun q => h1 (List.mem_append_right _ (by rw [List.map_cons]; exact List.mem_cons_of_mem _ q)))]
  exact h2
theorem Rep.unpark (R : Rep K W Γ ((D, m) :: μ) σ H) (R' : Rep K (W.park μ D H) Γ' μ σ' H') : Rep K W Γ' ((D, m) :: μ) σ' H' := by
  have hD : W.H0 D = none ∧ MOk K (off (hd W ((D, m) :: μ)) H) H D m := R.mu (D, m) List.mem_cons_self
  have oc : off (hd (W.park μ D H) μ) H' = off (hd W ((D, m) :: μ)) H' := off_cong fun a => mem_park (m := m)
  have xt := park_xt R R'
  have nd : D ∉ μ.map (·.1) ∧ (μ.map (·.1)).Nodup := by
    have := R.nd
    rw [List.map_cons] at this
    exact List.nodup_cons.mp this
  have nrow : ¬ (W.park μ D H).isRow D := fun ⟨scr, ns, e⟩ => (R.wd.hid D (R.wd.row _ _ _ e).1) hD.1
  have keepD : ∀ o, H D = some o → H' D = some o := fun o e => R'.fr.keep D o nrow (by
    show off (μ.map (·.1)) H D = some o
    rw [off_out nd.1]
    exact e)
  have nmu : ∀ a, W.H0 a ≠ none → a ∉ μ.map (·.1) := fun a h q => by
    obtain ⟨p, hp, rfl⟩ := List.mem_map.mp q
    exact h (R.mu p (List.mem_cons_of_mem _ hp)).1
  refine ⟨R.wd, ⟨fun a o n q => ?_, R'.fr.row⟩, oc ▸ R'.sl, fun p hp => ?_, R.nd⟩
  · refine R'.fr.keep a o n ?_
    show off (μ.map (·.1)) H a = some o
    rw [off_out (nmu a (by rw [q]; simp))]
    exact R.fr.keep a o n q
  · rcases List.mem_cons.mp hp with h | h
    · rw [h]
      exact ⟨hD.1, hD.2.up xt keepD⟩
    · exact ⟨(R.mu p hp).1, oc ▸ (R'.mu p h).2⟩
theorem park_le (R : Rep K W Γ ((D, m) :: μ) σ H) : Wle W (W.park μ D H) := ⟨fun a h => List.mem_cons_of_mem _ h, rfl, fun a o n h => by
  show off (μ.map (·.1)) H a = some o
  rw [off_out fun q => by
    obtain ⟨p, hp, z⟩ := List.mem_map.mp q
    have := (R.mu p (List.mem_cons_of_mem _ hp)).1
    rw [z, h] at this
    cases this]
  exact R.fr.keep a o n h⟩
/-- a new local object -/
theorem Rep.born (R : Rep K W Γ μ σ H) {o : HO} (hp : H D = none) (hm : MOk K (off (hd W μ) H) (upd H D o) D m) : Rep K W Γ ((D, m) :: μ) σ (upd H D o) := by
  have s := same_new (o := o) hp
  have nD : D ∉ hd W μ := new_out R.ne hp
  have sub : Same (off (hd W μ) H) (off (hd W ((D, m) :: μ)) (upd H D o)) := fun a u e => by
    obtain ⟨h1, h2⟩ := off_some e
    have na : a ≠ D := fun q => by rw [q, hp] at h2; cases h2
    rw [off_out (fun q => by
      rcases List.mem_append.mp q with z | z
      · exact h1 (List.mem_append_left _ z)
      · rw [List.map_cons] at z
        rcases List.mem_cons.mp z with z | z
        · exact na z
        · exact h1 (List.mem_append_right _ z)), upd_ne na]
    exact h2
  have h0 : W.H0 D = none := by
    cases e : W.H0 D with
    | none => rfl
    | some u => exact absurd hp (R.fr.dom (by rw [e]; simp))
  refine ⟨R.wd, R.fr.same s, R.sl.up sub, fun p hp' => ?_, ?_⟩
  · rcases List.mem_cons.mp hp' with h | h
    · rw [h]
      exact ⟨h0, hm.up sub fun _ z => z⟩
    · exact ⟨(R.mu p h).1, (R.mu p h).2.up sub fun u e => s _ _ e⟩
  · rw [List.map_cons]
    exact List.nodup_cons.mpr ⟨fun q => nD (List.mem_append_right _ q), R.nd⟩
/-- a local object changes -/
theorem Rep.chg {j : Nat} {m' : MO} (R : Rep K W Γ μ σ H) {o : HO} (hj : μ[j]? = some (D, m)) (hm : MOk K (off (hd W μ) H) (upd H D o) D m') : Rep K W Γ (μ.set j (D, m')) σ (upd H D o) := by
  have hmem : (D, m) ∈ μ := List.mem_of_getElem? hj
  have h0 : W.H0 D = none := (R.mu _ hmem).1
  have keys : (μ.set j (D, m')).map (·.1) = μ.map (·.1) := by
    rw [List.map_set]
    obtain ⟨hl, he⟩ := List.getElem?_eq_some_iff.mp hj
    apply List.ext_getElem (by simp)
    intro i h1 h2
    by_cases q : i = j
    · subst q
      simp [he]
    · rw [List.getElem_set_ne (Ne.symm q)]
  have hh : hd W (μ.set j (D, m')) = hd W μ := by unfold hd; rw [keys]
  have inD : D ∈ hd W μ := List.mem_append_right _ (List.mem_map.mpr ⟨_, hmem, rfl⟩)
  have oe : off (hd W μ) (upd H D o) = off (hd W μ) H := by
    funext a
    unfold off
    by_cases q : a ∈ hd W μ
    · rw [if_pos q, if_pos q]
    · rw [if_neg q, if_neg q, upd_ne (fun (z : a = D) => q (by rw [z]; exact inD))]
  have nrow : ¬ W.isRow D := fun ⟨scr, ns, e⟩ => (R.wd.hid D (R.wd.row _ _ _ e).1) h0
  refine ⟨R.wd, ⟨fun a u n e => ?_, fun r scr ns e => ?_⟩, ?_, fun p hp => ?_, by rw [keys]; exact R.nd⟩
  · rw [upd_ne (fun z => by rw [z, h0] at e; cases e)]
    exact R.fr.keep a u n e
  · obtain ⟨i, s, q, e1, e2⟩ := R.fr.row r scr ns e
    refine ⟨i, s, q, ?_, e2⟩
    rw [upd_ne (fun (z : r = D) => nrow ⟨scr, ns, by rw [← z]; exact e⟩)]
    exact e1
  · rw [hh, oe]
    exact R.sl
  · rw [hh, oe]
    obtain ⟨i, hi⟩ := List.getElem?_of_mem hp
    by_cases q : i = j
    · subst q
      rw [List.getElem?_set_self (List.getElem?_eq_some_iff.mp hj).1] at hi
      cases hi
      exact ⟨h0, hm⟩
    · rw [List.getElem?_set_ne (Ne.symm q)] at hi
      have hp' : p ∈ μ := List.mem_of_getElem? hi
      have ne : p.1 ≠ D := fun z => by
        have n := R.nd
        have e1 : (μ.map (·.1))[i]? = some D := by rw [List.getElem?_map, hi]; exact congrArg some z
        have e2 : (μ.map (·.1))[j]? = some D := by rw [List.getElem?_map, hj]; rfl
        exact q (nd_ix n e1 e2)
      refine ⟨(R.mu p hp').1, (R.mu p hp').2.up (Same.refl _) fun u e => ?_⟩
      rw [upd_ne ne]
      exact e
end
/-! ### statements -/
/-- the state is one of Φ, in the world W -/
def StP (K : PySem.W.Frag) (W : Wd) (Φ : List DV → Mu → Prop) : L2.St → Hp → Prop := fun σ H => ∃ Γ μ, Φ Γ μ ∧ Rep K W Γ μ σ H
def Run (X : Cx) (W : Wd) (Γ : List DV) (μ : Mu) (sts : List Stmt) (D : Ends) : Prop := ∀ σ H, Rep X.K W Γ μ σ H → wSs X sts D σ H
/-- what a def hands back: data with P, all else as it was -/
def RetP (K : PySem.W.Frag) (W : Wd) (P : PyData → Prop) : VK := fun v H => Fr W H ∧ ∃ d, P d ∧ Va K (off W.M H) v d
section
variable {X : Cx} {W W0 : Wd} {Γ : List DV} {μ : Mu} {e c : Expr} {rest sts a b : List Stmt} {D : Ends} {d : PyData} {P : PyData → Prop} {pos p : Pos}
theorem run_nil (h : ∀ σ H, Rep X.K W Γ μ σ H → D.nx σ H) : Run X W Γ μ [] D := fun σ H R => pss_nil.w (h σ H R)
/-- x = e -/
theorem run_setP (i : Nat) {n : Str} (he : Ev X W Γ μ e P) (h : ∀ d, P d → Run X W (Γ.set i (.d d)) μ rest D) (nd : X.N.Nodup) (hN : X.N[i]? = some n := by rfl) (hx : Loc X.env.scope n := by first | exact Or.inl rfl | exact Or.inr rfl)
    (hs : swapsWith e (some (.Name n p)) pos.line X.env = pure false := by rfl) (hf : X.fn n = true ∨ X.env.scope.names.lookup n = some .local := by first | exact .inr rfl | exact .inl rfl) : Run X W Γ μ (.Assign [.Name n p] e pos :: rest) D := fun σ H R =>
  wSs_cons ((ps_set nd hN hx wE.pe hs hf).w (he σ H R _ fun v d H2 R2 e2 r p => h d p _ _ ⟨R2.wd, R2.fr, R2.sl.set i r, R2.mu, R2.nd⟩))
theorem run_set (i : Nat) {n : Str} (he : Ed X W Γ μ e d) (h : Run X W (Γ.set i (.d d)) μ rest D) (nd : X.N.Nodup) (hN : X.N[i]? = some n := by rfl) (hx : Loc X.env.scope n := by first | exact Or.inl rfl | exact Or.inr rfl)
    (hs : swapsWith e (some (.Name n p)) pos.line X.env = pure false := by rfl) (hf : X.fn n = true ∨ X.env.scope.names.lookup n = some .local := by first | exact .inr rfl | exact .inl rfl) : Run X W Γ μ (.Assign [.Name n p] e pos :: rest) D :=
  run_setP i he.ev (fun _ q => q ▸ h) nd hN hx hs hf
/-- a local list is from now on data -/
theorem Rep.freeze {K : PySem.W.Frag} {H : Hp} {σ : L2.St} {l : Addr} {ys : List PyData} (R : Rep K W Γ ((l, .lst ys) :: μ) σ H) : ∃ xs, H l = some (.lst xs) ∧ VaAll K (off (hd W μ) H) xs ys ∧ l ∉ hd W μ ∧ Slots K (off (hd W μ) H) σ Γ := by
  obtain ⟨h0, xs, hx, hv⟩ := R.mu _ List.mem_cons_self
  have sub : Same (off (hd W ((l, .lst ys) :: μ)) H) (off (hd W μ) H) := same_offs fun a ha => by
    rcases List.mem_append.mp ha with z | z
    · exact List.mem_append_left _ z
    · exact List.mem_append_right _ (by rw [List.map_cons]; exact List.mem_cons_of_mem _ z)
  have nd := R.nd
  rw [List.map_cons] at nd
  refine ⟨xs, hx, hv.up sub, fun q => ?_, R.sl.up sub⟩
  rcases List.mem_append.mp q with z | z
  · exact R.wd.hid l z h0
  · exact (List.nodup_cons.mp nd).1 z
/-- return e -/
theorem run_retP (he : Ev X W Γ μ e P) (hD : ∀ v d H, P d → Fr W H → Va X.K (off W.M H) v d → D.rt v H) : Run X W Γ μ (.Return (some e) pos :: rest) D := fun σ H R =>
  wSs_cons ((ps_ret wE.pe).w (he σ H R _ fun v d H2 R2 e2 r p => hD v d H2 p R2.fr (r.up (same_offs fun a ha => List.mem_append_left _ ha))))
theorem run_ret {P : PyData → Prop} {nx bk ct : L2.St → Hp → Prop} (he : Ed X W Γ μ e d) (hp : P d) (hW : Wle W0 W := by first | exact Wle.refl | assumption) : Run X W Γ μ (.Return (some e) pos :: rest) ⟨nx, RetP X.K W0 P, bk, ct⟩ :=
  run_retP he.ev fun v d' H p f r => ⟨f.down hW, d', by rw [p]; exact hp, r.up (same_offs fun a ha => hW.m a ha)⟩
theorem run_retV {P A : PyData → Prop} {nx bk ct : L2.St → Hp → Prop} (he : Ev X W Γ μ e A) (hp : ∀ d, A d → P d) (hW : Wle W0 W := by first | exact Wle.refl | assumption) : Run X W Γ μ (.Return (some e) pos :: rest) ⟨nx, RetP X.K W0 P, bk, ct⟩ :=
  run_retP he fun v d' H p f r => ⟨f.down hW, d', hp _ p, r.up (same_offs fun a ha => hW.m a ha)⟩
/-- if -/
theorem run_ifV {A : Bool → Prop} (hc : EvT X W Γ μ c A) (h1 : A true → Run X W Γ μ a { D with nx := wSs X rest D }) (h2 : A false → Run X W Γ μ b { D with nx := wSs X rest D }) : Run X W Γ μ (.If c a b pos :: rest) D := fun σ H R =>
  wSs_cons ((ps_if wT.pt wSs.ps wSs.ps).w (hc σ H R _ fun k H2 R2 e2 p => by
    cases k with
    | true => exact iteT (h1 p σ H2 R2)
    | false => exact iteF (h2 p σ H2 R2)))
theorem run_if {k : Bool} (hc : EdT X W Γ μ c k) (h1 : k = true → Run X W Γ μ a { D with nx := wSs X rest D }) (h2 : k = false → Run X W Γ μ b { D with nx := wSs X rest D }) : Run X W Γ μ (.If c a b pos :: rest) D :=
  run_ifV (hc.ev (P := fun z => z = k) rfl) (fun q => h1 q.symm) (fun q => h2 q.symm)
/-- the else that is not there: on with the rest -/
theorem run_skip (h : Run X W Γ μ rest D) : Run X W Γ μ [] { D with nx := wSs X rest D } := run_nil fun σ H R => h σ H R
/-- an expression alone -/
theorem run_exprP (he : Ev X W Γ μ e P) (h : ∀ d, P d → Run X W Γ μ rest D) (hs : swapsWith e none pos.line X.env = pure false := by rfl) : Run X W Γ μ (.Expr e pos :: rest) D := fun σ H R =>
  wSs_cons ((ps_expr wE.pe hs).w (he σ H R _ fun v d H2 R2 e2 r p => h d p σ H2 R2))
theorem run_expr (he : Ed X W Γ μ e d) (h : Run X W Γ μ rest D) (hs : swapsWith e none pos.line X.env = pure false := by rfl) : Run X W Γ μ (.Expr e pos :: rest) D := run_exprP he.ev (fun _ _ => h) hs
end
end HW
set_option maxHeartbeats 4000000
namespace HW
open PySem PySem.Spec PyProof.Rows L2
/-! ### walks -/
/-- J walks over the data ds, as long as the pool stands -/
structure WalkD (K : PySem.W.Frag) (pool : Hp) (J : It) (ds : List PyData) : Prop where
  go : ∀ (i : Nat) (H : Hp), i < ds.length → Same pool H → J.go i H
  yld : ∀ (i : Nat) (d : PyData) (H : Hp) (v : V) (H' : Hp) (L : List Addr), ds[i]? = some d → (∀ l ∈ L, H l ≠ none) → Same pool (off L H) → J.yld i H v H' → Same H H' ∧ Va K (off L H') v d
  stop : ∀ (H : Hp), Same pool H → J.stop ds.length H
def IterV (X : Cx) (W : Wd) (Γ : List DV) (μ : Mu) {α : Type} (tg iter : Expr) (enc : α → PyData) (P : List α → Prop) : Prop :=
  ∃ wi : TI, PI X tg iter wi ∧ ∀ σ H, Rep X.K W Γ μ σ H → ∀ R : It → Hp → Prop, (∀ xs J H1, P xs → Rep X.K W Γ μ σ H1 → XT (hd W μ) H H1 → WalkD X.K (off (hd W μ) H1) J (xs.map enc) → R J H1) → wi σ H R
/-- the target takes the data d: put d at its slots ks -/
structure TgR (K : PySem.W.Frag) (g : TG) (ok : PyData → Prop) (put : PyData → List DV → List DV) (ks : List Nat) : Prop where
  run : ∀ (L : List Addr) (v : V) (d : PyData) (σ : L2.St) (H : Hp) (Γ : List DV) (Q : L2.St → Hp → Prop), Va K (off L H) v d → ok d → Slots K (off L H) σ Γ →
    (∀ σ', Slots K (off L H) σ' (put d Γ) → σ'.length = σ.length → (∀ i, i ∉ ks → σ'[i]? = σ[i]?) → Q σ' H) → g v σ H Q
theorem tg_name {K : PySem.W.Frag} (k : Nat) : TgR K (gName k) (fun _ => True) (fun d Γ => Γ.set k (.d d)) [k] := ⟨fun L v d σ H Γ Q r _ s q => q _ (s.set k r) (List.length_set ..) fun i hi => List.getElem?_set_ne (fun e => hi (by rw [e]; exact List.mem_cons_self))⟩
/-! ### comprehensions -/
def wipeD (vs : List Nat) (Γ : List DV) : List DV := match vs with
  | [] => Γ
  | v :: vs => (wipeD vs Γ).set v .no
theorem Slots.wipe {K : PySem.W.Frag} {H : Hp} {σ : L2.St} {Γ : List DV} (h : Slots K H σ Γ) : ∀ vs : List Nat, Slots K H (wipe σ vs) (wipeD vs Γ)
  | [] => h
  | v :: vs => (Slots.wipe h vs).no v
theorem wipe_get {σ : L2.St} {i : Nat} : ∀ {vs : List Nat}, (wipe σ vs)[i]? = if i ∈ vs then (if i < σ.length then some none else none) else σ[i]?
  | [] => by simp [L2.wipe]
  | v :: vs => by
    show ((wipe σ vs).set v none)[i]? = _
    by_cases q : i = v
    · subst q
      by_cases hl : i < σ.length
      · rw [List.getElem?_set_self (by rw [wipe_length]; exact hl), if_pos List.mem_cons_self, if_pos hl]
      · rw [if_pos List.mem_cons_self, if_neg hl]
        exact List.getElem?_eq_none (by rw [List.length_set, wipe_length]; omega)
    · rw [List.getElem?_set_ne (Ne.symm q), wipe_get]
      by_cases m : i ∈ vs
      · rw [if_pos m, if_pos (List.mem_cons_of_mem _ m)]
      · rw [if_neg m, if_neg (fun z => (List.mem_cons.mp z).elim q m)]
theorem wipe_eq {σ σ' : L2.St} {vs ks : List Nat} (hk : ∀ k ∈ ks, k ∈ vs) (hl : σ'.length = (wipe σ vs).length) (h : ∀ i, i ∉ ks → σ'[i]? = (wipe σ vs)[i]?) : wipe σ' vs = wipe σ vs := by
  apply List.ext_getElem?
  intro i
  rw [wipe_get, wipe_get]
  rw [wipe_length] at hl
  by_cases m : i ∈ vs
  · rw [if_pos m, if_pos m, hl]
  · rw [if_neg m, if_neg m, h i (fun z => m (hk i z)), wipe_get, if_neg m]
abbrev blkOf (X : Cx) (scope : Scope) (s : Shared) (H : Hp) (C : Addr) (cl : List (Str × Addr)) (fp : List Addr) : Cx := X.blk s H scope (compEnvC scope cl C X.env) fp
/-- e in whatever block -/
def wEb (X : Cx) (scope : Scope) (e : Expr) : TE := fun σ H Q => ∀ s H0 C cl fp, wE (blkOf X scope s H0 C cl fp) e σ H Q
theorem wEb.pe {X : Cx} {scope : Scope} {e : Expr} (s : Shared) (H : Hp) (C : Addr) (cl : List (Str × Addr)) (fp : List Addr) : PE (blkOf X scope s H C cl fp) e (wEb X scope e) := ⟨fun pins st _ _ _ I h => h s H C cl fp pins st I⟩
def wTb (X : Cx) (scope : Scope) (e : Expr) : TT := fun σ H Q => ∀ s H0 C cl fp, wT (blkOf X scope s H0 C cl fp) e σ H Q
theorem wTb.pt {X : Cx} {scope : Scope} {e : Expr} (s : Shared) (H : Hp) (C : Addr) (cl : List (Str × Addr)) (fp : List Addr) : PT (blkOf X scope s H C cl fp) e (wTb X scope e) := ⟨fun pins st _ _ _ I h => h s H C cl fp pins st I⟩
section
variable {X : Cx} {W : Wd} {Γ : List DV} {μ : Mu} {α : Type} {tg iter elt t : Expr} {ifs : List Expr} {scope : Scope} {own : List (Str × Nat)} {pos : Pos} {enc : α → PyData} {P : List α → Prop} {g : TG} {ok : PyData → Prop} {put : PyData → List DV → List DV} {ks : List Nat} {c : α → Bool} {E : α → PyData → Prop}
theorem psnoc {α β : Type} {F : α → β → Prop} {a : α} {b : β} : ∀ {l₁ : List α} {l₂ : List β}, Paired F l₁ l₂ → F a b → Paired F (l₁ ++ [a]) (l₂ ++ [b])
  | _, _, .nil, h => .cons h .nil
  | _, _, .cons r t, h => .cons r (psnoc t h)
theorem plen {α β : Type} {F : α → β → Prop} : ∀ {l₁ : List α} {l₂ : List β}, Paired F l₁ l₂ → l₁.length = l₂.length
  | _, _, .nil => rfl
  | _, _, .cons _ t => congrArg (· + 1) (plen t)
theorem take_succ_filter {xs : List α} {i : Nat} {x : α} (h : xs[i]? = some x) : (xs.take (i + 1)).filter c = (xs.take i).filter c ++ (if c x = true then [x] else []) := by
  rw [List.take_add_one, h]
  show (xs.take i ++ [x]).filter c = _
  rw [List.filter_append]
  by_cases q : c x = true
  · rw [if_pos q, List.filter_cons_of_pos q]; rfl
  · rw [if_neg q, List.filter_cons_of_neg q]; rfl
/-- the reading of a comprehension: a list whose items are E of the items kept -/
theorem lc_read {tt : TT} {wi : TI} (hi : ∀ σ H, Rep X.K W Γ μ σ H → ∀ R : It → Hp → Prop, (∀ xs J H1, P xs → Rep X.K W Γ μ σ H1 → XT (hd W μ) H H1 → WalkD X.K (off (hd W μ) H1) J (xs.map enc) → R J H1) → wi σ H R)
    (hg : TgR X.K g ok put ks) (hk : ∀ k ∈ ks, k ∈ own.map (·.2)) (hok : ∀ xs, P xs → ∀ x ∈ xs, ok (enc x)) (hz : ∀ xs, P xs → xs.length ≤ 16777216)
    (ht : ∀ xs, P xs → ∀ x ∈ xs, ∀ W1, Wle W W1 → ∀ σ H, Rep X.K W1 (put (enc x) (wipeD (own.map (·.2)) Γ)) μ σ H → ∀ Q : Bool → Hp → Prop, (∀ H2, Rep X.K W1 (put (enc x) (wipeD (own.map (·.2)) Γ)) μ σ H2 → Q (c x) H2) → tt σ H Q)
    (he : ∀ xs, P xs → ∀ x ∈ xs, c x = true → ∀ W1, Wle W W1 → ∀ s H C cl fp, Ev (blkOf X scope s H C cl fp) W1 (put (enc x) (wipeD (own.map (·.2)) Γ)) μ elt (E x))
    {σ : L2.St} {H : Hp} (R : Rep X.K W Γ μ σ H) {Q : VK} (q : ∀ xs ys v H2, P xs → Paired E (xs.filter c) ys → Rep X.K W Γ μ σ H2 → XT (hd W μ) H H2 → Va X.K (off (hd W μ) H2) v (.list ys) → Q v H2) :
    tLc wi g tt (wEb X scope elt) (own.map (·.2)) σ H Q := by
  refine hi σ H R _ fun xs J H1 px R1 e1 wk D hD => ?_
  -- the invariant
  let vs := own.map (·.2)
  let Pv : Nat → Hp → Prop := fun i H' => ∃ ys, Paired E ((xs.take i).filter c) ys ∧ Rep X.K (W.now μ H1) (wipeD vs Γ) ((D, .lst ys) :: μ) (wipe σ vs) H'
  have R1n := R1.now
  have Rw : Rep X.K (W.now μ H1) (wipeD vs Γ) μ (wipe σ vs) H1 := ⟨R1n.wd, R1n.fr, R1n.sl.wipe vs, R1n.mu, R1n.nd⟩
  have h0 : Pv 0 (upd H1 D (.lst [])) := ⟨[], by simp only [List.take_zero, List.filter_nil]; exact .nil, Rw.born hD ⟨[], upd_same, .nil⟩⟩
  have nDmu : ∀ {i H'}, Pv i H' → Same (off (hd W μ) H1) H' := fun ⟨ys, _, Rp⟩ a o e => by
    obtain ⟨h1, h2⟩ := off_some e
    refine Rp.fr.keep a o (fun z => h1 (List.mem_append_left _ (Rep.isRow_M Rp.wd z))) ?_
    show off (μ.map (·.1)) H1 a = some o
    rw [off_out (fun z => h1 (List.mem_append_right _ z))]
    exact h2
  refine ⟨fun i m H' => m = xs.length - i ∧ i ≤ xs.length ∧ Pv i H', ⟨xs.length, by simp, Nat.zero_le _, h0⟩, ?_⟩
  rintro i m H' ⟨rfl, hile, p⟩
  by_cases hlt : i < xs.length
  · refine .inr ⟨wk.go i H' (by simpa using hlt) (nDmu p), Pv (i + 1), fun H2 p' => ⟨xs.length - (i + 1), by omega, rfl, hlt, p'⟩, fun v H2 y => ?_⟩
    obtain ⟨ys, hys, Rp⟩ := p
    obtain ⟨x, hx⟩ : ∃ x, xs[i]? = some x := ⟨xs[i], by simp [hlt]⟩
    have xin : x ∈ xs := List.mem_of_getElem? hx
    have dx : (xs.map enc)[i]? = some (enc x) := by rw [List.getElem?_map, hx]; rfl
    -- the pool off the hidden objects
    have pool : Same (off (hd W μ) H1) (off (hd (W.now μ H1) ((D, .lst ys) :: μ)) H') := fun a o e => by
      obtain ⟨h1, h2⟩ := off_some e
      have na : a ≠ D := fun z => by rw [z, hD] at h2; cases h2
      rw [off_out (fun z => by
        rcases List.mem_append.mp z with z | z
        · exact h1 (List.mem_append_left _ z)
        · rw [List.map_cons] at z
          rcases List.mem_cons.mp z with z | z
          · exact na z
          · exact h1 (List.mem_append_right _ z))]
      exact nDmu ⟨ys, hys, Rp⟩ a o e
    obtain ⟨s2, r2⟩ := wk.yld i (enc x) H' v H2 _ dx Rp.ne pool y
    have Rp2 := Rp.same s2
    refine hg.run _ v (enc x) (wipe σ vs) H2 _ _ r2 (hok xs px x xin) Rp2.sl fun σ3 sl3 l3 u3 => ?_
    refine ⟨wipe_eq hk l3 u3, ?_⟩
    have R3 : Rep X.K (W.now μ H1) (put (enc x) (wipeD vs Γ)) ((D, .lst ys) :: μ) σ3 H2 := ⟨Rp2.wd, Rp2.fr, sl3, Rp2.mu, Rp2.nd⟩
    have le3 : Wle W ((W.now μ H1).park μ D H2) := R1.now_le.trans (park_le R3)
    have back : ∀ {H4 : Hp} {ys' : List PyData}, Rep X.K (W.now μ H1) (put (enc x) (wipeD vs Γ)) ((D, .lst ys') :: μ) σ3 H4 → XT (hd (W.now μ H1) ((D, .lst ys) :: μ)) H2 H4 → Rep X.K (W.now μ H1) (wipeD vs Γ) ((D, .lst ys') :: μ) (wipe σ vs) H4 := fun R4 x4 =>
      ⟨R4.wd, R4.fr, (Rp2.sl.up x4 : _), R4.mu, R4.nd⟩
    refine ht xs px x xin _ le3 σ3 H2 R3.park _ fun H4 R4 => ?_
    have x4 := park_xt R3 R4
    have R4' := R3.unpark R4
    by_cases hc : c x = true
    · rw [hc]
      refine iteT fun s H0 C cl fp => ?_
      refine he xs px x xin hc _ (R1.now_le.trans (park_le R4')) s H0 C cl fp σ3 H4 R4'.park _ fun v5 d5 H5 R5 x5 r5 p5 => ?_
      have x5' := park_xt R4' R5
      have R5' := R4'.unpark R5
      obtain ⟨acc, ha, hv⟩ := (R5'.mu _ List.mem_cons_self).2
      refine ⟨acc, ha, ?_, ys ++ [d5], ?_, ?_⟩
      · rw [hv.length, ← plen hys]
        have l1 : ((xs.take i).filter c).length ≤ (xs.take i).length := List.length_filter_le ..
        rw [List.length_take] at l1
        have l2 := hz xs px
        show _ < 16777216
        omega
      · rw [take_succ_filter hx, if_pos hc]
        exact psnoc hys p5
      · have oc : off (hd ((W.now μ H1).park μ D H4) μ) H5 = off (hd (W.now μ H1) ((D, .lst ys) :: μ)) H5 := off_cong fun a => mem_park
        have z := back R5' (x4.trans x5')
        exact z.chg (j := 0) (m' := .lst (ys ++ [d5])) rfl ⟨acc ++ [v5], upd_same, hv.app (.cons (oc ▸ r5) .nil)⟩
    · have hc' : c x = false := by simpa using hc
      rw [hc']
      refine iteF ⟨ys, ?_, back R4' x4⟩
      rw [take_succ_filter hx, if_neg hc, List.append_nil]
      exact hys
  · have e : i = xs.length := by omega
    subst e
    refine .inl ⟨by have := wk.stop H' (nDmu p); simpa using this, ?_⟩
    have sm := nDmu p
    obtain ⟨ys, hys, Rp⟩ := p
    rw [List.take_length] at hys
    obtain ⟨acc, ha, hv, nl, sl⟩ := Rp.freeze
    have up : XT (hd W μ) H1 H' := fun a o e => by
      rw [off_out (off_some e).1]
      exact sm a o e
    have le1 : Wle W (W.now μ H1) := R1.now_le
    refine q xs ys (.ref D) H' px hys ⟨R.wd, Rp.fr.down le1, R1.sl.up up, fun p hp => ⟨(R1.mu p hp).1, (Rp.mu p (List.mem_cons_of_mem _ hp)).2.up (same_offs fun a ha => ?_) fun _ z => z⟩, R.nd⟩ (e1.trans up) (.lst (off_out nl |>.trans ha) hv)
    rcases List.mem_append.mp ha with z | z
    · exact List.mem_append_left _ z
    · exact List.mem_append_right _ (by rw [List.map_cons]; exact List.mem_cons_of_mem _ z)
/-- a comprehension's judgement: the list's data with Z -/
structure LcEv (X : Cx) (W : Wd) (Γ : List DV) (μ : Mu) (elt tg iter : Expr) (ifs : List Expr) (scope : Scope) (Z : List PyData → Prop) : Prop where
  ex : ∃ (wi : TI) (g : TG) (tt : TT) (te : TE) (own : List (Str × Nat)), PI X tg iter wi ∧ BlkOk X.N X.env.scope scope own ∧ (∀ s H C cl fp, PG (blkOf X scope s H C cl fp) tg g) ∧ (∀ s H C cl fp, PTs (blkOf X scope s H C cl fp) ifs tt) ∧
    (∀ s H C cl fp, PE (blkOf X scope s H C cl fp) elt te) ∧ ∀ σ H, Rep X.K W Γ μ σ H → ∀ Q : VK, (∀ ys v H2, Z ys → Rep X.K W Γ μ σ H2 → XT (hd W μ) H H2 → Va X.K (off (hd W μ) H2) v (.list ys) → Q v H2) → tLc wi g tt te (own.map (·.2)) σ H Q
theorem LcEv.ev {Z : List PyData → Prop} (h : LcEv X W Γ μ elt tg iter ifs scope Z) (hN : X.N.Nodup) (hc : X.calm = true := by rfl) (hs : ∀ x, foldedSetIterable iter X.env x = pure x := by intro _; rfl) :
    Ev X W Γ μ (.ListComp elt [⟨tg, iter, ifs, 0⟩] scope pos) (fun z => ∃ ys, z = .list ys ∧ Z ys) := fun σ H R Q k => by
  obtain ⟨wi, g, tt, te, own, h1, h2, h3, h4, h5, h6⟩ := h.ex
  exact (pe_lc hc hN h1 h2 h3 h4 h5 hs).w (h6 σ H R Q fun ys v H2 z R2 x2 r => k v _ H2 R2 x2 r ⟨ys, rfl, z⟩)
theorem LcEv.ed {ys : List PyData} (h : LcEv X W Γ μ elt tg iter ifs scope (fun z => z = ys)) (hN : X.N.Nodup) (hc : X.calm = true := by rfl) (hs : ∀ x, foldedSetIterable iter X.env x = pure x := by intro _; rfl) :
    Ed X W Γ μ (.ListComp elt [⟨tg, iter, ifs, 0⟩] scope pos) (.list ys) := (h.ev (pos := pos) hN hc hs |>.imp (B := fun z => z = .list ys) fun d ⟨l, e1, e2⟩ => by rw [e1, e2]).ed
/-- x = [..] -/
theorem run_setLcP {Z : List PyData → Prop} {D : Ends} {rest : List Stmt} {spos py : Pos} (i : Nat) {n : Str} (h : LcEv X W Γ μ elt tg iter ifs scope Z) (hr : ∀ ys, Z ys → Run X W (Γ.set i (.d (.list ys))) μ rest D) (hN : X.N.Nodup) (hn : X.N[i]? = some n := by rfl) (hl : X.env.scope.names.lookup n = some .local := by rfl)
    (hsw : swapsWith (.ListComp elt [⟨tg, iter, ifs, 0⟩] scope pos) (some (.Name n py)) spos.line X.env = pure true := by exact (sw_true rfl rfl rfl (by decide +kernel))) (hc : X.calm = true := by rfl) (hs : ∀ x, foldedSetIterable iter X.env x = pure x := by intro _; rfl) :
    Run X W Γ μ (.Assign [.Name n py] (.ListComp elt [⟨tg, iter, ifs, 0⟩] scope pos) spos :: rest) D := fun σ H R => by
  obtain ⟨wi, g, tt, te, own, h1, h2, h3, h4, h5, h6⟩ := h.ex
  refine wSs_cons ((ps_setLc hc hN hn hl hsw h1 h2 h3 h4 h5 hs).w ?_)
  exact h6 σ H R _ fun ys v H2 z R2 x2 r => hr ys z _ _ ⟨R2.wd, R2.fr, R2.sl.set i r, R2.mu, R2.nd⟩
theorem run_setLc {ys : List PyData} {D : Ends} {rest : List Stmt} {spos py : Pos} (i : Nat) {n : Str} (h : LcEv X W Γ μ elt tg iter ifs scope (fun z => z = ys)) (hr : Run X W (Γ.set i (.d (.list ys))) μ rest D) (hN : X.N.Nodup) (hn : X.N[i]? = some n := by rfl) (hl : X.env.scope.names.lookup n = some .local := by rfl)
    (hsw : swapsWith (.ListComp elt [⟨tg, iter, ifs, 0⟩] scope pos) (some (.Name n py)) spos.line X.env = pure true := by exact (sw_true rfl rfl rfl (by decide +kernel))) (hc : X.calm = true := by rfl) (hs : ∀ x, foldedSetIterable iter X.env x = pure x := by intro _; rfl) :
    Run X W Γ μ (.Assign [.Name n py] (.ListComp elt [⟨tg, iter, ifs, 0⟩] scope pos) spos :: rest) D := run_setLcP i h (fun _ z => z ▸ hr) hN hn hl hsw hc hs
/-- builders: over any target, without a test -/
theorem lc0 (own : List (Str × Nat)) (hi : IterV X W Γ μ tg iter enc P) (hg : TgR X.K g ok put ks) (hpg : ∀ s H C cl fp, PG (blkOf X scope s H C cl fp) tg g) (hok : ∀ xs, P xs → ∀ x ∈ xs, ok (enc x)) (hz : ∀ xs, P xs → xs.length ≤ 16777216)
    (he : ∀ xs, P xs → ∀ x ∈ xs, ∀ W1, Wle W W1 → ∀ s H C cl fp, Ev (blkOf X scope s H C cl fp) W1 (put (enc x) (wipeD (own.map (·.2)) Γ)) μ elt (E x)) (hb : BlkOk X.N X.env.scope scope own := by exact blkOk_by (by kernel_rfl)) (hk : ∀ k ∈ ks, k ∈ own.map (·.2) := by decide) :
    LcEv X W Γ μ elt tg iter [] scope (fun ys => ∃ xs, P xs ∧ Paired E xs ys) := ⟨by
  obtain ⟨wi, h1, h2⟩ := hi
  refine ⟨wi, g, tYes, wEb X scope elt, own, h1, hb, hpg, fun _ _ _ _ _ => pts_nil, wEb.pe, fun σ H R Q k => ?_⟩
  refine lc_read (c := fun _ => true) (E := E) h2 hg hk hok hz (fun _ _ _ _ _ _ σ H R Q q => q H R) (fun xs px x hx _ W1 l s H C cl fp => he xs px x hx W1 l s H C cl fp) R fun xs ys v H2 px hp R2 x2 r => k ys v H2 ⟨xs, px, ?_⟩ R2 x2 r
  have e : xs.filter (fun _ => true) = xs := List.filter_eq_self.mpr fun _ _ => rfl
  rw [e] at hp
  exact hp⟩
/-- .. with one -/
theorem lc1 (own : List (Str × Nat)) (hi : IterV X W Γ μ tg iter enc P) (hg : TgR X.K g ok put ks) (hpg : ∀ s H C cl fp, PG (blkOf X scope s H C cl fp) tg g) (hok : ∀ xs, P xs → ∀ x ∈ xs, ok (enc x)) (hz : ∀ xs, P xs → xs.length ≤ 16777216)
    (ht : ∀ xs, P xs → ∀ x ∈ xs, ∀ W1, Wle W W1 → ∀ s H C cl fp, EdT (blkOf X scope s H C cl fp) W1 (put (enc x) (wipeD (own.map (·.2)) Γ)) μ t (c x))
    (he : ∀ xs, P xs → ∀ x ∈ xs, c x = true → ∀ W1, Wle W W1 → ∀ s H C cl fp, Ev (blkOf X scope s H C cl fp) W1 (put (enc x) (wipeD (own.map (·.2)) Γ)) μ elt (E x)) (hb : BlkOk X.N X.env.scope scope own := by exact blkOk_by (by kernel_rfl)) (hk : ∀ k ∈ ks, k ∈ own.map (·.2) := by decide) :
    LcEv X W Γ μ elt tg iter [t] scope (fun ys => ∃ xs, P xs ∧ Paired E (xs.filter c) ys) := ⟨by
  obtain ⟨wi, h1, h2⟩ := hi
  refine ⟨wi, g, wTb X scope t, wEb X scope elt, own, h1, hb, hpg, fun s H C cl fp => pts_one (wTb.pt s H C cl fp), wEb.pe, fun σ H R Q k => ?_⟩
  exact lc_read (c := c) (E := E) h2 hg hk hok hz (fun xs px x hx W1 l σ H R Q q s H0 C cl fp => ht xs px x hx W1 l s H0 C cl fp σ H R Q fun H2 R2 _ => q H2 R2) he R fun xs ys v H2 px hp R2 x2 r => k ys v H2 ⟨xs, px, hp⟩ R2 x2 r⟩
end
/-- the walked thing, told -/
abbrev IterD (X : Cx) (W : Wd) (Γ : List DV) (μ : Mu) {α : Type} (tg iter : Expr) (enc : α → PyData) (xs : List α) : Prop := IterV X W Γ μ tg iter enc (fun l => l = xs)
theorem paired_map {α : Type} {f : α → PyData} : ∀ {xs : List α} {ys : List PyData}, Paired (fun x y => y = f x) xs ys → ys = xs.map f
  | _, _, .nil => rfl
  | _, _, .cons r t => by rw [r, paired_map t]; rfl
section
variable {X : Cx} {W : Wd} {Γ : List DV} {μ : Mu} {α : Type} {tg iter elt t : Expr} {ifs : List Expr} {scope : Scope} {pos p : Pos} {enc : α → PyData} {xs : List α} {c : α → Bool} {f : α → PyData} {n : Str}
/-- [elt for n in iter] -/
theorem lcN0 (k : Nat) (hi : IterD X W Γ μ (.Name n p) iter enc xs) (hz : xs.length ≤ 16777216) (f : α → PyData)
    (he : ∀ x ∈ xs, ∀ W1, Wle W W1 → ∀ s H C cl fp, Ed (blkOf X scope s H C cl fp) W1 ((wipeD [k] Γ).set k (.d (enc x))) μ elt (f x)) (hN : X.N.Nodup) (hn : X.N[k]? = some n := by rfl)
    (hv : ∀ s H C cl fp, Loc (blkOf X scope s H C cl fp).env.scope n := by intro _ _ _ _ _; first | exact Or.inl rfl | exact Or.inr rfl) (hf : ∀ s H C cl fp, (blkOf X scope s H C cl fp).fn n = true ∨ (blkOf X scope s H C cl fp).env.scope.names.lookup n = some .local := by intro _ _ _ _ _; first | exact .inr rfl | exact .inl rfl) (hb : BlkOk X.N X.env.scope scope [(n, k)] := by exact blkOk_by (by kernel_rfl)) :
    LcEv X W Γ μ elt (.Name n p) iter [] scope (fun ys => ys = xs.map f) := by
  have h := lc0 (E := fun x y => y = f x) (elt := elt) (scope := scope) [(n, k)] hi (tg_name (K := X.K) k) (fun s H C cl fp => pg_name hN hn (hv s H C cl fp) (hf s H C cl fp)) (fun _ _ _ _ => trivial) (fun _ e => e ▸ hz) (fun _ e x hx W1 l s H C cl fp => (he x (e ▸ hx) W1 l s H C cl fp).ev) hb (by simp)
  obtain ⟨wi, g, tt, te, own, h1, h2, h3, h4, h5, h6⟩ := h.ex
  exact ⟨wi, g, tt, te, own, h1, h2, h3, h4, h5, fun σ H R Q k => h6 σ H R Q fun ys v H2 ⟨l, e, hp⟩ => k ys v H2 (by rw [← e]; exact paired_map hp)⟩
/-- [elt for n in iter if t] -/
theorem lcN1 (k : Nat) (hi : IterD X W Γ μ (.Name n p) iter enc xs) (hz : xs.length ≤ 16777216) (c : α → Bool) (f : α → PyData)
    (ht : ∀ x ∈ xs, ∀ W1, Wle W W1 → ∀ s H C cl fp, EdT (blkOf X scope s H C cl fp) W1 ((wipeD [k] Γ).set k (.d (enc x))) μ t (c x))
    (he : ∀ x ∈ xs, c x = true → ∀ W1, Wle W W1 → ∀ s H C cl fp, Ed (blkOf X scope s H C cl fp) W1 ((wipeD [k] Γ).set k (.d (enc x))) μ elt (f x)) (hN : X.N.Nodup) (hn : X.N[k]? = some n := by rfl)
    (hv : ∀ s H C cl fp, Loc (blkOf X scope s H C cl fp).env.scope n := by intro _ _ _ _ _; first | exact Or.inl rfl | exact Or.inr rfl) (hf : ∀ s H C cl fp, (blkOf X scope s H C cl fp).fn n = true ∨ (blkOf X scope s H C cl fp).env.scope.names.lookup n = some .local := by intro _ _ _ _ _; first | exact .inr rfl | exact .inl rfl) (hb : BlkOk X.N X.env.scope scope [(n, k)] := by exact blkOk_by (by kernel_rfl)) :
    LcEv X W Γ μ elt (.Name n p) iter [t] scope (fun ys => ys = (xs.filter c).map f) := by
  have h := lc1 (E := fun x y => y = f x) (c := c) (t := t) (elt := elt) (scope := scope) [(n, k)] hi (tg_name (K := X.K) k) (fun s H C cl fp => pg_name hN hn (hv s H C cl fp) (hf s H C cl fp)) (fun _ _ _ _ => trivial) (fun _ e => e ▸ hz) (fun _ e x hx W1 l s H C cl fp => ht x (e ▸ hx) W1 l s H C cl fp) (fun _ e x hx hc W1 l s H C cl fp => (he x (e ▸ hx) hc W1 l s H C cl fp).ev) hb (by simp)
  obtain ⟨wi, g, tt, te, own, h1, h2, h3, h4, h5, h6⟩ := h.ex
  exact ⟨wi, g, tt, te, own, h1, h2, h3, h4, h5, fun σ H R Q k => h6 σ H R Q fun ys v H2 ⟨l, e, hp⟩ => k ys v H2 (by rw [← e]; exact paired_map hp)⟩
end
end HW
set_option maxHeartbeats 4000000
namespace HW
open PySem PySem.Spec PyProof.Rows L2
section
variable {X : Cx} {W : Wd} {Γ : List DV} {μ : Mu} {α : Type} {tg iter e a b : Expr} {pos p : Pos} {enc : α → PyData} {P : List α → Prop} {xs : List α}
theorem IterV.imp {Q' : List α → Prop} (h : IterV X W Γ μ tg iter enc P) (i : ∀ xs, P xs → Q' xs) : IterV X W Γ μ tg iter enc Q' := by
  obtain ⟨wi, h1, h2⟩ := h
  exact ⟨wi, h1, fun σ H R R' k => h2 σ H R R' fun xs J H1 px => k xs J H1 (i xs px)⟩
theorem walk_list {K : PySem.W.Frag} {pool : Hp} {a : Addr} {vs : List V} {ds : List PyData} (h : pool a = some (.lst vs)) (hv : VaAll K pool vs ds) : WalkD K pool (Itl K a) ds where
  go := fun i H hi s => by
    have hl : i < vs.length := by rw [hv.length]; exact hi
    exact ⟨vs, vs[i], SqL.of (s a _ h), by simp [hl]⟩
  yld := fun i d H v H' L hd _ s y => by
    obtain ⟨rfl, y⟩ := y
    refine ⟨Same.refl _, ?_⟩
    obtain ⟨v2, e, r⟩ := hv.at hd
    have := y vs (SqL.of ((off_some (s a _ h)).2))
    rw [e] at this
    cases this
    exact r.up s
  stop := fun H s => ⟨vs, SqL.of (s a _ h), by rw [hv.length]; exact Nat.le_refl _⟩
theorem it_listV (h : Ev X W Γ μ iter (fun z => ∃ xs, z = .list (xs.map enc) ∧ P xs)) : IterV X W Γ μ tg iter enc P := ⟨_, pi_list wE.pe, fun σ H R R' k => h σ H R _ fun v d H1 R1 e1 r ⟨xs, e, px⟩ => by
  subst e
  cases r with
  | lst ha hv => exact ⟨_, rfl, ⟨_, SqL.of (off_some ha).2⟩, k xs _ H1 px R1 e1 (walk_list ha hv)⟩⟩
theorem it_list {ds : List PyData} (h : Ed X W Γ μ iter (.list ds)) (e : ds = xs.map enc := by rfl) : IterD X W Γ μ tg iter enc xs := it_listV (h.evP ⟨xs, by rw [e], rfl⟩)
/-- a sign as a text -/
abbrev sg (c : Nat) : PyData := .str ⟨#[c]⟩
theorem it_strV {P : List Nat → Prop} (h : Ev X W Γ μ iter (fun z => ∃ cs : List Nat, z = .str ⟨cs.toArray⟩ ∧ P cs)) : IterV X W Γ μ tg iter sg P := ⟨_, pi_str wE.pe, fun σ H R R' k => h σ H R _ fun v d H1 R1 e1 r ⟨cs, e, px⟩ => by
  subst e
  cases r
  refine ⟨_, rfl, k cs _ H1 px R1 e1 ⟨fun i H hi s => ?_, fun i d H v H' L hd _ s y => ?_, fun H s => ?_⟩⟩
  · show i < cs.toArray.size
    simpa using hi
  · obtain ⟨rfl, c, hc, rfl⟩ := y
    refine ⟨Same.refl _, ?_⟩
    have hc' : cs[i]? = some c := by simpa using hc
    rw [List.getElem?_map, hc'] at hd
    cases hd
    exact .str _
  · show cs.toArray.size ≤ _
    simp⟩
theorem it_str {cs : List Nat} {x : Str} (h : Ed X W Γ μ iter (.str x)) (e : x = ⟨cs.toArray⟩ := by rfl) : IterD X W Γ μ tg iter sg cs := it_strV (h.evP ⟨cs, by rw [e], rfl⟩)
/-- range(n), range(a, b) -/
abbrev nn (i : Nat) : PyData := .int (i : Int)
theorem walk_range {K : PySem.W.Frag} {pool : Hp} {lo : Int} {n : Nat} : WalkD K pool (Itr lo n) ((List.range n).map fun (i : Nat) => PyData.int (lo + (i : Int))) where
  go := fun i H hi s => by show i < n; simpa using hi
  yld := fun i d H v H' L hd _ s y => by
    obtain ⟨rfl, rfl⟩ := y
    refine ⟨Same.refl _, ?_⟩
    rw [List.getElem?_map] at hd
    obtain ⟨j, hj, rfl⟩ := Option.map_eq_some_iff.mp hd
    have hl : i < n := by
      have := (List.getElem?_eq_some_iff.mp hj).1
      simpa using this
    rw [List.getElem?_range hl] at hj
    cases hj
    exact .int _
  stop := fun H s => by show n ≤ _; simp
theorem it_rangeV {P : Nat → Prop} (h : EvA X W Γ μ [a] (fun ds => ∃ n : Int, ds = [.int n] ∧ -(2 ^ 62) ≤ n ∧ n < 2 ^ 62 ∧ P n.toNat)) (hm : X.mg "range" = none) (hg : Gl X "range" := by rfl) (hs : starEach [a] X.env = [(false, eval a X.env)] := by rfl) :
    IterV X W Γ μ tg (.Call (.Name "range" p) [a] [] pos) (fun i : Nat => PyData.int ((0 : Int) + (i : Int))) (fun l => ∃ n, l = List.range n ∧ P n) := ⟨_, pi_range1 hg hm wA.pa hs, fun σ H R R' k => h σ H R _ fun vs ds H1 R1 e1 r ⟨n, e, h1, h2, pn⟩ => by
  subst e
  cases r with
  | cons r rr =>
    cases rr
    cases r
    exact ⟨n, rfl, h1, h2, k _ _ H1 ⟨_, rfl, pn⟩ R1 e1 walk_range⟩⟩
theorem it_range {n : Nat} {z : Int} (h : Ed X W Γ μ a (.int z)) (hm : X.mg "range" = none) (e : z.toNat = n := by omega) (hz : -1000000000 ≤ z ∧ z ≤ 1000000000 := by omega) (hg : Gl X "range" := by rfl) (hs : starEach [a] X.env = [(false, eval a X.env)] := by rfl) :
    IterD X W Γ μ tg (.Call (.Name "range" p) [a] [] pos) nn (List.range n) := by
  have := it_rangeV (tg := tg) (p := p) (pos := pos) (P := fun m => m = n) ((ea_cons h ea_nil (by rw [hs]; rfl)).ev ⟨z, rfl, by omega, by omega, e⟩) hm hg hs
  obtain ⟨wi, h1, h2⟩ := this
  refine ⟨wi, h1, fun σ H R R' k => h2 σ H R R' fun xs J H1 px R1 e1 wk => ?_⟩
  obtain ⟨m, e, e3⟩ := px
  subst e
  subst e3
  refine k _ J H1 rfl R1 e1 ?_
  have e : (fun i : Nat => PyData.int ((0 : Int) + (i : Int))) = nn := by funext i; show PyData.int _ = PyData.int _; rw [Int.zero_add]
  rw [e] at wk
  exact wk
end
/-! ### for -/
section
variable {X : Cx} {W : Wd} {Γ : List DV} {μ : Mu} {α : Type} {tg iter : Expr} {body rest : List Stmt} {pos p : Pos} {enc : α → PyData} {P : List α → Prop} {g : TG} {ok : PyData → Prop} {put : PyData → List DV → List DV} {ks : List Nat} {D : Ends}
theorem Rep.wdown {K : PySem.W.Frag} {W W' : Wd} {Γ : List DV} {μ : Mu} {σ : L2.St} {H : Hp} (l : Wle W W') (ok : WdOk K W) (R : Rep K W' Γ μ σ H) : Rep K W Γ μ σ H := by
  refine Rep.down l ok (fun p hp => ?_) R
  cases e : W.H0 p.1 with
  | none => rfl
  | some o =>
    have h := (R.mu p hp).1
    by_cases q : W.isRow p.1
    · have hM := l.m _ (Rep.isRow_M ok q)
      exact absurd h (R.wd.hid _ hM)
    · rw [l.keep _ o q e] at h
      cases h
theorem run_forG (hi : IterV X W Γ μ tg iter enc P) (hg : TgR X.K g ok put ks) (hpg : PG X tg g) (hok : ∀ xs, P xs → ∀ x ∈ xs, ok (enc x)) (J : List α → Nat → List DV → Mu → Prop) (h0 : ∀ xs, P xs → J xs 0 Γ μ)
    (hs : ∀ xs, P xs → ∀ W1, Wle W W1 → ∀ i x Γ' μ', xs[i]? = some x → J xs i Γ' μ' → Run X W1 (put (enc x) Γ') μ' body { D with nx := StP X.K W1 (J xs (i + 1)), ct := StP X.K W1 (J xs (i + 1)), bk := wSs X rest D })
    (hd' : ∀ xs, P xs → ∀ Γ' μ', J xs xs.length Γ' μ' → Run X W Γ' μ' rest D) (hp : PassesOwn (model X.prog X.w) X.A X.env X.xe := by exact PassesOwn.never) (hc : X.calm = true := by rfl) (hf : ∀ x, foldedSetIterable iter X.env x = pure x := by intro _; rfl) :
    Run X W Γ μ (.For tg iter body [] pos :: rest) D := fun σ H R => by
  obtain ⟨wi, h1, h2⟩ := hi
  refine wSs_cons ((ps_for hp hc h1 hpg wSs.ps hf).w ?_)
  refine h2 σ H R _ fun xs J' H1 px R1 e1 wk => ?_
  have le1 : Wle W (W.now μ H1) := R1.now_le
  refine ⟨fun i m σ H => m = xs.length - i ∧ i ≤ xs.length ∧ StP X.K (W.now μ H1) (J xs i) σ H, ⟨xs.length, by simp, Nat.zero_le _, Γ, μ, h0 xs px, R1.now⟩, ?_⟩
  rintro i m σ' H' ⟨rfl, hile, Γ', μ', j, R'⟩
  have pool : Same (off (hd W μ) H1) (off (hd (W.now μ H1) μ') H') := fun a o e => by
    obtain ⟨h1, h2⟩ := off_some e
    have z : (W.now μ H1).H0 a = some o := by
      show off (μ.map (·.1)) H1 a = some o
      rw [off_out (fun z => h1 (List.mem_append_right _ z))]
      exact h2
    rw [off_out (fun q => by
      rcases List.mem_append.mp q with q | q
      · exact h1 (List.mem_append_left _ q)
      · obtain ⟨p, hp, rfl⟩ := List.mem_map.mp q
        rw [(R'.mu p hp).1] at z
        cases z)]
    exact R'.fr.keep a o (fun q => h1 (List.mem_append_left _ (Rep.isRow_M R1.wd q))) z
  have pool0 : Same (off (hd W μ) H1) H' := fun a o e => (off_some (pool a o e)).2
  by_cases hlt : i < xs.length
  · refine .inr ⟨wk.go i H' (by simpa using hlt) pool0, StP X.K (W.now μ H1) (J xs (i + 1)), fun σ2 H2 q => ⟨xs.length - (i + 1), by omega, rfl, hlt, q⟩, fun v H2 y => ?_⟩
    obtain ⟨x, hx⟩ : ∃ x, xs[i]? = some x := ⟨xs[i], by simp [hlt]⟩
    obtain ⟨s2, r2⟩ := wk.yld i (enc x) H' v H2 _ (by rw [List.getElem?_map, hx]; rfl) R'.ne pool y
    have R2 := R'.same s2
    refine hg.run _ v (enc x) σ' H2 _ _ r2 (hok xs px x (List.mem_of_getElem? hx)) R2.sl fun σ3 sl3 _ _ => ?_
    exact hs xs px _ le1 i x Γ' μ' hx j σ3 H2 ⟨R2.wd, R2.fr, sl3, R2.mu, R2.nd⟩
  · have e : i = xs.length := by omega
    subst e
    refine .inl ⟨by have := wk.stop H' pool0; simpa using this, ?_⟩
    exact hd' xs px Γ' μ' j σ' H' (R'.wdown le1 R.wd)
/-- for n in iter -/
theorem run_for {xs : List α} {n : Str} (k : Nat) (hi : IterD X W Γ μ (.Name n p) iter enc xs) (J : Nat → List DV → Mu → Prop) (h0 : J 0 Γ μ)
    (hs : ∀ W1, Wle W W1 → ∀ i x Γ' μ', xs[i]? = some x → J i Γ' μ' → Run X W1 (Γ'.set k (.d (enc x))) μ' body { D with nx := StP X.K W1 (J (i + 1)), ct := StP X.K W1 (J (i + 1)), bk := wSs X rest D })
    (hd' : ∀ Γ' μ', J xs.length Γ' μ' → Run X W Γ' μ' rest D) (hN : X.N.Nodup) (hn : X.N[k]? = some n := by rfl) (hx : Loc X.env.scope n := by first | exact Or.inl rfl | exact Or.inr rfl) (hff : X.fn n = true ∨ X.env.scope.names.lookup n = some .local := by first | exact .inr rfl | exact .inl rfl)
    (hp : PassesOwn (model X.prog X.w) X.A X.env X.xe := by exact PassesOwn.never) (hc : X.calm = true := by rfl) (hf : ∀ x, foldedSetIterable iter X.env x = pure x := by intro _; rfl) :
    Run X W Γ μ (.For (.Name n p) iter body [] pos :: rest) D :=
  run_forG hi (tg_name k) (pg_name hN hn hx hff) (fun _ _ _ _ => trivial) (fun _ => J) (fun _ _ => h0) (fun _ e W1 l i x Γ' μ' h j => hs W1 l i x Γ' μ' (e ▸ h) j) (fun _ e Γ' μ' j => hd' Γ' μ' (e ▸ j)) hp hc hf
/-- the end of a turn -/
theorem run_turn {Φ : List DV → Mu → Prop} (hD : D.nx = StP X.K W Φ := by rfl) (h : Φ Γ μ) : Run X W Γ μ [] D := run_nil fun σ H R => by
  rw [hD]
  exact ⟨Γ, μ, h, R⟩
end
/-! ### defs -/
/-- a def of data: R tells what comes -/
def spR (K : PySem.W.Frag) (R : List PyData → PyData → Prop) : Sp := fun vs H Q _ => ∃ (L : List Addr) (ds : List PyData) (d : PyData), (∀ a ∈ L, H a ≠ none) ∧ VaAll K (off L H) vs ds ∧ R ds d ∧ ∀ v H', Same H H' → Va K (off L H') v d → Q v H'
/-- a def that draws from the row r (its first argument) -/
def spW (K : PySem.W.Frag) (pre : List PyData → Prop) (post : List PyData → PyData → Prop) : Sp := fun vs H Q _ => ∃ (M : List Addr) (r scr : Addr) (ns : List Int) (ws : List V) (ds : List PyData), vs = .ref r :: ws ∧ (∀ a ∈ M, H a ≠ none) ∧ r ∈ M ∧
  RowC H r scr ∧ SqL K H scr (ns.map V.int) ∧ scr ≠ r ∧ ns.length ≤ 63 ∧ VaAll K (off M H) ws ds ∧ pre ds ∧ ∀ v H' d, post ds d → (∀ a o, a ≠ r → H a = some o → H' a = some o) → RowC H' r scr → Va K (off M H') v d → Q v H'
/-- a def of the text, ready to be called -/
structure Fd (P : Program) (w : World) (K : PySem.W.Frag) (mg : Str → Option Value) (base : Heap) (k : Nat) (x : Str) (ps : List Str) (sp : Sp) : Prop where
  ex : ∃ (f : Addr) (fd : FuncData), FnOk P w K mg base CX0 k f fd ps sp ∧ mg x = some (.ref f) ∧ PySem.W.keepIn K (.ref f) = true ∧ Binds K fd ps []
section
variable {P : Program} {w : World} {K : PySem.W.Frag} {mg : Str → Option Value} {base : Heap} {x qual : Str} {params : Arguments} {body : List Stmt} {scope : Scope} {f : Addr} {fd : FuncData} {N ps : List Str} {k : Nat}
theorem slots_start {H : Hp} : ∀ {vs : List V} {ds : List PyData} (m : Nat), VaAll K H vs ds → Slots K H (vs.map some ++ List.replicate m none) (ds.map .d ++ List.replicate m .no) := fun {vs ds} m h => by
  refine ⟨by simp [h.length], fun i dv q => ?_⟩
  by_cases hl : i < ds.length
  · rw [List.getElem?_append_left (by simpa using hl), List.getElem?_map] at q
    obtain ⟨d, hd, rfl⟩ := Option.map_eq_some_iff.mp q
    obtain ⟨v, hv, r⟩ := h.at hd
    refine ⟨some v, ?_, v, rfl, r⟩
    rw [List.getElem?_append_left (by rw [List.length_map, h.length]; exact hl), List.getElem?_map, hv]
    rfl
  · rw [List.getElem?_append_right (by simp; omega), List.length_map] at q
    have hm : i - ds.length < m := by
      have := (List.getElem?_eq_some_iff.mp q).1
      simpa using this
    rw [List.getElem?_replicate, if_pos hm] at q
    cases q
    refine ⟨none, ?_, trivial⟩
    rw [List.getElem?_append_right (by simp [h.length]; omega), List.length_map, h.length, List.getElem?_replicate, if_pos hm]
theorem fd_pure (F : FunD K x qual params body scope [] [] f fd) (S : FnScope N ps scope) (R : List PyData → PyData → Prop) (hlen : ∀ ds d, R ds d → ds.length = ps.length)
    (h : ∀ (cdv : Value) (A : Around) (outer : List Env) (s : Shared) (H : Hp) (E : XK), Room k (A.deeper (envOfC qual scope s.heap.objs.size f cdv)) → ∀ (W : Wd) (ds : List PyData) (d : PyData), W.row = none → R ds d →
      Run (cxOf CX0 P w K mg base N qual scope f cdv A outer s H E).nox W (ds.map .d ++ List.replicate (N.length - ps.length) .no) [] body { nx := fun _ H' => RetP K W (fun z => z = d) .non H', rt := RetP K W (fun z => z = d) }) :
    FnOk P w K mg base CX0 (k + 1) f fd ps (spR K R) := by
  refine F.ok S (fun vs H Q E ⟨L, ds, d, _, hv, r, _⟩ => by rw [hv.length]; exact hlen ds d r) fun cdv A outer s H vs Q E hr ⟨L, ds, d, hL, hv, r, q⟩ => ?_
  refine ⟨_, PSs.nox wSs.ps, ?_⟩
  let W : Wd := ⟨H, L, none⟩
  have ok : WdOk K W := ⟨hL, fun _ _ _ e => nomatch e⟩
  have nr : ∀ a, ¬ W.isRow a := fun a ⟨_, _, e⟩ => nomatch e
  have sl : Slots K (off (hd W []) H) (start N vs) (ds.map .d ++ List.replicate (N.length - ps.length) .no) := by
    show Slots K (off (L ++ []) H) (vs.map some ++ List.replicate (N.length - vs.length) none) _
    rw [List.append_nil, hv.length, hlen ds d r]
    exact slots_start _ hv
  have ret : ∀ v H', RetP K W (fun z => z = d) v H' → Q v H' := fun v H' ⟨fr, d', e, hv'⟩ => q v H' (fun a o e => fr.keep a o (nr a) e) (e ▸ hv')
  intro pins st I
  have z := h cdv A outer s H E hr W ds d rfl r (start N vs) H ⟨ok, ⟨fun _ _ _ e => e, fun _ _ _ e => nomatch e⟩, sl, fun _ z => (nomatch z), List.nodup_nil⟩ pins st I
  refine wpAny_mono z (fun fl s' hq => ?_) fun _ _ z => z
  cases fl with
  | next =>
    obtain ⟨σ', H', I', q'⟩ := hq
    exact ⟨σ', H', I', ret _ _ q'⟩
  | brk => exact hq
  | cont => exact hq
  | ret u =>
    obtain ⟨v, σ', H', I', r', q'⟩ := hq
    exact ⟨v, σ', H', I', r', ret _ _ q'⟩
theorem fd_row (F : FunD K x qual params body scope [] [] f fd) (S : FnScope N ps scope) (pre : List PyData → Prop) (post : List PyData → PyData → Prop) (hlen : ∀ ds, pre ds → ds.length + 1 = ps.length)
    (h : ∀ (cdv : Value) (A : Around) (outer : List Env) (s : Shared) (H : Hp) (E : XK), Room k (A.deeper (envOfC qual scope s.heap.objs.size f cdv)) → ∀ (W : Wd) (r scr : Addr) (ns : List Int) (ds : List PyData), W.row = some (r, scr, ns) → pre ds →
      Run (cxOf CX0 P w K mg base N qual scope f cdv A outer s H E).nox W (.r r :: (ds.map .d ++ List.replicate (N.length - ps.length) .no)) [] body { nx := fun _ H' => RetP K W (post ds) .non H', rt := RetP K W (post ds) }) :
    FnOk P w K mg base CX0 (k + 1) f fd ps (spW K pre post) := by
  refine F.ok S (fun vs H Q E ⟨M, r, scr, ns, ws, ds, e, _, _, _, _, _, _, hv, hpre, _⟩ => by rw [e, List.length_cons, hv.length]; exact hlen ds hpre) fun cdv A outer s H vs Q E hr ⟨M, r, scr, ns, ws, ds, e, hM, hrM, hR, hS, hne, hns, hv, hp, q⟩ => ?_
  refine ⟨_, PSs.nox wSs.ps, ?_⟩
  let W : Wd := ⟨H, M, some (r, scr, ns)⟩
  have ok : WdOk K W := ⟨hM, fun r' s' n' e => by cases e; exact ⟨hrM, hS, hne, hns⟩⟩
  have nr : ∀ a, a ≠ r → ¬ W.isRow a := fun a n ⟨_, _, e⟩ => by cases e; exact n rfl
  have sl : Slots K (off (hd W []) H) (start N vs) (.r r :: (ds.map .d ++ List.replicate (N.length - ps.length) .no)) := by
    show Slots K (off (M ++ []) H) (vs.map some ++ List.replicate (N.length - vs.length) none) _
    rw [List.append_nil, e, List.length_cons, hv.length, hlen ds hp]
    have z := slots_start (K := K) (N.length - ps.length) hv
    refine ⟨by simp [z.len, hv.length], fun i dv hi => ?_⟩
    cases i with
    | zero => cases hi; exact ⟨_, rfl, rfl⟩
    | succ i => exact z.at_ i dv hi
  have ret : ∀ v H', RetP K W (post ds) v H' → Q v H' := fun v H' ⟨fr, d', e, hv'⟩ => q v H' d' e (fun a o n e => fr.keep a o (nr a n) e) (fr.row _ _ _ rfl) hv'
  intro pins st I
  have z := h cdv A outer s H E hr W r scr ns ds rfl hp (start N vs) H ⟨ok, ⟨fun _ _ _ e => e, fun r' s' n' e => by cases e; exact hR⟩, sl, fun _ z => (nomatch z), List.nodup_nil⟩ pins st I
  refine wpAny_mono z (fun fl s' hq => ?_) fun _ _ z => z
  cases fl with
  | next =>
    obtain ⟨σ', H', I', q'⟩ := hq
    exact ⟨σ', H', I', ret _ _ q'⟩
  | brk => exact hq
  | cont => exact hq
  | ret u =>
    obtain ⟨v, σ', H', I', r', q'⟩ := hq
    exact ⟨v, σ', H', I', r', ret _ _ q'⟩
theorem Fd.mono {j : Nat} {sp : Sp} (F : Fd P w K mg base j x ps sp) (h : j ≤ k) : Fd P w K mg base k x ps sp := by
  obtain ⟨f, fd, h1, h2⟩ := F.ex
  exact ⟨f, fd, h1.mono h, h2⟩
end
/-! ### calls of defs -/
section
variable {X : Cx} {W : Wd} {Γ : List DV} {μ : Mu} {e : Expr} {es : List Expr} {pos p : Pos} {x : Str} {ps : List Str} {k : Nat} {d : PyData} {ds : List PyData}
theorem ev_call {R : List PyData → PyData → Prop} {A : List PyData → Prop} {B : PyData → Prop} (F : Fd X.prog X.w X.K X.mg X.base k x ps (spR X.K R)) (hr : Room k X.A) (ha : EvA X W Γ μ (e :: es) A) (hR : ∀ ds, A ds → ∃ d, R ds d ∧ B d) (hg : Gl X x := by rfl)
    (hdb : (x == ("__debug__" : Str)) = false := by decide) (he : starEach (e :: es) X.env = (false, eval e X.env) :: starEach es X.env := by rfl) (hpl : (backTo pos (starEach es X.env)).any (·.1) = false := by rfl) : Ev X W Γ μ (.Call (.Name x p) (e :: es) [] pos) B := fun σ H R Q q => by
  obtain ⟨f, fd, h1, h2, h3, h4⟩ := F.ex
  refine (pe_call h1 hr hg h2 h3 h4 .nil pass0 wA.pa hdb he hpl).w (ha σ H R _ fun vs ds H2 R2 e2 r2 pa => ?_)
  obtain ⟨d, hd, pb⟩ := hR ds pa
  refine ⟨HW.hd W μ, ds, d, R2.ne, by rw [List.append_nil]; exact r2, hd, fun v H3 s3 r3 => q v d H3 (R2.same s3) (e2.trans (XT.same s3)) r3 pb⟩
theorem ed_call {R : List PyData → PyData → Prop} (F : Fd X.prog X.w X.K X.mg X.base k x ps (spR X.K R)) (hr : Room k X.A) (ha : EdA X W Γ μ (e :: es) ds) (hR : R ds d) (hg : Gl X x := by rfl)
    (hdb : (x == ("__debug__" : Str)) = false := by decide) (he : starEach (e :: es) X.env = (false, eval e X.env) :: starEach es X.env := by rfl) (hpl : (backTo pos (starEach es X.env)).any (·.1) = false := by rfl) : Ed X W Γ μ (.Call (.Name x p) (e :: es) [] pos) d :=
  (ev_call (B := fun z => z = d) F hr (ha.ev (P := fun l => l = ds) rfl) (fun _ e => ⟨d, e ▸ hR, rfl⟩) hg hdb he hpl).ed
/-- f(row, ..), f a def that draws -/
theorem ev_draw {pre : List PyData → Prop} {post : List PyData → PyData → Prop} {A : List PyData → Prop} {n : Str} {p2 : Pos} {r scr : Addr} {ns : List Int} (F : Fd X.prog X.w X.K X.mg X.base k x ps (spW X.K pre post)) (hr : Room k X.A) (hrow : W.row = some (r, scr, ns)) (i : Nat) (ha : EvA X W Γ μ es A) (hR : ∀ ds, A ds → pre ds)
    (hi : Γ[i]? = some (.r r) := by rfl) (hN : X.N[i]? = some n := by rfl) (hv : Vis X.env.scope n := by first | exact Or.inl rfl | exact Or.inr (Or.inl rfl) | exact Or.inr (Or.inr rfl))
    (h1 : (n == ("__debug__" : Str)) = false := by decide) (h2 : (n == ("__classdict__" : Str)) = false := by decide) (hg : Gl X x := by rfl)
    (hdb : (x == ("__debug__" : Str)) = false := by decide) (he : starEach (.Name n p2 :: es) X.env = (false, eval (.Name n p2) X.env) :: starEach es X.env := by rfl) (hpl : (backTo pos (starEach es X.env)).any (·.1) = false := by rfl) :
    Ev X W Γ μ (.Call (.Name x p) (.Name n p2 :: es) [] pos) (fun d => ∃ ds, A ds ∧ post ds d) := fun σ H R Q q => by
  obtain ⟨f, fd, g1, g2, g3, g4⟩ := F.ex
  refine (pe_call g1 hr hg g2 g3 g4 .nil pass0 (pa_cons (pe_var hN hv h1 h2) wA.pa he) hdb he hpl).w ?_
  obtain ⟨o, e1, e2⟩ := R.sl.at_ i _ hi
  have e2' : o = some (.ref r) := e2
  subst e2'
  refine ⟨_, e1, ha σ H R _ fun vs ds H2 R2 e2 r2 pa => ?_⟩
  obtain ⟨w1, w2, w3, w4⟩ := R2.wd.row r scr ns hrow
  have isr : W.isRow r := ⟨scr, ns, hrow⟩
  have sq : SqL X.K H2 scr (ns.map V.int) := SqL.up (fun o e => R2.fr.keep scr o (fun ⟨s2, n2, z⟩ => by
    rw [hrow] at z
    cases z
    exact w3 rfl) e) w2
  refine ⟨hd W μ, r, scr, ns, vs, ds, by rw [List.append_nil], R2.ne, List.mem_append_left _ w1, R2.fr.row r scr ns hrow, sq, w3, w4, r2, hR ds pa, fun v H3 d pd keep rc r3 => ?_⟩
  have nor : ∀ a, ¬ W.isRow a → a ≠ r := fun a n z => n (z ▸ isr)
  have xt : XT (hd W μ) H2 H3 := fun a o e => by
    obtain ⟨h1, h2⟩ := off_some e
    rw [off_out h1]
    exact keep a o (fun z => h1 (List.mem_append_left _ (z ▸ w1))) h2
  have R3 : Rep X.K W Γ μ σ H3 := ⟨R2.wd, ⟨fun a o n e => keep a o (nor a n) (R2.fr.keep a o n e), fun r' s' n' e => by
    rw [hrow] at e
    cases e
    exact rc⟩, R2.sl.up xt, fun p hp => ⟨(R2.mu p hp).1, (R2.mu p hp).2.up xt fun o e => keep _ o (fun z => by
      have := (R2.mu p hp).1
      rw [z] at this
      exact R2.wd.hid r w1 this) e⟩, R2.nd⟩
  exact q v d H3 R3 (e2.trans xt) r3 ⟨ds, pa, pd⟩
end
end HW
set_option maxHeartbeats 4000000
namespace HW
open PySem PySem.Spec PyProof.Rows L2
open SX (S)
section
variable {X : Cx}
theorem IxR.to {r r' : R2} (h : IxR X r) (i : ∀ a b H Q, r' a b H Q → r a b H Q) : IxR X r' := fun e1 e2 pins s σ H x y v u Q I rx ry q hs => h e1 e2 pins s σ H x y v u Q I rx ry (i _ _ _ _ q) hs
theorem MtR.to {id : String} {r r' : V → List V → Hp → VK → Prop} (h : MtR X id r) (i : ∀ x vs H Q, r' x vs H Q → r x vs H Q) : MtR X id r' := fun pins s σ H x xs v us Q I rx rv q => h pins s σ H x xs v us Q I rx rv (i _ _ _ _ q)
/-! ### numbers -/
variable {i j : Int}
theorem o_add : OpD X (binaryOp .Add) (.int i) (.int j) (.int (i + j)) := OpR.to op_add fun a b H Q ⟨L, _, ha, hb, k⟩ => by cases ha; cases hb; exact ⟨i, j, rfl, rfl, k _ _ (Same.refl _) (.int _)⟩
theorem o_sub : OpD X (binaryOp .Sub) (.int i) (.int j) (.int (i - j)) := OpR.to op_sub fun a b H Q ⟨L, _, ha, hb, k⟩ => by cases ha; cases hb; exact ⟨i, j, rfl, rfl, k _ _ (Same.refl _) (.int _)⟩
theorem c_le : OpD X (compareOp .LtE) (.int i) (.int j) (.bool (decide (i ≤ j))) := OpR.to op_le fun a b H Q ⟨L, _, ha, hb, k⟩ => by cases ha; cases hb; exact ⟨i, j, rfl, rfl, k _ _ (Same.refl _) (.bl _)⟩
theorem c_gt : OpD X (compareOp .Gt) (.int i) (.int j) (.bool (decide (j < i))) := OpR.to op_gt fun a b H Q ⟨L, _, ha, hb, k⟩ => by cases ha; cases hb; exact ⟨i, j, rfl, rfl, k _ _ (Same.refl _) (.bl _)⟩
theorem c_eqI : OpD X (compareOp .Eq) (.int i) (.int j) (.bool (decide (i = j))) := OpR.to op_eq fun a b H Q ⟨L, _, ha, hb, k⟩ => by
  cases ha; cases hb
  refine ⟨rfl, ?_⟩
  rw [dec_int, Bool.beq_eq_decide_eq]
  exact k _ _ (Same.refl _) (.bl _)
theorem c_neI : OpD X (compareOp .NotEq) (.int i) (.int j) (.bool (!decide (i = j))) := OpR.to op_ne fun a b H Q ⟨L, _, ha, hb, k⟩ => by
  cases ha; cases hb
  refine ⟨rfl, ?_⟩
  rw [dec_int, Bool.beq_eq_decide_eq]
  exact k _ _ (Same.refl _) (.bl _)
/-! ### any data -/
theorem c_eqD {x y : PyData} (hu : X.A.units + 64 < cLine) (hx : SeqAt.shaped x = true) (hy : SeqAt.shaped y = true) : OpD X (compareOp .Eq) x y (.bool (PyData.eqv x y)) := OpR.to (op_eqD hu) fun a b H Q ⟨L, _, ha, hb, k⟩ =>
  ⟨x, y, (ha.up same_off).dp (nod_of_lay (SeqAt.canLay_of_shaped hx)), (hb.up same_off).dp (nod_of_lay (SeqAt.canLay_of_shaped hy)), hx, hy, k _ _ (Same.refl _) (.bl _)⟩
theorem c_neD {x y : PyData} (hu : X.A.units + 64 < cLine) (hx : SeqAt.shaped x = true) (hy : SeqAt.shaped y = true) : OpD X (compareOp .NotEq) x y (.bool (!PyData.eqv x y)) := OpR.to (op_neD hu) fun a b H Q ⟨L, _, ha, hb, k⟩ =>
  ⟨x, y, (ha.up same_off).dp (nod_of_lay (SeqAt.canLay_of_shaped hx)), (hb.up same_off).dp (nod_of_lay (SeqAt.canLay_of_shaped hy)), hx, hy, k _ _ (Same.refl _) (.bl _)⟩
/-! ### texts -/
variable {l m : List Nat}
theorem S_eq {a b : List Nat} : decide (V.str (S a) = V.str (S b)) = decide (a = b) := by rw [dec_str, SX.S_beq_eq]
theorem c_eqS : OpD X (compareOp .Eq) (.str (S l)) (.str (S m)) (.bool (decide (l = m))) := OpR.to op_eq fun a b H Q ⟨L, _, ha, hb, k⟩ => by
  cases ha; cases hb
  refine ⟨rfl, ?_⟩
  rw [S_eq]
  exact k _ _ (Same.refl _) (.bl _)
theorem c_neS : OpD X (compareOp .NotEq) (.str (S l)) (.str (S m)) (.bool (!decide (l = m))) := OpR.to op_ne fun a b H Q ⟨L, _, ha, hb, k⟩ => by
  cases ha; cases hb
  refine ⟨rfl, ?_⟩
  rw [S_eq]
  exact k _ _ (Same.refl _) (.bl _)
theorem o_adds (h : l.length + m.length ≤ 16777216) : OpD X (binaryOp .Add) (.str (S l)) (.str (S m)) (.str (S (l ++ m))) := OpR.to op_add_str fun a b H Q ⟨L, _, ha, hb, k⟩ => by
  cases ha; cases hb
  refine ⟨_, _, rfl, rfl, by rw [SX.S_len, SX.S_len]; exact h, ?_⟩
  rw [SX.S_cat]
  exact k _ _ (Same.refl _) (.str _)
/-- one sign in a text -/
theorem c_inS {c : Nat} : OpD X (compareOp .In) (sg c) (.str (S m)) (.bool (decide (c ∈ m))) := OpR.to op_in_sign fun a b H Q ⟨L, _, ha, hb, k⟩ => by
  cases ha; cases hb
  exact ⟨c, S m, rfl, rfl, k _ _ (Same.refl _) (.bl _)⟩
theorem at_nat {α : Type} {l : List α} {i : Int} {n : Nat} {c : α} (e : i = (n : Int)) (h : l[n]? = some c) : atI l i = some c := by
  rw [e]
  have hl := (List.getElem?_eq_some_iff.mp h).1
  unfold atI ixN
  rw [if_pos (Int.natCast_nonneg n), if_pos (by omega)]
  simpa using h
theorem i_str {c : Nat} {n : Nat} (hl : l.length ≤ 16777216) (hc : l[n]? = some c) (e : i = (n : Int) := by rfl) : IxD X (.str (S l)) (.int i) (sg c) := IxR.to ix_str fun a b H Q ⟨L, _, ha, hb, k⟩ => by
  cases ha; cases hb
  exact ⟨S l, i, c, rfl, rfl, by rw [SX.S_len]; exact hl, at_nat e hc, k _ _ (Same.refl _) (.str _)⟩
/-- s[-1] -/
theorem at_last {α : Type} {l : List α} {c : α} (h : l.getLast? = some c) : atI l (-1) = some c := by
  have hl : l ≠ [] := by rintro rfl; simp at h
  have hp : 0 < l.length := List.length_pos_iff.mpr hl
  unfold atI ixN
  rw [if_neg (by decide), if_pos (by omega)]
  have e : ((-1 : Int) + (l.length : Int)).toNat = l.length - 1 := by omega
  show l[((-1 : Int) + (l.length : Int)).toNat]? = some c
  rw [e, ← h, List.getLast?_eq_getElem?]
theorem i_strL {c : Nat} (hl : l.length ≤ 16777216) (hc : l.getLast? = some c) : IxD X (.str (S l)) (.int (-1)) (sg c) := IxR.to ix_str fun a b H Q ⟨L, _, ha, hb, k⟩ => by
  cases ha; cases hb
  exact ⟨S l, -1, c, rfl, rfl, by rw [SX.S_len]; exact hl, at_last hc, k _ _ (Same.refl _) (.str _)⟩
theorem c_lenS (h : l.length ≤ 16777216) : CallD X (.builtin "len") [.str (S l)] (nn l.length) := CallR.to call_len_str fun vs H Q ⟨L, _, hv, k⟩ => by
  cases hv with
  | cons h1 h2 =>
    cases h2; cases h1
    refine ⟨_, rfl, by rw [SX.S_len]; exact h, ?_⟩
    rw [SX.S_len]
    exact k _ _ (Same.refl _) (.int _)
/-! ### lists, tuples -/
variable {ds es : List PyData} {d : PyData}
theorem c_lenL : CallD X (.builtin "len") [.list ds] (nn ds.length) := CallR.to call_len_seq fun vs H Q ⟨L, _, hv, k⟩ => by
  cases hv with
  | cons h1 h2 =>
    cases h2
    cases h1 with
    | lst ha hs => exact ⟨_, _, rfl, .inl (SqL.of (off_some ha).2), by rw [hs.length]; exact k _ _ (Same.refl _) (.int _)⟩
theorem i_list {n : Nat} (hd : ds[n]? = some d) (e : i = (n : Int) := by rfl) : IxD X (.list ds) (.int i) d := IxR.to ix_list fun a b H Q ⟨L, _, ha, hb, k⟩ => by
  cases hb
  cases ha with
  | lst ha hs =>
    obtain ⟨v, hv, r⟩ := hs.at hd
    exact ⟨_, _, i, v, rfl, rfl, SqL.of (off_some ha).2, at_nat e hv, k _ _ (Same.refl _) r⟩
theorem o_cat (h : ds.length + es.length ≤ 16777216) : OpD X (binaryOp .Add) (.list ds) (.list es) (.list (ds ++ es)) := OpR.to op_cat fun a b H Q ⟨L, hL, ha, hb, k⟩ => by
  cases ha with
  | lst ha hs =>
    cases hb with
    | lst hb ht =>
      refine ⟨_, _, _, _, rfl, rfl, (off_some ha).2, (off_some hb).2, by rw [hs.length, ht.length]; exact h, fun p hp => ?_⟩
      exact k _ _ (same_new hp) (.lst (off_upd (new_out hL hp)) ((hs.app ht).up (XT.same (same_new hp))))
theorem c_all {bs : List Bool} (hc : X.calm = true) : CallD X (.builtin "all") [.list (bs.map .bool)] (.bool (bs.all id)) := CallR.to (cr_all hc) fun vs H Q ⟨L, _, hv, k⟩ => by
  cases hv with
  | cons h1 h2 =>
    cases h2
    cases h1 with
    | lst ha hs => exact ⟨_, bs, rfl, by rw [← hs.bls]; exact SqL.of (off_some ha).2, k _ _ (Same.refl _) (.bl _)⟩
theorem c_intB {b : Bool} : CallD X (.type "int") [.bool b] (.int (if b then 1 else 0)) := CallR.to call_int1 fun vs H Q ⟨L, _, hv, k⟩ => by
  cases hv with
  | cons h1 h2 =>
    cases h2; cases h1
    exact .inr ⟨b, rfl, k _ _ (Same.refl _) (.int _)⟩
end
/-! ### methods of texts: sep.join -/
section
variable {X : Cx} {W : Wd} {Γ : List DV} {μ : Mu} {e o : Expr} {pos apos p : Pos} {l : List Nat} {ws : List (List Nat)}
theorem flat_join : ∀ ws : List (List Nat), TL.joinL [] ws = ws.flatten
  | [] => rfl
  | [w] => by simp [TL.joinL]
  | w :: v :: r => by
    have ih := flat_join (v :: r)
    rw [List.flatten_cons, ← ih]
    simp [TL.joinL]
theorem vaAll_S {K : PySem.W.Frag} {H : Hp} {vs : List V} (h : VaAll K H vs (ws.map fun w => PyData.str (S w))) : vs = (ws.map S).map V.str := by
  have e : (ws.map fun w => PyData.str (S w)) = (ws.map S).map PyData.str := by rw [List.map_map]; rfl
  rw [e] at h
  exact h.strs
theorem ev_join {Ws : List (List Nat) → Prop} (ho : Ed X W Γ μ o (.str (S []))) (he : Ev X W Γ μ e (fun z => ∃ ws : List (List Nat), z = .list (ws.map fun w => .str (S w)) ∧ Ws ws)) (hz : ∀ ws, Ws ws → (ws.map List.length).sum ≤ 16777216)
    (hs : starEach [e] X.env = [(false, eval e X.env)] := by rfl) (hbase : attributeBase o "join" X.env (eval o X.env) = eval o X.env := by rfl) (hline : (apos.endLine == pos.line) = true := by rfl) :
    Ev X W Γ μ (.Call (.Attribute o "join" apos) [e] [] pos) (fun z => ∃ ws, z = .str (S ws.flatten) ∧ Ws ws) := fun σ H R Q q => by
  refine (pe_join wE.pe wE.pe hs hbase hline).w (ho σ H R _ fun v H2 R2 e2 r2 => ?_)
  cases r2
  refine ⟨⟨_, rfl⟩, he σ H2 R2 _ fun v d H3 R3 e3 r3 ⟨ws, ed, pw⟩ => ?_⟩
  subst ed
  cases r3 with
  | lst ha hv =>
    have ev := vaAll_S hv
    refine ⟨S [], _, ws.map S, rfl, rfl, .inl (by rw [← ev]; exact SqL.of (off_some ha).2), ?_, ?_⟩
    · rw [List.map_map]
      have z := hz ws pw
      have e1 : (ws.map ((fun x : Str => x.length) ∘ S)) = ws.map List.length := List.map_congr_left fun w _ => SX.S_len w
      rw [e1, SX.S_len]
      simpa using z
    · rw [SX.join_S, flat_join]
      exact q _ _ H3 R3 (e2.trans e3) (.str _) ⟨ws, rfl, pw⟩
/-! ### slices -/
theorem po_int {lo : Expr} {z : Int} (h : Ed X W Γ μ lo (.int z)) : ∀ σ H, Rep X.K W Γ μ σ H → ∀ Q : Option Int → Hp → Prop, (∀ H2, Rep X.K W Γ μ σ H2 → XT (hd W μ) H H2 → Q (some z) H2) → tPart (wE X lo) σ H Q := fun σ H R Q q => h σ H R _ fun v H2 R2 e2 r => by
  cases r
  exact ⟨z, rfl, q H2 R2 e2⟩
/-- a part of a slice -/
def EdO (X : Cx) (W : Wd) (Γ : List DV) (μ : Mu) (e : Option Expr) (o : Option Int) : Prop := ∃ t, PO X e t ∧ ∀ σ H, Rep X.K W Γ μ σ H → ∀ Q : Option Int → Hp → Prop, (∀ H2, Rep X.K W Γ μ σ H2 → XT (hd W μ) H H2 → Q o H2) → t σ H Q
theorem so_none : EdO X W Γ μ none none := ⟨_, po_none, fun σ H R Q q => q H R XT.refl⟩
theorem so_some {z : Int} (h : Ed X W Γ μ e (.int z)) : EdO X W Γ μ (some e) (some z) := ⟨_, po_some wE.pe, po_int h⟩
/-- a slice by values -/
def rDs (K : PySem.W.Frag) (d : PyData) (lo hi : Option Int) (z : PyData) : V → Option Int → Option Int → Hp → VK → Prop := fun v l h H Q => l = lo ∧ h = hi ∧ ∃ L : List Addr, (∀ a ∈ L, H a ≠ none) ∧ Va K (off L H) v d ∧ ∀ v' H2, Same H H2 → Va K (off L H2) v' z → Q v' H2
def SlD (X : Cx) (d : PyData) (lo hi : Option Int) (z : PyData) : Prop := L2.SlR X (rDs X.K d lo hi z)
theorem SlR.to {r r' : V → Option Int → Option Int → Hp → VK → Prop} (h : L2.SlR X r) (i : ∀ x l u H Q, r' x l u H Q → r x l u H Q) : L2.SlR X r' := fun pins s σ H x v vl vu lo hi sl Q I rx hs pl pu q => h pins s σ H x v vl vu lo hi sl Q I rx hs pl pu (i _ _ _ _ _ q)
theorem ed_sl {a : Expr} {lo hi : Option Expr} {l u : Option Int} {d z : PyData} {p2 : Pos} (ha : Ed X W Γ μ a d) (hl : EdO X W Γ μ lo l) (hu : EdO X W Γ μ hi u) (hs : SlD X d l u z) : Ed X W Γ μ (.Subscript a (.Slice lo hi none p2) pos) z := fun σ H R Q q => by
  obtain ⟨tl, l1, l2⟩ := hl
  obtain ⟨tu, u1, u2⟩ := hu
  refine (pe_slice (r := rDs X.K d l u z) hs wE.pe l1 u1).w (ha σ H R _ fun v H2 R2 e2 r2 => l2 σ H2 R2 _ fun H3 R3 e3 => u2 σ H3 R3 _ fun H4 R4 e4 => ?_)
  exact ⟨rfl, rfl, hd W μ, R4.ne, (r2.up e3).up e4, fun v' H5 s5 r5 => q v' H5 (R4.same s5) (((e2.trans e3).trans e4).trans (XT.same s5)) r5⟩
end
section
variable {X : Cx} {l : List Nat} {ds : List PyData} {n m : Nat}
theorem s_list {lo hi : Option Int} : SlD X (.list ds) lo hi (.list ((ds.drop (HT.sIx ds.length 0 lo)).take (HT.sIx ds.length ds.length hi - HT.sIx ds.length 0 lo))) := SlR.to sl_list fun v l u H Q ⟨e1, e2, L, hL, hv, k⟩ => by
  subst e1 e2
  cases hv with
  | lst ha hs =>
    refine ⟨_, _, rfl, SqL.of (off_some ha).2, fun p hp => ?_⟩
    refine k _ _ (same_new hp) (.lst (off_upd (new_out hL hp)) ?_)
    unfold cutV
    rw [hs.length]
    exact ((hs.drop _).take _).up (XT.same (same_new hp))
/-- x[:n], x[n:], x[n:m] -/
theorem s_listT (n : Nat) {z : Int} (e : z = (n : Int) := by rfl) : SlD X (.list ds) none (some z) (.list (ds.take n)) := by
  have h := s_list (X := X) (ds := ds) (lo := none) (hi := some z)
  subst e
  rw [HT.sIx_none, HT.sIx_nat, List.drop_zero, Nat.sub_zero] at h
  have e2 : ds.take (min n ds.length) = ds.take n := by
    rw [Nat.min_def]
    split
    · rfl
    · rw [List.take_of_length_le (by omega), List.take_of_length_le (by omega)]
  rw [e2] at h
  exact h
theorem s_listD (n : Nat) {z : Int} (e : z = (n : Int) := by rfl) : SlD X (.list ds) (some z) none (.list (ds.drop n)) := by
  have h := s_list (X := X) (ds := ds) (lo := some z) (hi := none)
  subst e
  rw [HT.sIx_none, HT.sIx_nat] at h
  have e2 : (ds.drop (min n ds.length)).take (ds.length - min n ds.length) = ds.drop n := by
    rw [Nat.min_def]
    split
    · rw [List.take_of_length_le (by simp)]
    · rw [List.drop_of_length_le (by omega), List.drop_of_length_le (by omega)]
      simp
  rw [e2] at h
  exact h
end
/-! ### isinstance -/
def tyD : PyData → String
  | .none => "NoneType"
  | .bool _ => "bool"
  | .int _ => "int"
  | .str _ => "str"
  | .list _ => "list"
  | .tuple _ => "tuple"
  | .dict _ => "dict"
def isPtr : PyData → Bool
  | .dict (_ :: _) => true
  | _ => false
theorem va_ty {K : PySem.W.Frag} {H : Hp} {L : List Addr} {v : V} {d : PyData} (h : Va K (off L H) v d) (hp : isPtr d = false) : TyX K H v (.type (tyD d)) := by
  cases h with
  | non => exact .base .non
  | bl b => exact .base (.bl b)
  | int i => exact .base (.int i)
  | str x => exact .base (.str x)
  | lst ha _ => exact .base (.lst (off_some ha).2)
  | tup ha _ =>
    rcases SqT.up same_off ha with (h | ⟨o, h⟩) | ⟨o, its, n, hk, hc, _⟩
    · exact .base (.tup h)
    · exact .fTuple h
    · exact .kTuple hk hc
  | dct ha => exact .base (.dK (off_some ha).2)
  | ptr a => cases hp
  | dcf _ _ _ => cases hp
  | dtf _ _ _ => cases hp
section
variable {X : Cx} {W : Wd} {Γ : List DV} {μ : Mu} {e : Expr} {d : PyData} {pos p p2 : Pos} {b : Bool}
theorem ed_isi {T : String} {n : Str} (he : Ed X W Γ μ e d) (hm : X.mg "isinstance" = none) (hmT : X.mg n = none) (hv : bootBuiltins n = some (.type T)) (hk : ∀ K, PySem.W.kitOne K (.type (tyD d)) (.type T) = some b := by intro K; rfl) (hp : isPtr d = false := by first | rfl | assumption) (hg : Gl X "isinstance" := by rfl) (hgT : Gl X n := by rfl)
    (hn : n ≠ "__name__" := by decide) (hdb : (n == ("__debug__" : Str)) = false := by decide)
    (hs : starEach [e, .Name n p2] X.env = (false, eval e X.env) :: starEach [.Name n p2] X.env := by rfl) (hs2 : starEach [.Name n p2] X.env = (false, eval (.Name n p2) X.env) :: starEach [] X.env := by rfl) (hpl : (backTo pos (starEach [.Name n p2] X.env)).any (·.1) = false := by rfl) :
    Ed X W Γ μ (.Call (.Name "isinstance" p) [e, .Name n p2] [] pos) (.bool b) := fun σ H R Q q => by
  refine (pe_callB call_isi hg hm boot_isinstance (pa_cons wE.pe (pa_cons (pe_bltn (v := .ty T) hgT hmT hv rfl hn hdb) pa_nil hs2) hs) (by decide) (by decide) hs hpl).w (he σ H R _ fun v H2 R2 e2 r2 => ?_)
  exact ⟨v, .ty T, _, _, b, rfl, .ty T, va_ty r2 hp, hk _, q _ H2 R2 e2 (.bl b)⟩
end
end HW
set_option maxHeartbeats 4000000
namespace HW
open PySem PySem.Spec PyProof.Rows L2
open SX (S)
/-! ### what is gone through, in one shape -/
inductive Sc where
  | txt (x : Str) | lst (a : Addr) | tup (a : Addr)
def Sc.v : Sc → V
  | .txt x => .str x
  | .lst a => .ref a
  | .tup a => .ref a
def signsV (x : Str) : List V := x.cps.toList.map fun c => .str ⟨#[c]⟩
def Sc.xs (K : PySem.W.Frag) (H : Hp) : Sc → List V → Prop
  | .txt x, xs => xs = signsV x
  | .lst a, xs => SqL K H a xs
  | .tup a, xs => SqT K H a xs
def Sc.fp : Sc → List Addr
  | .txt _ => []
  | .lst a => [a]
  | .tup a => [a]
def Sc.it : Sc → Tok → Addr → Nat → Heap → Prop
  | .txt x, t, it, i, h => h.IsStrIter it (strIterType x) x t i
  | .lst a, _, it, i, h => h.IsListIter it a i
  | .tup a, _, it, i, h => h.IsTupleIter it a i
theorem Sc.at {k : Sc} {t : Tok} {it : Addr} {i : Nat} {h h' : Heap} (s : k.it t it i h) (e : ∀ o, h.get? it = some o → h'.get? it = some o) : k.it t it i h' := by
  cases k with
  | txt x => let ⟨o, ho, r⟩ := s; exact ⟨o, e o ho, r⟩
  | lst a => exact Heap.IsListIter.at s e
  | tup a => exact Heap.IsTupleIter.at s e
theorem Sc.obj {k : Sc} {t : Tok} {it : Addr} {i : Nat} {h : Heap} (s : k.it t it i h) : ∃ o, h.get? it = some o ∧ ∀ v, o.data ≠ .cell v := by
  cases k with
  | txt x => obtain ⟨o, e, c, d⟩ := s; exact ⟨o, e, fun v z => by rw [d] at z; cases z⟩
  | lst a => obtain ⟨o, e, c, d⟩ := s; exact ⟨o, e, fun v z => by rw [d] at z; cases z⟩
  | tup a => obtain ⟨o, e, c, d⟩ := s; exact ⟨o, e, fun v z => by rw [d] at z; cases z⟩
theorem Sc.inj {X : Cx} {pins : List (Addr × Obj)} {σ : L2.St} {H : Hp} {s : Shared} {k : Sc} {xs ys : List V} (I : Inv X pins σ H s) (h : k.xs X.K H xs) (h' : k.xs X.K H ys) : xs = ys := by
  cases k with
  | txt x => exact Eq.trans (show xs = signsV x from h) (show ys = signsV x from h').symm
  | lst a => exact I.list_inj h h'
  | tup a => exact I.tuple_inj h h'
/-! ### zip -/
/-! ### enumerate -/
/-! ### over data -/
/-- a pair -/
abbrev pr2 (x y : PyData) : PyData := .tuple [x, y]
section
variable {X : Cx} {W : Wd} {Γ : List DV} {μ : Mu} {α β : Type} {a b : Expr} {pos p tpos : Pos} {elts : List Expr} {kk : Nat} {d d2 : PyData} {enc : α → PyData} {enc2 : β → PyData} {xs : List α} {ys : List β}
end
end HW
set_option maxHeartbeats 4000000
namespace HW
open PySem PySem.Spec PyProof.Rows L2
open SX (S)
/-! ### the distinct items, as they are first met -/
section
variable {α : Type} [DecidableEq α]
end
/-! ### set(list) of keys of one kind -/
section
variable {prog : Program} {w : World} {K : Type} [DecidableEq K] {knd : KeyKind prog w K} {A : Around} {R : Result → Shared → Prop} {I : Addr} {fp wr : List Addr} {G : Array GenState → Array GenState → Prop} {n : Nat} {P : Nat → Value → Prop} {St : Nat → Shared → Prop}
end
section
variable {prog : Program} {w : World} {K : Type} [DecidableEq K] {knd : KeyKind prog w K} {A : Around} {E : Value → Shared → Prop} {s : Shared}
end
/-! ### len(set(texts)) -/
section
variable {X : Cx} {W : Wd} {Γ : List DV} {μ : Mu} {a : Expr} {p p2 q pos : Pos} {ds : List PyData} {ws : List (List Nat)}
theorem S_inj {a b : List Nat} (h : S a = S b) : a = b := by
  have e : decide (V.str (S a) = V.str (S b)) = decide (a = b) := S_eq
  rw [h] at e
  simpa using e
end
end HW
set_option maxHeartbeats 4000000
namespace HW
open PySem PySem.Spec PyProof.Rows L2
open SX (S)
section
variable {X : Cx} {W W0 : Wd} {Γ : List DV} {μ : Mu} {a : Expr} {i : Str} {pos : Pos}
theorem ed_S {p : Pos} {j} (l : List Nat) (e : i = S l := by decide +kernel) : Ed X W Γ μ (.Constant (.str i) j p) (.str (S l)) := e ▸ ed_str
theorem ed_gS {n z : Str} (l : List Nat) (hm : ∃ t, X.mg n = some (.str z t)) (e : z = S l := by decide +kernel) (hg : Gl X n := by rfl) (h1 : (n == ("__debug__" : Str)) = false := by decide) : Ed X W Γ μ (.Name n pos) (.str (S l)) := e ▸ ed_gstr hm hg h1
theorem run_end {P : PyData → Prop} {rt : VK} {bk ct : L2.St → Hp → Prop} (hp : P .none) (hW : Wle W0 W := by first | exact Wle.refl | assumption) : Run X W Γ μ [] ⟨fun _ H' => RetP X.K W0 P .non H', rt, bk, ct⟩ := run_nil fun σ H R => ⟨R.fr.down hW, .none, hp, .non⟩
theorem ed_neg {z : Int} (h : Ed X W Γ μ a (.int z)) : Ed X W Γ μ (.UnaryOp .USub a pos) (.int (-z)) := fun σ H R Q q => (pe_un un_neg wE.pe).w (h σ H R _ fun v H2 R2 e2 r => by
  cases r
  exact ⟨z, rfl, q _ H2 R2 e2 (.int _)⟩)
end
section
variable {X : Cx} {l : List Nat} {ds es : List PyData}
theorem foldl_rep (l : List Nat) : ∀ (n : Nat) (acc : Array Nat), (List.replicate n (S l).cps).foldl (· ++ ·) acc = acc ++ ((List.replicate n l).flatten).toArray
  | 0, acc => by simp
  | n + 1, acc => by
    rw [List.replicate_succ, List.foldl_cons, foldl_rep l n, List.replicate_succ, List.flatten_cons, Array.append_assoc]
    congr 1
    show l.toArray ++ _ = _
    simp
theorem o_mulS {n : Nat} (h : l.length * n ≤ 16777216) (h1 : 1 ≤ n) (h2 : n ≤ 1000000000) : OpD X (binaryOp .Mult) (.str (S l)) (nn n) (.str (S (List.replicate n l).flatten)) := by
  intro pins s σ H x y v u Q I rx ry q
  obtain ⟨L, _, ha, hb, k⟩ := q
  cases ha; cases hb
  obtain ⟨t, rfl⟩ := rx
  obtain ⟨t', rfl⟩ := ry
  have fin : ∀ s', Inv X pins σ H s' → ∀ t2, EP X pins σ Q (.str (S (List.replicate n l).flatten) t2) s' := fun s' I' t2 => ⟨.str _, H, I', ⟨t2, rfl⟩, k _ _ (Same.refl _) (.str _)⟩
  have hn : ¬ ((n : Int) < 1) := by omega
  have hb' : (decide ((n : Int) < -(2 ^ 63 : Int)) || decide ((n : Int) ≥ 2 ^ 63)) = false := by
    have e1 : ¬ ((n : Int) < -(2 ^ 63 : Int)) := by omega
    have e2 : ¬ ((n : Int) ≥ 2 ^ 63) := by omega
    rw [decide_eq_false e1, decide_eq_false e2]
    rfl
  have hlen : (S l).length = l.length := SX.S_len l
  refine P.mul_str hb' (fun _ hz => ?_) (fun _ _ => ?_) ?_
  · rw [hlen]
    have h3 : (l.length : Int) ≤ 16777216 := by
      have : l.length * 1 ≤ l.length * n := Nat.mul_le_mul_left _ h1
      omega
    have h4 : (16777216 : Int) ≤ (2 ^ 63 - 1) / (n : Int) := by
      rw [Int.le_ediv_iff_mul_le (by omega)]
      omega
    omega
  · rw [hlen]
    unfold Builtin.Str.tooLong
    have e : (n : Int).toNat = n := by omega
    rw [e]
    simpa [sizeLine] using h
  · rw [if_neg hn]
    by_cases hz : ((n : Int) == 1 || (S l).length == 0) = true
    · rw [if_pos hz]
      have e : (List.replicate n l).flatten = l := by
        rw [hlen] at hz
        rcases Bool.or_eq_true _ _ ▸ hz with z | z
        · have : n = 1 := by
            have := eq_of_beq z
            omega
          subst this
          simp
        · have : l = [] := List.length_eq_zero_iff.mp (eq_of_beq z)
          subst this
          simp
      have z := fin s I t
      rw [e] at z
      exact z
    · rw [if_neg hz]
      have e : (n : Int).toNat = n := by omega
      rw [e, foldl_rep l n #[]]
      have e2 : (⟨#[] ++ ((List.replicate n l).flatten).toArray⟩ : Str) = S (List.replicate n l).flatten := by simp [S]
      rw [e2]
      refine ⟨?_, fin _ (I.tok _) _⟩
      have hsz : (S (List.replicate n l).flatten).length = l.length * n := by
        rw [SX.S_len]
        simp [Nat.mul_comm]
      rw [hsz]
      simpa [sizeLine] using h
/-! ### tuples -/
end
end HW
set_option maxHeartbeats 4000000
namespace HW
open PySem PySem.Spec PyProof.Rows L2
open SX (S)
section
variable {X : Cx} {W : Wd} {Γ : List DV} {μ : Mu} {α : Type} {iter elt t : Expr} {scope : Scope} {pos p1 p2 tpos : Pos} {kk : Nat} {e1 e2 : α → PyData} {xs : List α} {n1 n2 : Str}
end
end HW
set_option maxHeartbeats 4000000
namespace HW
open PySem PySem.Spec PyProof.Rows L2
open SX (S)
section
variable {X : Cx} {W : Wd} {Γ : List DV} {μ : Mu} {α : Type} {iter elt t : Expr} {scope : Scope} {pos p : Pos} {enc : α → PyData} {n : Str} {P : List α → Prop} {E : α → PyData → Prop}
/-- [elt for n in iter], the items and what comes of them told by P and E -/
theorem lcNV (k : Nat) (hi : IterV X W Γ μ (.Name n p) iter enc P) (hz : ∀ xs, P xs → xs.length ≤ 16777216)
    (he : ∀ xs, P xs → ∀ x ∈ xs, ∀ W1, Wle W W1 → ∀ s H C cl fp, Ev (blkOf X scope s H C cl fp) W1 ((wipeD [k] Γ).set k (.d (enc x))) μ elt (E x)) (hN : X.N.Nodup) (hn : X.N[k]? = some n := by rfl)
    (hv : ∀ s H C cl fp, Loc (blkOf X scope s H C cl fp).env.scope n := by intro _ _ _ _ _; first | exact Or.inl rfl | exact Or.inr rfl) (hf : ∀ s H C cl fp, (blkOf X scope s H C cl fp).fn n = true ∨ (blkOf X scope s H C cl fp).env.scope.names.lookup n = some .local := by intro _ _ _ _ _; first | exact .inr rfl | exact .inl rfl) (hb : BlkOk X.N X.env.scope scope [(n, k)] := by exact blkOk_by (by kernel_rfl)) :
    LcEv X W Γ μ elt (.Name n p) iter [] scope (fun ys => ∃ xs, P xs ∧ Paired E xs ys) :=
  lc0 (E := E) (elt := elt) (scope := scope) [(n, k)] hi (tg_name (K := X.K) k) (fun s H C cl fp => pg_name hN hn (hv s H C cl fp) (hf s H C cl fp)) (fun _ _ _ _ => trivial) hz (fun _ e x hx W1 l s H C cl fp => he _ e x hx W1 l s H C cl fp) hb (by simp)
end
section
variable {X : Cx} {W : Wd} {Γ : List DV} {μ : Mu} {e o : Expr} {pos apos : Pos}
theorem sg_flat (cs : List Nat) : (cs.map fun c => [c]).flatten = cs := by
  induction cs with
  | nil => rfl
  | cons a r ih => rw [List.map_cons, List.flatten_cons, ih]; rfl
theorem sg_sum (cs : List Nat) : ((cs.map fun c => [c]).map List.length).sum = cs.length := by
  induction cs with
  | nil => rfl
  | cons a r ih => rw [List.map_cons, List.map_cons, List.sum_cons, ih, List.length_cons, Nat.add_comm]; rfl
/-- "".join of signs -/
theorem ev_joinC {Ws : List Nat → Prop} (ho : Ed X W Γ μ o (.str (S []))) (he : Ev X W Γ μ e (fun z => ∃ cs : List Nat, z = .list (cs.map sg) ∧ Ws cs)) (hz : ∀ cs, Ws cs → cs.length ≤ 16777216)
    (hs : starEach [e] X.env = [(false, eval e X.env)] := by rfl) (hbase : attributeBase o "join" X.env (eval o X.env) = eval o X.env := by rfl) (hline : (apos.endLine == pos.line) = true := by rfl) :
    Ev X W Γ μ (.Call (.Attribute o "join" apos) [e] [] pos) (fun z => ∃ cs, z = .str (S cs) ∧ Ws cs) :=
  (ev_join (Ws := fun ws => ∃ cs : List Nat, ws = cs.map (fun c => [c]) ∧ Ws cs) ho (he.imp fun d ⟨cs, e1, e2⟩ => ⟨cs.map fun c => [c], by rw [e1, List.map_map]; rfl, cs, rfl, e2⟩) (fun ws ⟨cs, e1, e2⟩ => by rw [e1, sg_sum]; exact hz cs e2) hs hbase hline).imp fun d ⟨ws, e1, cs, e2, e3⟩ => ⟨cs, by rw [e1, e2, sg_flat], e3⟩
end
theorem paired_sg {α : Type} {Q : Nat → Prop} : ∀ {xs : List α} {ys : List PyData}, Paired (fun _ z => ∃ c, z = sg c ∧ Q c) xs ys → ∃ cs : List Nat, ys = cs.map sg ∧ ∀ c ∈ cs, Q c
  | _, _, .nil => ⟨[], rfl, fun _ h => nomatch h⟩
  | _, _, .cons ⟨c, e, q⟩ t => by
    obtain ⟨cs, e2, h⟩ := paired_sg t
    refine ⟨c :: cs, by rw [e, e2]; rfl, fun x hx => ?_⟩
    rcases List.mem_cons.mp hx with h1 | h1
    · rw [h1]; exact q
    · exact h x h1
/-! ### to forget -/
def wk : List DV → List DV → Prop
  | [], [] => True
  | a :: as, b :: bs => (b = .no ∨ b = a) ∧ wk as bs
  | _, _ => False
theorem wk.at : ∀ {Γ Γ' : List DV}, wk Γ Γ' → Γ.length = Γ'.length ∧ ∀ (i : Nat) (dv : DV), Γ'[i]? = some dv → dv = .no ∨ Γ[i]? = some dv
  | [], [], _ => ⟨rfl, fun i dv h => by simp at h⟩
  | a :: as, b :: bs, h => by
    obtain ⟨h1, h2⟩ := wk.at h.2
    refine ⟨by rw [List.length_cons, List.length_cons, h1], fun i dv e => ?_⟩
    cases i with
    | zero =>
      cases e
      exact h.1.imp id fun q => by rw [q]; rfl
    | succ i => exact h2 i dv (by simpa using e)
theorem Slots.weak {K : PySem.W.Frag} {H : Hp} {σ : L2.St} {Γ Γ' : List DV} (s : Slots K H σ Γ) (h : wk Γ Γ') : Slots K H σ Γ' := by
  obtain ⟨h1, h2⟩ := wk.at h
  refine ⟨s.len.trans h1, fun i dv e => ?_⟩
  rcases h2 i dv e with q | q
  · subst q
    have hl : i < σ.length := by
      rw [s.len, h1]
      exact (List.getElem?_eq_some_iff.mp e).1
    exact ⟨σ[i], List.getElem?_eq_getElem hl, trivial⟩
  · exact s.at_ i dv q
section
variable {X : Cx} {W : Wd} {Γ Γ' : List DV} {μ : Mu} {sts : List Stmt} {D : Ends}
theorem run_weak (h : Run X W Γ' μ sts D) (w : wk Γ Γ') : Run X W Γ μ sts D := fun σ H R => h σ H ⟨R.wd, R.fr, R.sl.weak w, R.mu, R.nd⟩
/-- the end of a turn, the state forgotten down to Γ' -/
theorem run_turnW {Φ : List DV → Mu → Prop} (Γ' : List DV) (w : wk Γ Γ') (h : Φ Γ' μ) (hD : D.nx = StP X.K W Φ := by rfl) : Run X W Γ μ [] D := run_weak (run_turn hD h) w
end
/-! ### a law's beginning: its row of draws -/
def tLst2 (K : PySem.W.Frag) (t : TA) : TE := fun σ H Q => t σ H fun xs H1 => xs.length ≤ sizeLine ∧ ∀ p, H1 p = none → (∀ a ys, SqL K H1 a ys → a ≠ p) → Q (.ref p) (upd H1 p (.lst xs))
/-- a list displayed: it is none of the lists that are there -/
theorem pe_lst2 {X : Cx} {es : List Expr} {t : TA} {pos : Pos} (h : PA X es t) : PE X (.List es pos) (tLst2 X.K t) := by
  refine ⟨fun pins s σ H Q I hq => wpAny_List_spliced (thn (h.run pos pins s σ H _ I hq) fun us s1 ⟨xs, H1, I1, r, z, q⟩ => ⟨by rw [← r.length]; exact z, ?_⟩)⟩
  refine ⟨.ref s1.heap.objs.size, _, I1.laid (t' := s1.toks) (o := .lst xs) (fun b u e => Heap.get?_push_of_some _ e) (Nat.le_refl _) ⟨z, us, 0, r, Heap.get?_push_size _ rfl⟩, rfl, q _ (I1.hok.fresh (Nat.le_refl _)) fun a ys hl => ?_⟩
  obtain ⟨its, _, pl, _⟩ := I1.list hl
  exact Nat.ne_of_lt pl.lt
/-- a law: the script at a, True comes -/
def spLaw (K : PySem.W.Frag) : Sp := fun vs H Q _ => ∃ (a : Addr) (ns : List Int), vs = [.ref a] ∧ ns.length ≤ 63 ∧ SqL K H a (ns.map V.int) ∧ ∀ H', Q (.bl true) H'
section
variable {P : Program} {w : World} {K : PySem.W.Frag} {mg : Str → Option Value} {base : Heap} {qual : Str} {params : Arguments} {rest : List Stmt} {scope : Scope} {f : Addr} {fd : FuncData} {N : List Str} {k : Nat} {p0 p1 p2 p3 p4 p5 p6 : Pos} {j1 j2 j3 : Nat} {sd : Int}
theorem fd_law {body : List Stmt} (F : FunD K "law" qual params body scope [] [] f fd) (S : FnScope N ["_law_script"] scope) (hN : N = ("_law_script" : Str) :: ("_law_row" : Str) :: N.drop 2)
    (hb : body = .Assign [.Name "_law_row" p0] (.List [.Name "_law_script" p1, .Constant (.int 0) j1 p2, .Constant (.int sd) j2 p3, .Constant (.int 0) j3 p4] p5) p6 :: rest)
    (hx : ∀ (cdv : Value) (A : Around) (outer : List Env) (s : Shared) (H : Hp) (E : XK), Loc (cxOf CX0 P w K mg base N qual scope f cdv A outer s H E).nox.env.scope "_law_row" := by intro _ _ _ _ _ _; first | exact Or.inl rfl | exact Or.inr rfl)
    (hv : ∀ (cdv : Value) (A : Around) (outer : List Env) (s : Shared) (H : Hp) (E : XK), Vis (cxOf CX0 P w K mg base N qual scope f cdv A outer s H E).nox.env.scope "_law_script" := by intro _ _ _ _ _ _; first | exact Or.inl rfl | exact Or.inr (Or.inl rfl) | exact Or.inr (Or.inr rfl))
    (hs : ∀ (cdv : Value) (A : Around) (outer : List Env) (s : Shared) (H : Hp) (E : XK), swapsWith (.List [.Name "_law_script" p1, .Constant (.int 0) j1 p2, .Constant (.int sd) j2 p3, .Constant (.int 0) j3 p4] p5) (some (.Name "_law_row" p0)) p6.line (cxOf CX0 P w K mg base N qual scope f cdv A outer s H E).nox.env = pure false := by intro _ _ _ _ _ _; rfl)
    (hf : ∀ (cdv : Value) (A : Around) (outer : List Env) (s : Shared) (H : Hp) (E : XK), (cxOf CX0 P w K mg base N qual scope f cdv A outer s H E).nox.fn "_law_row" = true ∨ (cxOf CX0 P w K mg base N qual scope f cdv A outer s H E).nox.env.scope.names.lookup ("_law_row" : Str) = some .local := by intro _ _ _ _ _ _; first | exact .inr rfl | exact .inl rfl)
    (h : ∀ (cdv : Value) (A : Around) (outer : List Env) (s : Shared) (H : Hp) (E : XK), Room k (A.deeper (envOfC qual scope s.heap.objs.size f cdv)) → ∀ (W : Wd) (r scr : Addr) (ns : List Int), W.row = some (r, scr, ns) →
      Run (cxOf CX0 P w K mg base N qual scope f cdv A outer s H E).nox W (.no :: .r r :: List.replicate (N.length - 2) .no) [] rest { nx := fun _ H' => RetP K W (fun z => z = .bool true) .non H', rt := RetP K W (fun z => z = .bool true) }) :
    FnOk P w K mg base CX0 (k + 1) f fd ["_law_script"] (spLaw K) := by
  refine F.ok S (fun vs H Q E ⟨a, ns, e, _⟩ => by rw [e]; rfl) fun cdv A outer s H vs Q E hr ⟨a, ns, e, hns, hl, q⟩ => ?_
  subst e
  refine ⟨_, PSs.nox wSs.ps, ?_⟩
  rw [hb]
  have hN0 : N[0]? = some ("_law_script" : Str) := by rw [hN]; rfl
  have hN1 : N[1]? = some ("_law_row" : Str) := by rw [hN]; rfl
  refine wSs_cons ((ps_set (i := 1) S.nd hN1 (hx cdv A outer s H E) (pe_lst2 (pa_cons (pe_var (i := 0) hN0 (hv cdv A outer s H E)) (pa_cons pe_int (pa_cons pe_int (pa_cons pe_int pa_nil))))) (hs cdv A outer s H E) (hf cdv A outer s H E)).w ?_)
  have hst : start N [.ref a] = some (.ref a) :: none :: List.replicate (N.length - 2) none := by
    rw [hN]
    show some (V.ref a) :: List.replicate _ none = _
    simp [List.replicate_succ]
  rw [hst]
  refine ⟨_, rfl, Nat.le_of_ble_eq_true rfl, fun r hr' hfr => ?_⟩
  have har : a ≠ r := hfr a _ hl
  let row : HO := .lst [.ref a, .int 0, .int sd, .int 0]
  let W : Wd := ⟨upd H r row, [r], some (r, a, ns)⟩
  have hW : upd H r row r = some row := upd_same
  have ok : WdOk K W := ⟨fun b hb => by
    rw [List.mem_singleton.mp hb]
    show upd H r row r ≠ none
    rw [hW]
    simp, fun r' s' n' e => by
    cases e
    exact ⟨List.mem_cons_self, SqL.up (fun o e => by show upd H r row a = some o; rw [upd_ne har]; exact e) hl, har, hns⟩⟩
  have sl : Slots K (off (hd W []) (upd H r row)) (some (.ref a) :: some (.ref r) :: List.replicate (N.length - 2) none) (.no :: .r r :: List.replicate (N.length - 2) .no) := by
    refine ⟨by simp, fun i dv e => ?_⟩
    match i, e with
    | 0, e => cases e; exact ⟨_, rfl, trivial⟩
    | 1, e => cases e; exact ⟨_, rfl, rfl⟩
    | i + 2, e =>
      have e' : (List.replicate (N.length - 2) DV.no)[i]? = some dv := e
      rw [List.getElem?_replicate] at e'
      split at e'
      · rename_i hi
        cases e'
        refine ⟨none, ?_, trivial⟩
        show (List.replicate (N.length - 2) (none : Option V))[i]? = some none
        rw [List.getElem?_replicate, if_pos hi]
      · cases e'
  have ret : ∀ v H', RetP K W (fun z => z = .bool true) v H' → Q v H' := fun v H' ⟨fr, d', e, hv'⟩ => by
    subst e
    cases hv'
    exact q H'
  have z := h cdv A outer s H E hr W r a ns rfl _ _ ⟨ok, ⟨fun _ _ _ e => e, fun r' s' n' e => by cases e; exact ⟨0, sd, 0, hW, Int.le_refl _⟩⟩, sl, fun _ z => (nomatch z), List.nodup_nil⟩
  intro pins st I
  refine wpAny_mono (z pins st I) (fun fl s' hq => ?_) fun _ _ z => z
  cases fl with
  | next =>
    obtain ⟨σ', H', I', q'⟩ := hq
    exact ⟨σ', H', I', ret _ _ q'⟩
  | brk => exact hq
  | cont => exact hq
  | ret u =>
    obtain ⟨v, σ', H', I', r', q'⟩ := hq
    exact ⟨v, σ', H', I', r', ret _ _ q'⟩
end
end HW
set_option maxHeartbeats 4000000
namespace HW
open PySem PySem.Spec PyProof.Rows L2
open SX (S)
/-- the end of a turn, the state forgotten down to Γ' -/
theorem run_go {X : Cx} {W : Wd} {Γ : List DV} {μ : Mu} {Φ : List DV → Mu → Prop} {rt : VK} {bk ct : L2.St → Hp → Prop} (Γ' : List DV) (w : wk Γ Γ') (h : Φ Γ' μ) : Run X W Γ μ [] ⟨StP X.K W Φ, rt, bk, ct⟩ := run_turnW Γ' w h rfl
/-! ### shapes, for == -/
structure Shp (n : Nat) (d : PyData) : Prop where
  lay : d.canLay0 = true
  dep : d.depth ≤ n
theorem Shp.int {i : Int} : Shp 0 (.int i) := ⟨rfl, Nat.le_refl _⟩
theorem Shp.bl {i : Bool} : Shp 0 (.bool i) := ⟨rfl, Nat.le_refl _⟩
theorem Shp.non : Shp 0 .none := ⟨rfl, Nat.le_refl _⟩
theorem Shp.all {n : Nat} : ∀ {xs : List PyData}, (∀ x ∈ xs, Shp n x) → PyData.canLayAll0 xs = true ∧ PyData.depthAll xs ≤ n
  | [], _ => ⟨rfl, Nat.zero_le _⟩
  | x :: xs, h => by
    obtain ⟨h1, h2⟩ := Shp.all fun y hy => h y (List.mem_cons_of_mem _ hy)
    have h3 := h x List.mem_cons_self
    exact ⟨by rw [PyData.canLayAll0, h3.lay, h1]; rfl, by rw [PyData.depthAll]; exact Nat.max_le.mpr ⟨h3.dep, h2⟩⟩
theorem Shp.list {n : Nat} {xs : List PyData} (h : ∀ x ∈ xs, Shp n x) : Shp (n + 1) (.list xs) := ⟨by rw [PyData.canLay0]; exact (Shp.all h).1, by rw [PyData.depth]; exact Nat.succ_le_succ (Shp.all h).2⟩
theorem Shp.tup {n : Nat} {xs : List PyData} (h : ∀ x ∈ xs, Shp n x) : Shp (n + 1) (.tuple xs) := ⟨by rw [PyData.canLay0]; exact (Shp.all h).1, by rw [PyData.depth]; exact Nat.succ_le_succ (Shp.all h).2⟩
theorem Shp.up {n m : Nat} {d : PyData} (h : Shp n d) (l : n ≤ m) : Shp m d := ⟨h.lay, Nat.le_trans h.dep l⟩
theorem Shp.str {l : List Nat} (h : ∀ c ∈ l, c < 128) : Shp 0 (.str (S l)) := ⟨by
  show PyData.strOk (S l) = true
  unfold PyData.strOk
  simp only [S, List.all_toArray, List.all_eq_true, decide_eq_true_eq]
  exact fun c hc => Nat.lt_trans (h c hc) (by decide), Nat.le_refl _⟩
theorem Shp.ok {n : Nat} {d : PyData} (h : Shp n d) (l : n ≤ 64 := by decide) : SeqAt.shaped d = true := by
  unfold SeqAt.shaped
  rw [h.lay, decide_eq_true (Nat.le_trans h.dep l)]
  rfl
section
variable {X : Cx} {x y : PyData} {n : Nat}
theorem c_neSame (hu : X.A.units + 64 < cLine) (h : Shp n x) (hn : n ≤ 64 := by decide) : OpD X (compareOp .NotEq) x x (.bool false) := by
  have z := c_neD (X := X) hu (h.ok hn) (h.ok hn)
  rw [SeqAt.eqv_refl x h.lay] at z
  exact z
end
end HW
set_option maxHeartbeats 4000000
namespace HW
open PySem PySem.Spec PyProof.Rows L2
open SX (S)
abbrev FnP (K : PySem.W.Frag) (x : Str) (st : Stmt) (f : Addr) (fd : FuncData) : Prop := FunD K x x (defArgs st) (defBody st) (defScope st) [] [] f fd
structure Gs (mg : Str → Option Value) : Prop where
  isinstance : mg "isinstance" = none
  str : mg "str" = none
  int : mg "int" = none
  len : mg "len" = none
  all : mg "all" = none
  range : mg "range" = none
  set : mg "set" = none
  enumerate : mg "enumerate" = none
  zip : mg "zip" = none
  min : mg "min" = none
  max : mg "max" = none
  sorted : mg "sorted" = none
  any : mg "any" = none
  tuple : mg "tuple" = none
  list : mg "list" = none
  bool : mg "bool" = none
  dict : mg "dict" = none
  abs : mg "abs" = none
  sum : mg "sum" = none
abbrev gSEEN (mg : Str → Option Value) : Prop := ∃ t, mg "SEEN" = some (.str "x" t)
abbrev gHOLE (mg : Str → Option Value) : Prop := ∃ t, mg "HOLE" = some (.str "." t)
abbrev gLETTERS (mg : Str → Option Value) : Prop := ∃ t, mg "LETTERS" = some (.str "abcd" t)
abbrev gMOST_MASK (mg : Str → Option Value) : Prop := ∃ t, mg "MOST_MASK" = some (.int 12 t)
abbrev gMOST_ROW (mg : Str → Option Value) : Prop := ∃ t, mg "MOST_ROW" = some (.int 60 t)
/-! the plain words -/
def maskB (m : List Nat) : Bool := decide (1 ≤ m.length) && decide (m.length ≤ 12) && m.all (fun c => decide (c ∈ [120, 46])) && decide (m[0]? = some 120) && decide (m.getLast? = some 120)
def rowB (l : List Nat) : Bool := decide (l.length ≤ 60) && l.all (fun c => decide (c ∈ [97, 98, 99, 100]))
def seenL (m : List Nat) : List Nat := ((m.mapIdx Prod.mk).filter fun q => decide (q.2 = 120)).map Prod.fst
abbrev sD (l : List Nat) : PyData := .str (S l)
abbrev nD (l : List Nat) : PyData := .list (l.map nn)
abbrev wD (l : List (List Nat)) : PyData := .list (l.map sD)
def R_is_mask (ds : List PyData) (d : PyData) : Prop := ∃ m : List Nat, ds = [sD m] ∧ maskB m = true ∧ d = .bool true
def R_need_mask (ds : List PyData) (d : PyData) : Prop := ∃ m : List Nat, ds = [sD m] ∧ maskB m = true ∧ d = .none
def R_is_row (ds : List PyData) (d : PyData) : Prop := ∃ l : List Nat, ds = [sD l] ∧ rowB l = true ∧ d = .bool true
def R_need_row (ds : List PyData) (d : PyData) : Prop := ∃ l : List Nat, ds = [sD l] ∧ rowB l = true ∧ d = .none
/-! ### the draws -/
section
variable {X : Cx} {σ : L2.St} {H : Hp} {a b : Expr} {x y z : V} {Q : VK} {pos : Pos}
/-- e gives v here, whatever the heap is then: the heap stays -/
def At (X : Cx) (σ : L2.St) (H : Hp) (e : Expr) (v : V) : Prop := ∀ Q : VK, Q v H → wE X e σ H Q
theorem at_var (i : Nat) {n : Str} (h : σ[i]? = some (some x)) (hN : X.N[i]? = some n := by rfl) (hv : Vis X.env.scope n := by first | exact Or.inl rfl | exact Or.inr (Or.inl rfl) | exact Or.inr (Or.inr rfl))
    (h1 : (n == ("__debug__" : Str)) = false := by decide) (h2 : (n == ("__classdict__" : Str)) = false := by decide) : At X σ H (.Name n pos) x := fun Q q => (pe_var hN hv h1 h2).w ⟨x, h, q⟩
theorem at_k {e : Expr} {v : V} (h : At X σ H e v) (q : Q v H) : wE X e σ H Q := h Q q
theorem at_int {i : Int} {j p} : At X σ H (.Constant (.int i) j p) (.int i) := fun Q q => pe_int.w q
theorem at_op {op : Operator} {r : R2} (o : OpR X (binaryOp op) r) (ha : At X σ H a x) (hb : At X σ H b y) (hz : ∀ Q : VK, Q z H → r x y H Q) : At X σ H (.BinOp a op b pos) z := fun Q q => (pe_op o wE.pe wE.pe).w (ha _ (hb _ (hz Q q)))
theorem at_ix {p : Addr} {xs : List V} {i : Int} (ha : At X σ H a (.ref p)) (hb : At X σ H b (.int i)) (hl : SqL X.K H p xs) (hx : atI xs i = some x) (hs : PlainIx b := by exact fun _ _ => rfl) : At X σ H (.Subscript a b pos) x := fun Q q =>
  (pe_ix ix_list wE.pe wE.pe hs).w (ha _ (hb _ ⟨p, xs, i, x, rfl, rfl, hl, hx, q⟩))
theorem at_int1 {p : Pos} {i : Int} (ha : At X σ H a (.int i)) (hm : X.mg "int" = none) (hg : Gl X "int" := by rfl) (hs : starEach [a] X.env = (false, eval a X.env) :: starEach [] X.env := by rfl) (hpl : (backTo pos (starEach [] X.env)).any (·.1) = false := by rfl) : At X σ H (.Call (.Name "int" p) [a] [] pos) (.int i) := fun Q q =>
  (pe_callTy call_int1 hg hm boot_int (pa_cons wE.pe pa_nil hs) (by decide) (by decide) hs hpl).w (ha _ (.inl ⟨i, rfl, q⟩))
theorem at_len {p : Pos} {l : Addr} {xs : List V} (ha : At X σ H a (.ref l)) (hl : SqL X.K H l xs) (hm : X.mg "len" = none) (hg : Gl X "len" := by rfl) (hs : starEach [a] X.env = (false, eval a X.env) :: starEach [] X.env := by rfl) (hpl : (backTo pos (starEach [] X.env)).any (·.1) = false := by rfl) : At X σ H (.Call (.Name "len" p) [a] [] pos) (.int xs.length) := fun Q q =>
  (pe_callB call_len_seq hg hm boot_len (pa_cons wE.pe pa_nil hs) (by decide) (by decide) hs hpl).w (ha _ ⟨l, xs, rfl, .inl hl, q⟩)
theorem at_cmp {op : CmpOp} {r : R2} {k : Bool} (o : OpR X (compareOp op) r) (ha : At X σ H a x) (hb : At X σ H b y) (hz : ∀ Q : VK, Q (.bl k) H → r x y H Q) {Qb : Bool → Hp → Prop} (q : Qb k H) (hm : behindInMarks op b = false := by first | exact nomark _ | rfl) : wT X (.Compare a [op] [b] pos) σ H Qb :=
  (pt_cmpR o wE.pe wE.pe hm).w (ha _ (hb _ (hz _ ⟨k, rfl, q⟩)))
end
def R_taken_pre (ds : List PyData) : Prop := ∃ m : Int, ds = [.int m] ∧ 0 < m ∧ m < 1073741824
def R_taken_post (ds : List PyData) (d : PyData) : Prop := ∃ m : Int, ∃ k : Nat, ds = [.int m] ∧ d = .int (k : Int) ∧ (k : Int) < m
/-! ### rings -/
theorem rowB_len {l : List Nat} (h : rowB l = true) : l.length ≤ 60 := by
  unfold rowB at h
  simp only [Bool.and_eq_true, decide_eq_true_eq] at h
  exact h.1
theorem maskB_len {m : List Nat} (h : maskB m = true) : m.length ≤ 12 := by
  unfold maskB at h
  simp only [Bool.and_eq_true, decide_eq_true_eq] at h
  exact h.1.1.1.2
theorem sum_le {α : Type} (f : α → Nat) (c : Nat) : ∀ (l : List α), (∀ x ∈ l, f x ≤ c) → (l.map f).sum ≤ l.length * c
  | [], _ => by simp
  | x :: l, h => by
    have h1 := h x List.mem_cons_self
    have h2 := sum_le f c l fun y hy => h y (List.mem_cons_of_mem _ hy)
    rw [List.map_cons, List.sum_cons, List.length_cons, Nat.add_mul]
    omega

/-! ### the law's own defs -/
def lowL (n : Nat) (l : List Nat) : Prop := ∀ c ∈ l, 97 ≤ c ∧ c < 97 + n
def pre_mask (ds : List PyData) : Prop := ∃ w : Nat, ds = [nn w] ∧ 1 ≤ w ∧ w ≤ 12
def post_mask (ds : List PyData) (d : PyData) : Prop := ∃ (w : Nat) (m : List Nat), ds = [nn w] ∧ d = sD m ∧ maskB m = true ∧ m.length ≤ w
def pre_line (ds : List PyData) : Prop := ∃ a n : Nat, ds = [nn a, nn n] ∧ a ≤ 100000 ∧ 1 ≤ n ∧ n ≤ 4
def post_line (ds : List PyData) (d : PyData) : Prop := ∃ (a n : Nat) (l : List Nat), ds = [nn a, nn n] ∧ d = sD l ∧ l.length ≤ a ∧ lowL n l
def openL (m : List Nat) : List Nat := (List.range m.length).filter fun i => decide (m.getD i 0 = 120)
abbrev DRAW (P : Program) (w : World) (K : PySem.W.Frag) (mg : Str → Option Value) (base : Heap) (k : Nat) : Prop := Fd P w K mg base k "_law_taken" ["_law_row", "_law_many"] (spW K R_taken_pre R_taken_post)
section
variable {X : Cx} {W : Wd} {Γ : List DV} {μ : Mu} {a : Expr} {pos p p2 : Pos} {n : Str} {r scr : Addr} {ns : List Int} {k : Nat}
/-- _law_taken(_law_row, a) -/
theorem ev_taken {A : PyData → Prop} (m : Nat) (F : DRAW X.prog X.w X.K X.mg X.base k) (hr : Room k X.A) (hrow : W.row = some (r, scr, ns)) (i : Nat) (ha : Ev X W Γ μ a A) (hm : ∀ d, A d → ∃ z : Nat, d = nn z ∧ 1 ≤ z ∧ z ≤ m) (hm2 : m < 1000000 := by decide)
    (hi : Γ[i]? = some (.r r) := by rfl) (hN : X.N[i]? = some n := by rfl) (hv : Vis X.env.scope n := by first | exact Or.inl rfl | exact Or.inr (Or.inl rfl) | exact Or.inr (Or.inr rfl))
    (h1 : (n == ("__debug__" : Str)) = false := by decide) (h2 : (n == ("__classdict__" : Str)) = false := by decide) (hg : Gl X "_law_taken" := by rfl)
    (he : starEach (.Name n p2 :: [a]) X.env = (false, eval (.Name n p2) X.env) :: starEach [a] X.env := by rfl) (hpl : (backTo pos (starEach [a] X.env)).any (·.1) = false := by rfl) (he2 : starEach [a] X.env = (false, eval a X.env) :: starEach [] X.env := by rfl) :
    Ev X W Γ μ (.Call (.Name "_law_taken" p) (.Name n p2 :: [a]) [] pos) (fun d => ∃ z k : Nat, A (nn z) ∧ d = nn k ∧ k < z ∧ z ≤ m) :=
  (ev_draw F hr hrow i (eva_cons ha eva_nil he2) (fun ds ⟨x, r, e, ax, er⟩ => by
    obtain ⟨z, e2, h3, h4⟩ := hm x ax
    subst er
    exact ⟨(z : Int), by rw [e, e2], by omega, by omega⟩) hi hN hv h1 h2 hg (by decide) he hpl).imp fun d ⟨ds, ⟨x, r, e, ax, er⟩, m', k', e3, e4, h5⟩ => by
    obtain ⟨z, e2, h3, h4⟩ := hm x ax
    subst er
    rw [e, e2] at e3
    have e5 : (z : Int) = m' := by
      have := (List.cons.inj e3).1
      exact PyData.int.inj this
    exact ⟨z, k', e2 ▸ ax, e4, by omega, h4⟩
theorem ev_takenN (m : Nat) (F : DRAW X.prog X.w X.K X.mg X.base k) (hr : Room k X.A) (hrow : W.row = some (r, scr, ns)) (i : Nat) {z : Int} (ha : Ed X W Γ μ a (.int z)) (e : z = (m : Int)) (h1m : 1 ≤ m := by decide) (hm2 : m < 1000000 := by decide)
    (hi : Γ[i]? = some (.r r) := by rfl) (hN : X.N[i]? = some n := by rfl) (hv : Vis X.env.scope n := by first | exact Or.inl rfl | exact Or.inr (Or.inl rfl) | exact Or.inr (Or.inr rfl))
    (h1 : (n == ("__debug__" : Str)) = false := by decide) (h2 : (n == ("__classdict__" : Str)) = false := by decide) (hg : Gl X "_law_taken" := by rfl)
    (he : starEach (.Name n p2 :: [a]) X.env = (false, eval (.Name n p2) X.env) :: starEach [a] X.env := by rfl) (hpl : (backTo pos (starEach [a] X.env)).any (·.1) = false := by rfl) (he2 : starEach [a] X.env = (false, eval a X.env) :: starEach [] X.env := by rfl) :
    Ev X W Γ μ (.Call (.Name "_law_taken" p) (.Name n p2 :: [a]) [] pos) (fun d => ∃ k : Nat, d = nn k ∧ k < m) :=
  (ev_taken (A := fun d => d = nn m) m F hr hrow i (ha.evP (by rw [e])) (fun d e => ⟨m, e, h1m, Nat.le_refl _⟩) hm2 hi hN hv h1 h2 hg he hpl he2).imp fun d ⟨z, k, e1, e2, h3, h4⟩ => ⟨k, e2, by omega⟩
end
theorem EvA.imp {X : Cx} {W : Wd} {Γ : List DV} {μ : Mu} {es : List Expr} {A B : List PyData → Prop} (h : EvA X W Γ μ es A) (i : ∀ d, A d → B d) : EvA X W Γ μ es B := fun σ H R Q k => h σ H R Q fun v d H2 R2 x2 r p => k v d H2 R2 x2 r (i d p)

/-! ### the plain law -/
theorem mapIdx_range (m : List Nat) : m.mapIdx Prod.mk = (List.range m.length).map fun i => (i, m.getD i 0) := by
  apply List.ext_getElem?
  intro i
  rw [List.getElem?_mapIdx, List.getElem?_map]
  by_cases h : i < m.length
  · rw [List.getElem?_range h, List.getElem?_eq_getElem h]
    show some (i, m[i]) = some (i, m.getD i 0)
    rw [List.getD_eq_getElem?_getD, List.getElem?_eq_getElem h]
    rfl
  · rw [List.getElem?_eq_none (by omega), List.getElem?_eq_none (by simp; omega)]
    rfl
theorem open_seen (m : List Nat) : openL m = seenL m := by
  unfold seenL openL
  rw [mapIdx_range, List.filter_map, List.map_map]
  have e : (Prod.fst ∘ fun i => (i, m.getD i 0)) = (id : Nat → Nat) := rfl
  rw [e, List.map_id]
  rfl
theorem mem_open {m : List Nat} {a : Nat} (h : a ∈ openL m) : a < m.length := by
  have := (List.mem_filter.mp h).1
  simpa using this
theorem low_row {l : List Nat} (h1 : l.length ≤ 60) (h2 : lowL 4 l) : rowB l = true := by
  unfold rowB
  simp only [Bool.and_eq_true, decide_eq_true_eq, List.all_eq_true]
  refine ⟨h1, fun c hc => ?_⟩
  have := h2 c hc
  have : c = 97 ∨ c = 98 ∨ c = 99 ∨ c = 100 := by omega
  rcases this with e | e | e | e <;> (subst e; decide)
theorem rowB_low {l : List Nat} (h : rowB l = true) : ∀ c ∈ l, c < 128 := by
  unfold rowB at h
  simp only [Bool.and_eq_true, decide_eq_true_eq, List.all_eq_true] at h
  intro c hc
  have := h.2 c hc
  simp at this
  omega
theorem shp_w {ws : List (List Nat)} (h : ∀ v ∈ ws, ∀ c ∈ v, c < 128) : Shp 1 (wD ws) := Shp.list fun x hx => by
  obtain ⟨v, hv, rfl⟩ := List.mem_map.mp hx
  exact Shp.str (h v hv)

end HW
set_option maxHeartbeats 4000000
namespace HW
open PySem PySem.Spec PyProof.Rows L2
open SX (S)
section
variable {X : Cx} {W W0 : Wd} {Γ : List DV} {μ : Mu} {e c a b : Expr} {rest sts body : List Stmt} {D : Ends} {d x y : PyData} {pos p p1 p2 p3 : Pos} {n n1 n2 : Str} {α : Type}
/-- n1, n2 = a, b : two plain names -/
theorem run_parP {As : List PyData → Prop} (i j : Nat) {kt k2 : Nat} {pt pt2 : Pos} (ha : EvA X W Γ μ [a, b] As) (h : ∀ ds, As ds → ∃ x y, ds = [x, y] ∧ Run X W ((Γ.set i (.d x)).set j (.d y)) μ rest D) (hN : X.N.Nodup) (hij : i ≠ j := by decide) (hi : X.N[i]? = some n1 := by rfl) (hj : X.N[j]? = some n2 := by rfl)
    (hx : X.env.scope.names.lookup n1 = some .local := by rfl) (hy : X.env.scope.names.lookup n2 = some .local := by rfl) (hc : X.calm = true := by rfl)
    (hw : swappedStores [.Tuple [.Name n1 p1, .Name n2 p2] kt pt] (.Tuple [a, b] k2 pt2) X.env = pure (some [n1, n2]) := by rfl)
    (hs : swapsWithSole [.Tuple [.Name n1 p1, .Name n2 p2] kt pt] (.Tuple [a, b] k2 pt2) pos.line X.env = pure false := by rfl) :
    Run X W Γ μ (.Assign [.Tuple [.Name n1 p1, .Name n2 p2] kt pt] (.Tuple [a, b] k2 pt2) pos :: rest) D := fun σ H R =>
  wSs_cons ((ps_par hc hN hi hj hij hx hy wA.pa hw hs).w (ha σ H R _ fun vs ds H2 R2 e2 r pa => by
    obtain ⟨x, y, rfl, hr⟩ := h ds pa
    cases r with
    | cons r1 r =>
      cases r with
      | cons r2 r =>
        cases r
        exact ⟨_, _, rfl, hr _ _ ⟨R2.wd, R2.fr, (R2.sl.set i r1).set j r2, R2.mu, R2.nd⟩⟩))
end
end HW
set_option maxHeartbeats 4000000
namespace HW
open PySem PySem.Spec PyProof.Rows L2
open SX (S)
/-! ### views -/
def viewL (l m : List Nat) (p : Nat) : List Nat := (seenL m).map fun a => l.getD (p + a) 0
def viewsL (l m : List Nat) : List (List Nat) := (List.range (l.length + 1 - m.length)).map (viewL l m)
def tellsB (l m : List Nat) : Bool := decide (viewsL l m).Nodup
theorem viewsL_len (l m : List Nat) : (viewsL l m).length = l.length + 1 - m.length := by simp [viewsL]
theorem mem_seen {m : List Nat} {a : Nat} (h : a ∈ seenL m) : a < m.length := mem_open (open_seen m ▸ h)
theorem maskB_pos {m : List Nat} (h : maskB m = true) : 1 ≤ m.length := by
  unfold maskB at h
  simp only [Bool.and_eq_true, decide_eq_true_eq] at h
  exact h.1.1.1.1
def letL (n : Nat) : List Nat := [97, 98, 99, 100].take n
theorem mem_letL {n c : Nat} (hn : n ≤ 4) : c ∈ letL n ↔ 97 ≤ c ∧ c < 97 + n := by
  unfold letL
  match n, hn with
  | 0, _ => constructor <;> intro h <;> first | omega | simp at h
  | 1, _ => simp; omega
  | 2, _ => simp; omega
  | 3, _ => simp; omega
  | 4, _ => simp; omega
theorem letL_len {n : Nat} (hn : n ≤ 4) : (letL n).length = n := by simp [letL]; omega
theorem flat_len {α β : Type} (f : α → List β) (c : Nat) : ∀ l : List α, (∀ x ∈ l, (f x).length ≤ c) → (l.flatMap f).length ≤ l.length * c
  | [], _ => by simp
  | x :: l, h => by
    have h1 := h x List.mem_cons_self
    have h2 := flat_len f c l fun y hy => h y (List.mem_cons_of_mem _ hy)
    rw [List.flatMap_cons, List.length_append, List.length_cons, Nat.add_mul]
    omega

/-! ### draws in use -/
section
variable {X : Cx} {W : Wd} {Γ : List DV} {μ : Mu} {a b e i : Expr} {pos p p2 : Pos} {n : Str} {r scr : Addr} {ns : List Int} {k : Nat}
/-- [..][draw] -/
theorem ev_pick (xs : List PyData) (he : Ed X W Γ μ e (.list xs)) (hi : Ev X W Γ μ i (fun d => ∃ q : Nat, d = nn q ∧ q < xs.length)) (hs : PlainIx i := by exact fun _ _ => rfl) : Ev X W Γ μ (.Subscript e i pos) (fun z => z ∈ xs) :=
  ev_ix he.ev hi (fun x y ex ⟨q, ey, hq⟩ => by
    subst ex
    subst ey
    exact ⟨xs[q], List.getElem_mem hq, i_list (n := q) (List.getElem?_eq_getElem hq)⟩) hs
/-- _law_mask(_law_row, a) -/
theorem ev_lmask (wd : Nat) (F : Fd X.prog X.w X.K X.mg X.base k "_law_mask" ["_law_row", "_law_width"] (spW X.K pre_mask post_mask)) (hr : Room k X.A) (hrow : W.row = some (r, scr, ns)) (j : Nat) (ha : Ev X W Γ μ a (fun z => ∃ q : Nat, z = nn q ∧ 1 ≤ q ∧ q ≤ wd)) (hw : wd ≤ 12 := by decide)
    (hi : Γ[j]? = some (.r r) := by rfl) (hN : X.N[j]? = some n := by rfl) (hv : Vis X.env.scope n := by first | exact Or.inl rfl | exact Or.inr (Or.inl rfl) | exact Or.inr (Or.inr rfl))
    (h1 : (n == ("__debug__" : Str)) = false := by decide) (h2 : (n == ("__classdict__" : Str)) = false := by decide) (hg : Gl X "_law_mask" := by rfl)
    (he : starEach (.Name n p2 :: [a]) X.env = (false, eval (.Name n p2) X.env) :: starEach [a] X.env := by rfl) (hpl : (backTo pos (starEach [a] X.env)).any (·.1) = false := by rfl) (he2 : starEach [a] X.env = (false, eval a X.env) :: starEach [] X.env := by rfl) :
    Ev X W Γ μ (.Call (.Name "_law_mask" p) (.Name n p2 :: [a]) [] pos) (fun d => ∃ m : List Nat, d = sD m ∧ maskB m = true ∧ m.length ≤ wd) :=
  (ev_draw F hr hrow j (A := fun ds => ∃ q : Nat, ds = [nn q] ∧ 1 ≤ q ∧ q ≤ wd) (eva_cons ha eva_nil he2 |>.imp fun ds ⟨x, r, e, ⟨q, e2, h⟩, e3⟩ => ⟨q, by rw [e, e2, e3], h⟩) (fun ds ⟨q, e, h3, h4⟩ => ⟨q, e, h3, by omega⟩) hi hN hv h1 h2 hg (by decide) he hpl).imp fun d ⟨ds, ⟨q, e, h3, h4⟩, hp⟩ => by
    obtain ⟨w', m, e2, e3, hm, hl⟩ := hp
    rw [e] at e2
    have := PyData.int.inj (List.cons.inj e2).1
    exact ⟨m, e3, hm, by omega⟩
/-- _law_line(_law_row, a, b) -/
theorem ev_lline (A N : Nat) (F : Fd X.prog X.w X.K X.mg X.base k "_law_line" ["_law_row", "_law_most", "_law_letters"] (spW X.K pre_line post_line)) (hr : Room k X.A) (hrow : W.row = some (r, scr, ns)) (j : Nat) (ha : Ev X W Γ μ a (fun z => ∃ q : Nat, z = nn q ∧ q ≤ A)) (hb : Ev X W Γ μ b (fun z => ∃ q : Nat, z = nn q ∧ 1 ≤ q ∧ q ≤ N)) (hA : A ≤ 100000 := by decide) (hNN : N ≤ 4 := by decide)
    (hi : Γ[j]? = some (.r r) := by rfl) (hN : X.N[j]? = some n := by rfl) (hv : Vis X.env.scope n := by first | exact Or.inl rfl | exact Or.inr (Or.inl rfl) | exact Or.inr (Or.inr rfl))
    (h1 : (n == ("__debug__" : Str)) = false := by decide) (h2 : (n == ("__classdict__" : Str)) = false := by decide) (hg : Gl X "_law_line" := by rfl)
    (he : starEach (.Name n p2 :: [a, b]) X.env = (false, eval (.Name n p2) X.env) :: starEach [a, b] X.env := by rfl) (hpl : (backTo pos (starEach [a, b] X.env)).any (·.1) = false := by rfl) (he2 : starEach [a, b] X.env = (false, eval a X.env) :: starEach [b] X.env := by rfl) (he3 : starEach [b] X.env = (false, eval b X.env) :: starEach [] X.env := by rfl) :
    Ev X W Γ μ (.Call (.Name "_law_line" p) (.Name n p2 :: [a, b]) [] pos) (fun d => ∃ l : List Nat, d = sD l ∧ l.length ≤ A ∧ lowL N l) :=
  (ev_draw F hr hrow j (A := fun ds => ∃ q q2 : Nat, ds = [nn q, nn q2] ∧ q ≤ A ∧ 1 ≤ q2 ∧ q2 ≤ N) (eva_cons ha (eva_cons hb eva_nil he3) he2 |>.imp fun ds ⟨x, r, e, ⟨q, e2, h⟩, y, r2, e3, ⟨q2, e4, h4⟩, e5⟩ => ⟨q, q2, by rw [e, e2, e3, e4, e5], h, h4⟩) (fun ds ⟨q, q2, e, h3, h4, h5⟩ => ⟨q, q2, e, by omega, h4, by omega⟩) hi hN hv h1 h2 hg (by decide) he hpl).imp fun d ⟨ds, ⟨q, q2, e, h3, h4, h5⟩, hp⟩ => by
    obtain ⟨a', n', l, e2, e3, hl, hlow⟩ := hp
    rw [e] at e2
    have e4 := PyData.int.inj (List.cons.inj e2).1
    have e5 := PyData.int.inj (List.cons.inj (List.cons.inj e2).2).1
    exact ⟨l, e3, by omega, fun c hc => by
      have := hlow c hc
      omega⟩
/-- 1 + draw -/
theorem ev_1up {m : Nat} (he : Ev X W Γ μ e (fun d => ∃ q : Nat, d = nn q ∧ q < m)) {j} : Ev X W Γ μ (.BinOp (.Constant (.int 1) j p) .Add e pos) (fun z => ∃ q : Nat, z = nn q ∧ 1 ≤ q ∧ q ≤ m) :=
  ev_op ed_int.ev he (fun x y ex ⟨q, ey, hq⟩ => by
    subst ex
    subst ey
    exact ⟨_, ⟨1 + q, by push_cast; rfl, by omega, by omega⟩, o_add⟩)
end
end HW
set_option maxHeartbeats 4000000
namespace HW
open PySem PySem.Spec PyProof.Rows L2
open SX (S)
section
variable {X : Cx} {w : List Nat} {ws : List (List Nat)} {ds : List PyData}
/-- xs == [], xs != [] -/
theorem eqv_nil (ds : List PyData) : PyData.eqv (.list ds) (.list []) = ds.isEmpty := by cases ds <;> rfl
theorem c_eqNil {n : Nat} (hu : X.A.units + 64 < cLine) (h : Shp n (.list ds)) (hn : n ≤ 64 := by decide) : OpD X (compareOp .Eq) (.list ds) (.list []) (.bool ds.isEmpty) := by
  have z := c_eqD (X := X) (y := .list []) hu (h.ok hn) rfl
  rw [eqv_nil] at z
  exact z
end
end HW
set_option maxHeartbeats 4000000
namespace HW
open PySem PySem.Spec PyProof.Rows L2
open SX (S)
section
variable {X : Cx} {W W0 : Wd} {Γ : List DV} {μ : Mu} {b : Expr} {rest : List Stmt} {D : Ends} {x y : PyData} {pos p p1 p2 pl : Pos} {n1 n2 : Str}
end
/-! ### the rows that are told, letter by letter -/
theorem getD_app {l : List Nat} {c i : Nat} (h : i < l.length) : (l ++ [c]).getD i 0 = l.getD i 0 := by
  rw [List.getD_eq_getElem?_getD, List.getD_eq_getElem?_getD, List.getElem?_append_left h]
theorem viewL_app {l m : List Nat} {c p : Nat} (h : p + m.length ≤ l.length) : viewL (l ++ [c]) m p = viewL l m p := by
  unfold viewL
  refine List.map_congr_left fun a ha => getD_app ?_
  have := mem_seen ha
  omega
theorem viewsL_snoc (l m : List Nat) (c : Nat) (hm : 1 ≤ m.length) : viewsL (l ++ [c]) m = if l.length + 1 < m.length then viewsL l m else viewsL l m ++ [viewL (l ++ [c]) m (l.length + 1 - m.length)] := by
  unfold viewsL
  rw [List.length_append, List.length_singleton]
  by_cases h : l.length + 1 < m.length
  · rw [if_pos h]
    have e1 : l.length + 1 + 1 - m.length = 0 := by omega
    have e2 : l.length + 1 - m.length = 0 := by omega
    rw [e1, e2]
    rfl
  · rw [if_neg h]
    have e1 : l.length + 1 + 1 - m.length = (l.length + 1 - m.length) + 1 := by omega
    rw [e1, List.range_succ, List.map_append]
    congr 1
    refine List.map_congr_left fun p hp => viewL_app ?_
    have := List.mem_range.mp hp
    omega
def okC (m r : List Nat) (c : Nat) : Bool := decide (r.length + 1 < m.length) || !decide (viewL (r ++ [c]) m (r.length + 1 - m.length) ∈ viewsL r m)
theorem tells_snoc (r m : List Nat) (c : Nat) (hm : 1 ≤ m.length) : tellsB (r ++ [c]) m = (tellsB r m && okC m r c) := by
  unfold tellsB okC
  rw [viewsL_snoc r m c hm]
  by_cases h : r.length + 1 < m.length
  · rw [if_pos h, decide_eq_true h]
    simp
  · rw [if_neg h, decide_eq_false h, Bool.false_or, Bool.eq_iff_iff]
    simp only [decide_eq_true_eq, Bool.and_eq_true, Bool.not_eq_true', decide_eq_false_iff_not]
    rw [List.nodup_append]
    constructor
    · rintro ⟨h1, _, h3⟩
      exact ⟨h1, fun q => h3 _ q _ (List.mem_singleton.mpr rfl) rfl⟩
    · rintro ⟨h1, h2⟩
      exact ⟨h1, by simp, fun a ha b hb => by rw [List.mem_singleton.mp hb]; rintro rfl; exact h2 ha⟩
def stepR (m : List Nat) (n : Nat) (r : List Nat) : List (List Nat) := ((letL n).filter (okC m r)).map fun c => r ++ [c]
def nextL (m : List Nat) (n : Nat) (rs : List (List Nat)) : List (List Nat) := rs.flatMap (stepR m n)
def lev (m : List Nat) (n : Nat) : Nat → List (List Nat)
  | 0 => [[]]
  | k + 1 => nextL m n (lev m n k)
theorem stepR_len (m : List Nat) {n : Nat} (hn : n ≤ 4) (r : List Nat) : (stepR m n r).length ≤ n := by
  unfold stepR
  rw [List.length_map]
  exact Nat.le_trans (List.length_filter_le ..) (by rw [letL_len hn]; exact Nat.le_refl _)
theorem lev_len (m : List Nat) {n : Nat} (hn : n ≤ 4) : ∀ k, (lev m n k).length ≤ n ^ k
  | 0 => by simp [lev]
  | k + 1 => by
    have h1 := flat_len (stepR m n) n (lev m n k) (fun r _ => stepR_len m hn r)
    have h2 := Nat.mul_le_mul_right n (lev_len m hn k)
    rw [← Nat.pow_succ] at h2
    exact Nat.le_trans h1 h2
theorem mem_lev {m : List Nat} {n : Nat} (hm : 1 ≤ m.length) (hn : n ≤ 4) : ∀ {k : Nat} {r : List Nat}, r ∈ lev m n k ↔ r.length = k ∧ lowL n r ∧ tellsB r m = true
  | 0, r => by
    constructor
    · intro h
      have e : r = [] := by simpa [lev] using h
      subst e
      refine ⟨rfl, (fun c hc => nomatch hc), ?_⟩
      unfold tellsB viewsL
      have : ([] : List Nat).length + 1 - m.length = 0 := by simp; omega
      rw [this]
      rfl
    · rintro ⟨h, _⟩
      have e : r = [] := List.length_eq_zero_iff.mp h
      subst e
      simp [lev]
  | k + 1, r => by
    show r ∈ (lev m n k).flatMap (stepR m n) ↔ _
    rw [List.mem_flatMap]
    constructor
    · rintro ⟨q, hq, hr⟩
      obtain ⟨h1, h2, h3⟩ := (mem_lev hm hn).mp hq
      unfold stepR at hr
      obtain ⟨c, hc, rfl⟩ := List.mem_map.mp hr
      obtain ⟨hc1, hc2⟩ := List.mem_filter.mp hc
      refine ⟨by simp [h1], fun x hx => ?_, by rw [tells_snoc q m c hm, h3, hc2]; rfl⟩
      rcases List.mem_append.mp hx with z | z
      · exact h2 x z
      · rw [List.mem_singleton.mp z]
        exact (mem_letL hn).mp hc1
    · rintro ⟨h1, h2, h3⟩
      have hne : r ≠ [] := by rintro rfl; simp at h1
      have er := List.dropLast_concat_getLast hne
      refine ⟨r.dropLast, (mem_lev hm hn).mpr ⟨by simp [h1], fun c hc => h2 c (List.dropLast_subset r hc), ?_⟩, ?_⟩
      · rw [← er, tells_snoc _ m _ hm, Bool.and_eq_true] at h3
        exact h3.1
      · unfold stepR
        refine List.mem_map.mpr ⟨r.getLast hne, List.mem_filter.mpr ⟨(mem_letL hn).mpr (h2 _ (List.getLast_mem hne)), ?_⟩, er⟩
        rw [← er, tells_snoc _ m _ hm, Bool.and_eq_true] at h3
        exact h3.2
/-! counting -/
theorem nodup_len {α : Type} [DecidableEq α] : ∀ (l D : List α), l.Nodup → (∀ x ∈ l, x ∈ D) → l.length ≤ D.length
  | [], _, _, _ => Nat.zero_le _
  | x :: l, D, h, s => by
    have h1 := List.nodup_cons.mp h
    have hx := s x List.mem_cons_self
    have ih := nodup_len l (D.erase x) h1.2 fun y hy => (List.mem_erase_of_ne (by rintro rfl; exact h1.1 hy)).mpr (s y (List.mem_cons_of_mem _ hy))
    rw [List.length_erase_of_mem hx] at ih
    have := List.length_pos_of_mem hx
    rw [List.length_cons]
    omega
def words (n : Nat) : Nat → List (List Nat)
  | 0 => [[]]
  | s + 1 => (words n s).flatMap fun v => (letL n).map fun c => v ++ [c]
theorem words_len {n : Nat} (hn : n ≤ 4) : ∀ s, (words n s).length ≤ n ^ s
  | 0 => by simp [words]
  | s + 1 => by
    have h1 := flat_len (fun v : List Nat => (letL n).map fun c => v ++ [c]) n (words n s) (fun v _ => by rw [List.length_map, letL_len hn]; exact Nat.le_refl _)
    have h2 := Nat.mul_le_mul_right n (words_len hn s)
    rw [← Nat.pow_succ] at h2
    exact Nat.le_trans h1 h2
theorem mem_words {n : Nat} (hn : n ≤ 4) : ∀ {s : Nat} {v : List Nat}, v.length = s → lowL n v → v ∈ words n s
  | 0, v, h, _ => by
    have e : v = [] := List.length_eq_zero_iff.mp h
    subst e
    simp [words]
  | s + 1, v, h, hl => by
    have hne : v ≠ [] := by rintro rfl; simp at h
    refine List.mem_flatMap.mpr ⟨v.dropLast, mem_words hn (by simp [h]) fun c hc => hl c (List.dropLast_subset v hc), ?_⟩
    exact List.mem_map.mpr ⟨v.getLast hne, (mem_letL hn).mpr (hl _ (List.getLast_mem hne)), List.dropLast_concat_getLast hne⟩
theorem viewL_low {l m : List Nat} {n p : Nat} (hl : lowL n l) (h : p + m.length ≤ l.length) : lowL n (viewL l m p) := by
  intro c hc
  unfold viewL at hc
  obtain ⟨a, ha, rfl⟩ := List.mem_map.mp hc
  have h1 := mem_seen ha
  have h2 : p + a < l.length := by omega
  rw [List.getD_eq_getElem?_getD, List.getElem?_eq_getElem h2]
  exact hl _ (List.getElem_mem h2)
theorem viewL_len (l m : List Nat) (p : Nat) : (viewL l m p).length = (seenL m).length := by simp [viewL]
/-- a told row has at most so many places -/
theorem told_bound {r m : List Nat} {n : Nat} (hm : 1 ≤ m.length) (hn : n ≤ 4) (hl : lowL n r) (ht : tellsB r m = true) : r.length + 1 - m.length ≤ n ^ (seenL m).length := by
  unfold tellsB at ht
  have h := nodup_len (viewsL r m) (words n (seenL m).length) (of_decide_eq_true ht) fun v hv => by
    unfold viewsL at hv
    obtain ⟨p, hp, rfl⟩ := List.mem_map.mp hv
    have := List.mem_range.mp hp
    exact mem_words hn (viewL_len _ _ _) (viewL_low hl (by omega))
  rw [viewsL_len] at h
  exact Nat.le_trans h (words_len hn _)
theorem lev_top {m : List Nat} {n k : Nat} (hm : 1 ≤ m.length) (hn : n ≤ 4) (h : lev m n k ≠ []) : k + 1 ≤ n ^ (seenL m).length + m.length := by
  obtain ⟨r, hr⟩ := List.exists_mem_of_ne_nil _ h
  obtain ⟨h1, h2, h3⟩ := (mem_lev hm hn).mp hr
  have := told_bound hm hn h2 h3
  omega
/-- small enough -/
structure Small (m : List Nat) (n : Nat) : Prop where
  mask : maskB m = true
  lo : 1 ≤ n
  hi : n ≤ 4
  wide : m.length ≤ [12, 8, 5, 4].getD (n - 1) 0
  seen : (seenL m).length ≤ [12, 4, 2, 1].getD (n - 1) 0
theorem Small.bound {m : List Nat} {n : Nat} (h : Small m n) : n ^ (n ^ (seenL m).length + m.length - 1) ≤ 8388608 ∧ n ^ (seenL m).length ≤ 16 := by
  obtain ⟨_, lo, hi, wide, seen⟩ := h
  match n, lo, hi with
  | 1, _, _ => simp
  | 2, _, _ =>
    have w : m.length ≤ 8 := wide
    have s : (seenL m).length ≤ 4 := seen
    have h1 : 2 ^ (seenL m).length ≤ 2 ^ 4 := Nat.pow_le_pow_right (by decide) s
    refine ⟨Nat.le_trans (Nat.pow_le_pow_right (by decide) (show _ ≤ 23 by omega)) (by decide), h1⟩
  | 3, _, _ =>
    have w : m.length ≤ 5 := wide
    have s : (seenL m).length ≤ 2 := seen
    have h1 : 3 ^ (seenL m).length ≤ 3 ^ 2 := Nat.pow_le_pow_right (by decide) s
    refine ⟨Nat.le_trans (Nat.pow_le_pow_right (by decide) (show _ ≤ 13 by omega)) (by decide), by omega⟩
  | 4, _, _ =>
    have w : m.length ≤ 4 := wide
    have s : (seenL m).length ≤ 1 := seen
    have h1 : 4 ^ (seenL m).length ≤ 4 ^ 1 := Nat.pow_le_pow_right (by decide) s
    refine ⟨Nat.le_trans (Nat.pow_le_pow_right (by decide) (show _ ≤ 7 by omega)) (by decide), by omega⟩
theorem Small.pos {m : List Nat} {n : Nat} (h : Small m n) : 1 ≤ m.length := maskB_pos h.mask
theorem Small.top {m : List Nat} {n k : Nat} (h : Small m n) (hk : lev m n k ≠ []) : k + 1 ≤ 16 + m.length := by
  have := lev_top h.pos h.hi hk
  have := h.bound.2
  omega
theorem Small.len {m : List Nat} {n : Nat} (h : Small m n) (k : Nat) : (lev m n k).length ≤ 8388608 := by
  by_cases e : lev m n k = []
  · rw [e]; exact Nat.zero_le _
  · have h1 := lev_top h.pos h.hi e
    exact Nat.le_trans (lev_len m h.hi k) (Nat.le_trans (Nat.pow_le_pow_right h.lo (by omega)) h.bound.1)
theorem Small.ends {m : List Nat} {n : Nat} (h : Small m n) : lev m n (16 + m.length) = [] := by
  by_cases e : lev m n (16 + m.length) = []
  · exact e
  · have := h.top e
    omega
/-! as data -/
end HW
set_option maxHeartbeats 4000000
namespace HW
open PySem PySem.Spec PyProof.Rows L2
open SX (S)
section
variable {X : Cx} {W : Wd} {Γ : List DV} {μ : Mu} {n : Str} {pos : Pos} {ns : List Int}
end
end HW
set_option maxHeartbeats 4000000
namespace HW
open PySem PySem.Spec PyProof.Rows L2
open SX (S)
/-! ### comprehensions with two for -/
/-- what a walked thing wants -/
def wI (X : Cx) (tg iter : Expr) : TI := fun σ H R => ∀ (pins : List (Addr × Obj)) (s : Shared), Inv X pins σ H s → wpAny (model X.prog X.w) X.A (eval iter X.env) (fun v s1 => wpAny (model X.prog X.w) X.A (pyIter v) (PIE X pins σ tg R) X.xe s1) X.xe s
theorem _root_.L2.PI.w {X : Cx} {tg iter : Expr} {t : TI} (h : PI X tg iter t) {σ : L2.St} {H : Hp} {R : It → Hp → Prop} (q : t σ H R) : wI X tg iter σ H R := fun pins s I => h.run pins s σ H R I q
section
variable {X : Cx} {W : Wd} {Γ : List DV} {μ : Mu} {α β : Type} {tg iter tg1 iter1 elt : Expr} {scope : Scope} {enc : α → PyData} {enc1 : β → PyData} {xs : List α} {ys : α → List β} {f : α → β → PyData} {k1 k2 : Nat}
end
section
variable {X : Cx} {W : Wd} {Γ : List DV} {μ : Mu} {α β : Type} {iter iter1 elt : Expr} {scope : Scope} {pos p1 p2 : Pos} {enc : α → PyData} {enc1 : β → PyData} {xs : List α} {n1 n2 : Str}
end
end HW
set_option maxHeartbeats 4000000
namespace HW
open PySem PySem.Spec PyProof.Rows L2
open SX (S)
section
variable {X : Cx} {W : Wd} {Γ : List DV} {μ μ' : Mu} {sts a b rest : List Stmt} {D D' : Ends} {c : Expr} {pos : Pos}
/-- weaker ends -/
theorem Run.mono (h : Run X W Γ μ sts D) (h1 : ∀ σ H, D.nx σ H → D'.nx σ H) (h2 : ∀ v H, D.rt v H → D'.rt v H) (h3 : ∀ σ H, D.bk σ H → D'.bk σ H) (h4 : ∀ σ H, D.ct σ H → D'.ct σ H) : Run X W Γ μ sts D' := fun σ H R pins s I =>
  wpAny_mono (h σ H R pins s I) (fun fl s' q => by
    cases fl with
    | next => obtain ⟨σ', H', I', q'⟩ := q; exact ⟨σ', H', I', h1 _ _ q'⟩
    | brk => obtain ⟨σ', H', I', q'⟩ := q; exact ⟨σ', H', I', h3 _ _ q'⟩
    | cont => obtain ⟨σ', H', I', q'⟩ := q; exact ⟨σ', H', I', h4 _ _ q'⟩
    | ret u => obtain ⟨v, σ', H', I', r, q'⟩ := q; exact ⟨v, σ', H', I', r, h2 _ _ q'⟩) fun _ _ z => z
end
/-! ### all masks -/
/-! the best ones -/
end HW
set_option maxHeartbeats 4000000
namespace HW
open PySem PySem.Spec PyProof.Rows L2
open SX (S)
/-! ### x[::-1] of texts and lists -/
section
variable {X : Cx} {W : Wd} {Γ : List DV} {μ : Mu} {e : Expr} {p1 p2 p3 pos : Pos} {k : Nat} {l : List Nat} {ds : List PyData}
end
/-! ### a, b = a list of two -/
section
variable {X : Cx} {W : Wd} {Γ : List DV} {μ : Mu} {e : Expr} {rest : List Stmt} {D : Ends} {pos p1 p2 : Pos} {n1 n2 : Str} {P : PyData → Prop}
end
end HW
set_option maxHeartbeats 4000000
namespace HW
open PySem PySem.Spec PyProof.Rows L2
open SX (S)
section
variable {X : Cx} {i : Nat} {xs : List Nat}
theorem inV_n (i : Nat) : ∀ xs : List Nat, inV (.int (i : Int)) ((xs.map fun x : Nat => (x : Int)).map V.int) = decide (i ∈ xs)
  | [] => rfl
  | x :: xs => by
    have ih := inV_n i xs
    unfold inV at ih ⊢
    rw [List.map_cons, List.map_cons, List.any_cons, ih]
    have e : eqV (V.int (x : Int)) (V.int (i : Int)) = decide (i = x) := by
      show ((x : Int) == (i : Int)) = _
      rw [Bool.eq_iff_iff, beq_iff_eq, decide_eq_true_eq]
      omega
    rw [e]
    by_cases h : i = x
    · subst h; simp
    · simp [h]
theorem flat_n : ∀ xs : List Nat, ((xs.map fun x : Nat => (x : Int)).map V.int).all flatV = true
  | [] => rfl
  | v :: ws => by rw [List.map_cons, List.map_cons, List.all_cons, flat_n ws]; rfl
theorem vaAll_n {K : PySem.W.Frag} {H : Hp} {vs : List V} (h : VaAll K H vs (xs.map nn)) : vs = (xs.map fun x : Nat => (x : Int)).map V.int := by
  have e : xs.map nn = (xs.map fun x : Nat => (x : Int)).map PyData.int := by rw [List.map_map]; rfl
  rw [e] at h
  exact h.ints
end
theorem mask_128 {m : List Nat} (h : maskB m = true) : ∀ c ∈ m, c < 128 := by
  unfold maskB at h
  simp only [Bool.and_eq_true, decide_eq_true_eq, List.all_eq_true] at h
  intro c hc
  have := h.1.1.2 c hc
  simp at this
  omega
/-! ### unlike -/
/-! ### the law's small masks -/
end HW
set_option maxHeartbeats 4000000
namespace HW
open PySem PySem.Spec PyProof.Rows L2
open SX (S)
/-! ### rows whose views differ much -/
section
variable {X : Cx} {ds : List PyData}
end
end HW
set_option maxHeartbeats 4000000
namespace HW
open PySem PySem.Spec PyProof.Rows L2
open SX (S)
/-! ### shorter turns -/
theorem wk_n : wk [] [] := trivial
theorem wk_s {a : DV} {as bs : List DV} (h : wk as bs) : wk (a :: as) (a :: bs) := ⟨.inr rfl, h⟩
theorem wk_0 {a : DV} {as bs : List DV} (h : wk as bs) : wk (a :: as) (.no :: bs) := ⟨.inl rfl, h⟩
/-- a state that has Γ' and μ' -/
def Stt (K : PySem.W.Frag) (W : Wd) (Γ' : List DV) (μ' : Mu) : L2.St → Hp → Prop := StP K W (fun Γ μ => wk Γ Γ' ∧ μ = μ')
section
variable {X : Cx} {W : Wd} {Γ Γ' : List DV} {μ μ' : Mu} {α : Type} {iter : Expr} {a b body rest : List Stmt} {pos p : Pos} {enc : α → PyData} {D : Ends} {n : Str} {c : Expr}
/-- the end of a turn, a branch -/
theorem run_e {rt : VK} {bk ct : L2.St → Hp → Prop} (hm : μ = μ' := by rfl) (w : wk Γ Γ' := by repeat (first | exact wk_n | refine wk_s ?_ | refine wk_0 ?_)) : Run X W Γ μ [] ⟨Stt X.K W Γ' μ', rt, bk, ct⟩ := run_turn rfl ⟨w, hm⟩
/-- for n in iter: before turn i the state is Γ0 i, μ0 i -/
theorem run_forS {xs : List α} (k : Nat) (hi : IterD X W Γ μ (.Name n p) iter enc xs) (Γ0 : Nat → List DV) (μ0 : Nat → Mu)
    (hs : ∀ W1, Wle W W1 → ∀ i x, xs[i]? = some x → Run X W1 ((Γ0 i).set k (.d (enc x))) (μ0 i) body { D with nx := Stt X.K W1 (Γ0 (i + 1)) (μ0 (i + 1)), ct := Stt X.K W1 (Γ0 (i + 1)) (μ0 (i + 1)), bk := wSs X rest D })
    (hd' : Run X W (Γ0 xs.length) (μ0 xs.length) rest D) (hN : X.N.Nodup) (hk : ∀ i, (Γ0 i)[k]? = some .no := by intro _; rfl) (hm : μ = μ0 0 := by first | rfl | (simp; done)) (w : wk Γ (Γ0 0) := by repeat (first | exact wk_n | refine wk_s ?_ | refine wk_0 ?_)) (hn : X.N[k]? = some n := by rfl) (hx : Loc X.env.scope n := by first | exact Or.inl rfl | exact Or.inr rfl) (hff : X.fn n = true ∨ X.env.scope.names.lookup n = some .local := by first | exact .inr rfl | exact .inl rfl)
    (hp : PassesOwn (model X.prog X.w) X.A X.env X.xe := by exact PassesOwn.never) (hc : X.calm = true := by rfl) (hf : ∀ x, foldedSetIterable iter X.env x = pure x := by intro _; rfl) :
    Run X W Γ μ (.For (.Name n p) iter body [] pos :: rest) D :=
  run_for k hi (fun i Γ μ => wk Γ (Γ0 i) ∧ μ = μ0 i) ⟨w, hm⟩ (fun W1 l i x Γ' μ' h ⟨w', e⟩ => by
    subst e
    refine run_weak (hs W1 l i x h) ?_
    exact wk_set w' k) (fun Γ' μ' ⟨w', e⟩ => by
    subst e
    exact run_weak hd' w') hN hn hx hff hp hc hf
where
  wk_set : ∀ {Γ Γ' : List DV}, wk Γ Γ' → ∀ k {d : DV}, wk (Γ.set k d) (Γ'.set k d)
    | [], [], _, _, _ => trivial
    | a :: as, b :: bs, h, 0, d => ⟨.inr rfl, h.2⟩
    | a :: as, b :: bs, h, k + 1, d => ⟨h.1, wk_set h.2 k⟩
end
/-! ### len and the like, short -/
section
variable {X : Cx} {W : Wd} {Γ : List DV} {μ : Mu} {a : Expr} {pos p : Pos} {l : List Nat} {ds : List PyData}
theorem lenS (G : Gs X.mg) (h : Ed X W Γ μ a (sD l)) (hl : l.length ≤ 16777216 := by omega) (hg : Gl X "len" := by rfl) (he : starEach [a] X.env = (false, eval a X.env) :: starEach [] X.env := by rfl) : Ed X W Γ μ (.Call (.Name "len" p) [a] [] pos) (nn l.length) := ed_callB G.len boot_len (ea_cons h ea_nil he) (c_lenS hl) hg (he := he)
theorem lenL (G : Gs X.mg) (h : Ed X W Γ μ a (.list ds)) (hg : Gl X "len" := by rfl) (he : starEach [a] X.env = (false, eval a X.env) :: starEach [] X.env := by rfl) : Ed X W Γ μ (.Call (.Name "len" p) [a] [] pos) (nn ds.length) := ed_callB G.len boot_len (ea_cons h ea_nil he) c_lenL hg (he := he)
theorem lenLw {ws : List (List Nat)} (G : Gs X.mg) (h : Ed X W Γ μ a (wD ws)) (hg : Gl X "len" := by rfl) (he : starEach [a] X.env = (false, eval a X.env) :: starEach [] X.env := by rfl) : Ed X W Γ μ (.Call (.Name "len" p) [a] [] pos) (nn ws.length) := (lenL G h hg he).to (by rw [List.length_map])
end
end HW
set_option maxHeartbeats 4000000
namespace HW
open PySem PySem.Spec PyProof.Rows L2
open SX (S)
/-! ### what it is to be told -/
/-! ### distances -/
def optN : Option Nat → PyData
  | none => .none
  | some n => nn n
end HW
set_option maxHeartbeats 4000000
namespace HW
open PySem PySem.Spec PyProof.Rows L2
open SX (S)
/-! ### methods of texts with one text: find, index, count -/
section
variable {X : Cx} {W : Wd} {Γ : List DV} {μ : Mu} {o e : Expr} {apos pos : Pos} {l : List Nat} {c : Nat}
end
/-! ### turned letters, masks with one place more open -/
theorem rowB_all {l : List Nat} (h : rowB l = true) : ∀ c ∈ l, 97 ≤ c ∧ c < 101 := by
  unfold rowB at h
  simp only [Bool.and_eq_true, decide_eq_true_eq, List.all_eq_true] at h
  intro c hc
  have := h.2 c hc
  simp at this
  omega
theorem rowB_of {l : List Nat} (h1 : l.length ≤ 60) (h2 : ∀ c ∈ l, 97 ≤ c ∧ c < 101) : rowB l = true := low_row h1 h2
theorem maskB_iff {m : List Nat} : maskB m = true ↔ 1 ≤ m.length ∧ m.length ≤ 12 ∧ (∀ c ∈ m, c = 120 ∨ c = 46) ∧ m[0]? = some 120 ∧ m.getLast? = some 120 := by
  unfold maskB
  simp only [Bool.and_eq_true, decide_eq_true_eq, List.all_eq_true]
  constructor
  · rintro ⟨⟨⟨⟨h1, h2⟩, h3⟩, h4⟩, h5⟩
    exact ⟨h1, h2, fun c hc => by simpa using h3 c hc, h4, h5⟩
  · rintro ⟨h1, h2, h3, h4, h5⟩
    exact ⟨⟨⟨⟨h1, h2⟩, fun c hc => by simpa using h3 c hc⟩, h4⟩, h5⟩
end HW
set_option maxHeartbeats 4000000
namespace HW
open PySem PySem.Spec PyProof.Rows L2
open SX (S)
open PySem.W (dataLt minD maxD AlikeAll AllAlike Sortable EachIs dataLe alike)
/-! ### the order of data: <, min, max, sorted -/
section
variable {X : Cx} {pins : List (Addr × Obj)} {σ : L2.St} {H : Hp} {s : Shared} {L : List Addr}
end
/-! sorted -/
section
variable {X : Cx}
end
/-! texts: the order is that of their signs -/
end HW
set_option maxHeartbeats 4000000
namespace HW
open PySem PySem.Spec PyProof.Rows L2
open SX (S)
/-! ### turns that carry a fact -/
section
variable {X : Cx} {W : Wd} {Γ Γ' : List DV} {μ μ' : Mu} {α : Type} {iter a b : Expr} {body rest : List Stmt} {pos p : Pos} {enc : α → PyData} {D : Ends} {n : Str} {c : Expr}
end
/-! ### rings -/
theorem Small.words {m : List Nat} {n k : Nat} (h : Small m n) (hk : k ≤ n ^ (seenL m).length) : (words n k).length ≤ 8388608 := by
  have h1 := h.pos
  exact Nat.le_trans (words_len h.hi k) (Nat.le_trans (Nat.pow_le_pow_right h.lo (by omega)) h.bound.1)
end HW
set_option maxHeartbeats 4000000
namespace HW
open PySem PySem.Spec PyProof.Rows L2
open SX (S)
open PySem.W (dataLt minD maxD AlikeAll AllAlike Sortable EachIs dataLe alike)
/-! ### pairs (number, text) in order -/
section
variable {X : Cx}
end
/-! ### "".join of signs that are drawn -/
section
variable {X : Cx} {W : Wd} {Γ : List DV} {μ : Mu} {α : Type} {iter elt o : Expr} {scope : Scope} {pos pos2 apos p : Pos} {enc : α → PyData} {n : Str} {P : List α → Prop} {Q : Nat → Prop}
end
/-! ### mending -/
end HW
set_option maxHeartbeats 4000000
namespace HW
open PySem PySem.Spec PyProof.Rows L2
open SX (S)
open PySem.W (dataLt minD maxD AlikeAll AllAlike Sortable EachIs dataLe alike)
/-! ### a list in strict order is the sorted one -/
/-! ### looks -/
/-! ### either way -/
abbrev Stand := Nat × Bool
def backL (l m : List Nat) (p : Nat) : List Nat := (seenL m).map fun a => l.getD (p - a) 0
def standAt (l m : List Nat) (p : Nat) : List (Stand × List Nat) := (if m.length ≤ p + 1 then [((p, false), backL l m p)] else []) ++ (if p + m.length ≤ l.length then [((p, true), viewL l m p)] else [])
end HW
set_option maxHeartbeats 4000000
namespace HW
open PySem PySem.Spec PyProof.Rows L2
open SX (S)
section
variable {X : Cx} {W : Wd} {Γ Γ' : List DV} {μ μ' : Mu} {α : Type} {iter : Expr} {body rest : List Stmt} {pos : Pos} {D : Ends}
end
section
variable {X : Cx} {W : Wd} {Γ : List DV} {μ : Mu} {a b : Expr} {pos p p2 : Pos} {n : Str} {r scr : Addr} {ns : List Int} {k : Nat} {l m : List Nat}
end
/-! ### the first like ones -/
end HW
set_option maxHeartbeats 4000000
namespace HW
open PySem PySem.Spec PyProof.Rows L2
open SX (S)
/-! ### local dicts whose keys are numbers or texts -/
section
variable {κ : Type} [DecidableEq κ]
end
section
variable {κ : Type} [DecidableEq κ] {K : PySem.W.Frag} {H : Hp} {ks : List (κ × V)} {kvs : List (κ × PyData)} {k : κ} {v : V} {d : PyData}
end
section
variable {X : Cx} {W W0 : Wd} {Γ : List DV} {μ : Mu} {e b value : Expr} {rest : List Stmt} {D : Ends} {pos p p1 p2 pd pos' : Pos} {n n1 n2 : Str} {k : L2.Key} {kvs : List (L2.Key × PyData)} {l : Addr} {d y : PyData}
end
/-! ### xs.index(text); x or "a" -/
section
variable {X : Cx} {W : Wd} {Γ : List DV} {μ : Mu} {o e a b : Expr} {apos pos : Pos} {ws : List (List Nat)} {w : List Nat} {j : Nat}
end
/-! ### draws of great numbers -/
section
variable {X : Cx} {W : Wd} {Γ : List DV} {μ : Mu} {a : Expr} {pos p p2 : Pos} {n : Str} {r scr : Addr} {ns : List Int} {k : Nat}
end
end HW
set_option maxHeartbeats 4000000
namespace HW
open PySem PySem.Spec PyProof.Rows L2
open SX (S)
/-! ### rows without end -/
end HW
set_option maxHeartbeats 4000000
namespace HW
open PySem PySem.Spec PyProof.Rows L2
open SX (S)
/-! ### local lists: copied, read, written at a place -/
section
variable {X : Cx} {W W0 : Wd} {Γ : List DV} {μ : Mu} {e value i' : Expr} {rest : List Stmt} {D : Ends} {pos p p1 p2 pos' : Pos} {n : Str} {l : Addr} {d y : PyData} {ds ys : List PyData} {z : Int}
end
/-! ### rows put together -/
abbrev gL (f : List Nat) : PyData := .list (f.map sg)
end HW
set_option maxHeartbeats 4000000
namespace HW
open PySem PySem.Spec PyProof.Rows L2
open SX (S)
/-! ### enumerate over text, list or tuple -/
open Sem (wp) in
open AutoSeq1 (wpAny_loadPart') in
section
variable {X : Cx} {W : Wd} {Γ : List DV} {μ : Mu} {α : Type} {a : Expr} {pos p tpos : Pos} {elts : List Expr} {kk : Nat} {d : PyData} {enc : α → PyData} {xs : List α}
end
/-! ### looks laid -/
theorem shp_optN (q : Option Nat) : Shp 0 (optN q) := by
  cases q
  · exact Shp.non
  · exact Shp.int
section
variable {X : Cx} {W : Wd} {Γ : List DV} {μ : Mu} {a b : Expr} {pos p p2 : Pos} {n : Str} {r scr : Addr} {ns : List Int} {k : Nat} {l m : List Nat}
end
end HW
set_option maxHeartbeats 4000000
namespace HW
open PySem PySem.Spec PyProof.Rows L2
open SX (S)
/-! ### sets whose table can be walked -/
/-- the table's places rise, and their order is the table's own -/
def WalkT (w : World) (t : SetTable) : Prop := Ris t.place.toList ∧ (w.params.followText "set-order" = true ∨ t.led = true)
theorem WalkT.off {w : World} {t : SetTable} (h : WalkT w t) : WalkT w { t with plain := false } := h
theorem WalkT.lay {w : World} {t : SetTable} (g : WalkT w t) (es : Array (Int × Value)) (h : Int) (x : Value) : WalkT w (layNew t es h x).2.1 := ⟨layNew_ris t es h x g.1, g.2.imp id fun e => (layNew_led t es h x).trans e⟩
section
variable {prog : Program} {w : World} {K : Type} [DecidableEq K] (knd : KeyKind prog w K)
/-- the elements es are the n keys of S -/
structure HasK (S : K → Bool) (n : Nat) (es : Array (Int × Value)) (t : SetTable) : Prop where
  els : ElemsOf knd es.toList
  mem : ∀ k, S k = true ↔ ∃ e ∈ es.toList, knd.is k e.2 = true
  few : es.size < scanBound
  fits : t.fits es.size = true
  num : es.size = n
  walk : WalkT w t
def SetG (h : Heap) (a : Addr) (S : K → Bool) (n : Nat) : Prop := ∃ o es ep t, h.get? a = some o ∧ o.ExactSet ∧ o.data = .set es ep t ∧ HasK knd S n es t
variable {knd}
theorem SetG.keep {h h' : Heap} {a : Addr} {S : K → Bool} {n : Nat} (g : SetG knd h a S n) (k : ∀ o, h.get? a = some o → h'.get? a = some o) : SetG knd h' a S n :=
  let ⟨o, es, ep, t, ho, r⟩ := g; ⟨o, es, ep, t, k o ho, r⟩
theorem SetG.eq {h : Heap} {a : Addr} {S S' : K → Bool} {n n' : Nat} (g : SetG knd h a S n) (e : ∀ k, S k = S' k) (en : n = n') : SetG knd h a S' n' := by
  have : S = S' := funext e
  subst this
  subst en
  exact g
theorem SetG.fresh {h : Heap} : SetG knd (h.push { cls := .type "set", dict := none, data := .set #[] 0 (.fresh 0 0 (!w.params.followText "set-order")) }) h.objs.size (fun _ => false) 0 :=
  ⟨_, #[], 0, _, Heap.get?_push_size _ rfl, ⟨rfl, rfl, rfl⟩, rfl, { els := fun e he => by simp at he, mem := fun k => by simp, few := by decide, fits := by rfl, num := rfl, walk := ⟨List.Pairwise.nil, by
    show _ ∨ (!w.params.followText "set-order") = true
    cases w.params.followText "set-order"
    · exact .inr rfl
    · exact .inl rfl⟩ }⟩
/-- the elements in another order, under another table -/
theorem HasK.perm {S : K → Bool} {n : Nat} {es es' : Array (Int × Value)} {t t' : SetTable} (g : HasK knd S n es t) (p : es'.toList.Perm es.toList) (hf : t'.fits es'.size = true) (hw : WalkT w t') : HasK knd S n es' t' := by
  have hz : es'.size = es.size := by rw [← Array.length_toList, p.length_eq, Array.length_toList]
  exact { els := g.els.perm p, mem := fun k => (g.mem k).trans ⟨fun ⟨e, he, q⟩ => ⟨e, p.mem_iff.mpr he, q⟩, fun ⟨e, he, q⟩ => ⟨e, p.mem_iff.mp he, q⟩⟩, few := by rw [hz]; exact g.few, fits := hf, num := hz.trans g.num, walk := hw }
/-- one more -/
theorem HasK.push {S : K → Bool} {n : Nat} {es es' : Array (Int × Value)} {t t' : SetTable} {k : K} {x : Value} (g : HasK knd S n es t) (hk : knd.is k x = true) (hx : x.scannable = true) (p : es'.toList.Perm (es.toList ++ [(knd.hash k, x)])) (hf : t'.fits es'.size = true) (hw : WalkT w t') (hn : n + 1 < scanBound) :
    HasK knd (fun j => S j || decide (j = k)) (n + 1) es' t' := by
  have hz : es'.size = n + 1 := by rw [← Array.length_toList, p.length_eq, List.length_append, Array.length_toList, g.num]; rfl
  exact { els := (g.els.push hk hx).perm p, mem := mem_push_iff hk g.mem p, few := by rw [hz]; exact hn, fits := hf, num := hz, walk := hw }
section
variable {A : Around} {E : Value → Shared → Prop} {s : Shared} {a : Addr} {S : K → Bool} {n : Nat}
end
end
section
variable {prog : Program} {w : World} {K : Type} [DecidableEq K] {knd : KeyKind prog w K} {A : Around} {R : Result → Shared → Prop} {I : Addr} {fp wr : List Addr} {G : Array GenState → Array GenState → Prop} {n : Nat} {P : Nat → Value → Prop} {St : Nat → Shared → Prop}
end
section
variable {prog : Program} {w : World} {K : Type} [DecidableEq K] {knd : KeyKind prog w K} {A : Around} {E : Value → Shared → Prop} {s : Shared}
end
end HW
set_option maxHeartbeats 4000000
namespace HW
open PySem PySem.Spec PyProof.Rows L2
open SX (S)
open PySem.W (dataLt AlikeAll AllAlike Sortable EachIs dataLe alike)
/-! ### sorted(set(texts)) -/
section
variable {prog : Program} {w : World} {A : Around} {E : Value → Shared → Prop} {s : Shared}
theorem EachIs.find {R : Value → List Nat → Prop} : ∀ {vs : List Value} {bs : List (List Nat)}, EachIs R vs bs → ∀ v ∈ vs, ∃ b ∈ bs, R v b
  | _, _, .nil, v, h => nomatch h
  | _, _, .cons h t, v, hv => by
    rcases List.mem_cons.mp hv with e | hv
    · exact ⟨_, List.mem_cons_self, e ▸ h⟩
    · obtain ⟨b, hb, q⟩ := EachIs.find t v hv
      exact ⟨b, List.mem_cons_of_mem _ hb, q⟩
theorem EachIs.len {R : Value → List Nat → Prop} : ∀ {vs : List Value} {bs : List (List Nat)}, EachIs R vs bs → vs.length = bs.length
  | _, _, .nil => rfl
  | _, _, .cons _ t => congrArg (· + 1) (EachIs.len t)
end
section
variable {X : Cx} {W : Wd} {Γ : List DV} {μ : Mu} {a : Expr} {p p2 q pos : Pos} {ws : List (List Nat)}
end
end HW
set_option maxHeartbeats 4000000
namespace HW
open PySem PySem.Spec PyProof.Rows L2
open SX (S)
/-! ### s.count(sign) -/
theorem cnt_nat (c : Nat) : ∀ l : List Nat, PyProof.Rows.cnt c l = ((l.count c : Nat) : Int)
  | [] => rfl
  | n :: l => by
    rw [PyProof.Rows.cnt_cons, cnt_nat c l, List.count_cons]
    by_cases h : n = c
    · rw [if_pos h, if_pos (beq_iff_eq.mpr h)]
      push_cast
      omega
    · rw [if_neg h, if_neg (fun q => h (beq_iff_eq.mp q))]
      push_cast
      omega
section
variable {X : Cx} {W : Wd} {Γ : List DV} {μ : Mu} {o e : Expr} {apos pos : Pos} {l : List Nat} {c : Nat}
end
/-! ### rows some letters of which were not read -/
end HW
set_option maxHeartbeats 4000000
namespace HW
open PySem PySem.Spec PyProof.Rows L2
open SX (S)
section
variable {X : Cx} {W : Wd} {Γ Γ' : List DV} {μ μ' : Mu} {α : Type} {iter : Expr} {body rest : List Stmt} {pos : Pos} {D : Ends}
/-- for n in iter, over whatever comes: Φ i before turn i -/
theorem run_forVI {n : Str} {p : Pos} {enc : α → PyData} {P : List α → Prop} (k : Nat) (hi : IterV X W Γ μ (.Name n p) iter enc P) (Φ : Nat → List DV → Mu → Prop) (h0 : Φ 0 Γ μ)
    (hs : ∀ xs, P xs → ∀ W1, Wle W W1 → ∀ i x, xs[i]? = some x → ∀ Γ' μ', Φ i Γ' μ' → Run X W1 (Γ'.set k (.d (enc x))) μ' body { D with nx := StP X.K W1 (Φ (i + 1)), ct := StP X.K W1 (Φ (i + 1)), bk := wSs X rest D })
    (hd' : ∀ xs, P xs → ∀ Γ' μ', Φ xs.length Γ' μ' → Run X W Γ' μ' rest D) (hN : X.N.Nodup) (hn : X.N[k]? = some n := by rfl) (hx : Loc X.env.scope n := by first | exact Or.inl rfl | exact Or.inr rfl) (hff : X.fn n = true ∨ X.env.scope.names.lookup n = some .local := by first | exact .inr rfl | exact .inl rfl)
    (hp : PassesOwn (model X.prog X.w) X.A X.env X.xe := by exact PassesOwn.never) (hc : X.calm = true := by rfl) (hf : ∀ x, foldedSetIterable iter X.env x = pure x := by intro _; rfl) :
    Run X W Γ μ (.For (.Name n p) iter body [] pos :: rest) D :=
  run_forG hi (tg_name k) (pg_name hN hn hx hff) (fun _ _ _ _ => trivial) (fun _ => Φ) (fun _ _ => h0) (fun xs px W1 l i x Γ' μ' h j => hs xs px W1 l i x h Γ' μ' j) (fun xs px Γ' μ' j => hd' xs px Γ' μ' j) hp hc hf
end
/-! ### patterns drawn -/
section
variable {X : Cx} {W : Wd} {Γ : List DV} {μ : Mu} {a b c : Expr} {pos p p2 : Pos} {n : Str} {r scr : Addr} {ns : List Int} {k : Nat} {l m : List Nat}
end
end HW
set_option maxHeartbeats 4000000
namespace HW
open PySem PySem.Spec PyProof.Rows L2
open SX (S)
/-! ### rings turned and read back -/
/-! ### rings in order, and back -/
/-! ### how many -/
end HW
set_option maxHeartbeats 4000000
namespace HW
open PySem PySem.Spec PyProof.Rows L2
open SX (S)
end HW
set_option maxHeartbeats 4000000
namespace HX
open PySem PySem.Spec PyProof.Rows L2 He
/-! the head's Hook with the model's own table of statics -/
def asS (g : Addr → Option Obj) (n : Nat) : List Addr := asD g n ++ [cStatics]
def obsS (n : Nat) (fa : List Fa) (fn : List DefD) (ex : PySem.W.Frag → Bool) (g : Addr → Option Obj) : AlE := (obsD fa fn (frG g (asS g n)), ex (frG g (asS g n)))
def hookS (n : Nat) (fa : List Fa) (fn : List DefD) (ex : PySem.W.Frag → Bool) : PySem.W.Hook where
  α := AlE
  obs := fun s => obsS n fa fn ex s.heap.get?
  val := fun _ => (valD fn, true)
  says := fun _ h => ∃ K : PySem.W.Frag, K.In h ∧ SaysD fa fn K ∧ ex K = true
  of := fun _ _ e => ⟨_, frG_in, congrArg (fun z : AlE => z.1) e, congrArg (fun z : AlE => z.2) e⟩
  keeps := fun _ _ _ ⟨K, hK, c⟩ k => ⟨K, PySem.W.Frag.In.keeps hK k, c⟩
theorem obsS_eq {n : Nat} {fa : List Fa} {fn : List DefD} {ex : PySem.W.Frag → Bool} {g : Addr → Option Obj} {s : Shared} (h : ∀ a, g a = s.heap.get? a) : obsS n fa fn ex g = (hookS n fa fn ex).obs s := by
  have e : g = s.heap.get? := funext h
  rw [e] <;> rfl
end HX
namespace HW
open PySem PySem.Spec PyProof.Rows L2
open SX (S)
/-! ### exception classes of the program -/
/-- the j-th statement of a class -/
def clsM (st : Stmt) (j : Nat) : Stmt := match st with
  | .ClassDef _ _ _ body _ _ _ _ _ _ _ => body.getD j (.Pass ⟨0, 0, 0, 0⟩)
  | s => s
def oexB (K : PySem.W.Frag) (C : Addr) : Bool := match K.lookup C with
  | some ⟨.type "type", _, .cls cd, sl⟩ => (match cd.mro, sl.toList with
    | .ref C' :: bm, [_, _, _, _, some (.builtin n), _] => C' == C && n == "ValueError.__new__" && !cd.hasDel && cd.hasDict && PySem.HandSPX.refsVE bm
    | _, _ => false)
  | _ => false
theorem oexB_ok {K : PySem.W.Frag} {C : Addr} (q : oexB K C = true) : ∃ nm q N bs bm sn sub ab col dd k0 k1 k2 k3 k5, K.lookup C = some (excClassObj nm q C N bs bm true sn sub ab col dd k0 k1 k2 k3 k5 "ValueError.__new__") ∧ PySem.HandSPX.refsVE bm = true := by
  unfold oexB at q
  split at q
  · rename_i dd cd sl ho
    split at q
    · rename_i C' bm k0 k1 k2 k3 n k5 hm hs
      simp only [Bool.and_eq_true, beq_iff_eq, Bool.not_eq_true'] at q
      obtain ⟨⟨⟨⟨h1, h2⟩, h3⟩, h4⟩, h5⟩ := q
      subst h1
      subst h2
      obtain ⟨nm, bs, mro, ns, qn, hd, sn, sub, ab, col, del⟩ := cd
      dsimp only at hm h3 h4
      subst hm h3 h4
      have hsl : sl = #[k0, k1, k2, k3, some (.builtin "ValueError.__new__"), k5] := by
        obtain ⟨l⟩ := sl
        simp only at hs
        rw [hs]
      subst hsl
      exact ⟨nm, qn, ns, bs, bm, sn, sub, ab, col, dd, k0, k1, k2, k3, k5, ho, h5⟩
    · cases q
  · cases q
/-- the class x: raised, made by its own __init__, its fields read -/
structure ExF (K : PySem.W.Frag) (mg : Str → Option Value) (x : Str) : Prop where
  g : mg x = some (.ref (He.ga K x))
  oex : OexC K (He.ga K x)
  ini : PySem.W.findIn K (.ref (He.ga K x)) "__init__" = some (some (.ref (He.ma K (He.ga K x) "__init__")))
  ty : PySem.W.typeIn K (.ref (He.ma K (He.ga K x) "__init__")) = some (.type "function")
  xf : XfC K (He.ga K x)
def exfB (x : Str) (K : PySem.W.Frag) : Bool := He.eqO (PySem.W.nsIn K mainGlobals x) (some (some (.ref (He.ga K x)))) && (oexB K (He.ga K x) && (He.eqO (PySem.W.findIn K (.ref (He.ga K x)) "__setattr__") (some (some (.builtin "object.__setattr__"))) && (decide (PySem.W.subIn K (.ref (He.ga K x)) (.type "BaseException") = some true) &&
  (decide (PySem.W.typeIn K (.ref (He.ga K x)) = some (.type "type")) && (PySem.W.keepIn K (.ref (He.ga K x)) && (He.eqO (PySem.W.findIn K (.ref (He.ga K x)) "__init__") (some (some (.ref (He.ma K (He.ga K x) "__init__")))) && (decide (PySem.W.typeIn K (.ref (He.ma K (He.ga K x) "__init__")) = some (.type "function")) && xfB K (He.ga K x))))))))
theorem exfB_ok {K : PySem.W.Frag} {h : Heap} {mg : Str → Option Value} {x : Str} (X : K.In h) (G : h.Ns mainGlobals mg) (c : exfB x K = true) : ExF K mg x := by
  unfold exfB at c
  obtain ⟨h1, c⟩ := Bool.and_eq_true_iff.mp c
  obtain ⟨h2, c⟩ := Bool.and_eq_true_iff.mp c
  obtain ⟨h3, c⟩ := Bool.and_eq_true_iff.mp c
  obtain ⟨h4, c⟩ := Bool.and_eq_true_iff.mp c
  obtain ⟨h5, c⟩ := Bool.and_eq_true_iff.mp c
  obtain ⟨h6, c⟩ := Bool.and_eq_true_iff.mp c
  obtain ⟨h7, c⟩ := Bool.and_eq_true_iff.mp c
  obtain ⟨h8, c⟩ := Bool.and_eq_true_iff.mp c
  exact ⟨PySem.W.mg_of X G (He.eqO_ok h1), ⟨oexB_ok h2, He.eqO_ok h3, of_decide_eq_true h4, of_decide_eq_true h5, h6⟩, He.eqO_ok h7, of_decide_eq_true h8, xfB_ok c⟩
/-- the class x is asked for its __init__, which is ValueError's -/
structure BaseF (K : PySem.W.Frag) (mg : Str → Option Value) (x : Str) : Prop where
  g : mg x = some (.ref (He.ga K x))
  rd : PySem.W.readsIn K (He.ga K x) (.type "type") = true
  ga : PySem.W.specialIn K (.ref (He.ga K x)) "__getattribute__" = some (some (.builtin "type.__getattribute__"))
  at_ : PySem.W.findCls K (.ref (He.ga K x)) (.type "type") "__init__" = some (.val (.builtin "ValueError.__init__"))
def baseB (x : Str) (K : PySem.W.Frag) : Bool := He.eqO (PySem.W.nsIn K mainGlobals x) (some (some (.ref (He.ga K x)))) && (PySem.W.readsIn K (He.ga K x) (.type "type") && (He.eqO (PySem.W.specialIn K (.ref (He.ga K x)) "__getattribute__") (some (some (.builtin "type.__getattribute__"))) &&
  (match PySem.W.findCls K (.ref (He.ga K x)) (.type "type") "__init__" with
    | some (.val (.builtin n)) => n == "ValueError.__init__"
    | _ => false)))
theorem baseB_ok {K : PySem.W.Frag} {h : Heap} {mg : Str → Option Value} {x : Str} (X : K.In h) (G : h.Ns mainGlobals mg) (c : baseB x K = true) : BaseF K mg x := by
  unfold baseB at c
  obtain ⟨h1, c⟩ := Bool.and_eq_true_iff.mp c
  obtain ⟨h2, c⟩ := Bool.and_eq_true_iff.mp c
  obtain ⟨h3, c⟩ := Bool.and_eq_true_iff.mp c
  refine ⟨PySem.W.mg_of X G (He.eqO_ok h1), h2, He.eqO_ok h3, ?_⟩
  split at c
  · rename_i n e
    rw [e, beq_iff_eq.mp c]
  · cases c
/-! ### Base.__init__(self, ..) -/
section
variable {X : Cx} {e : Expr} {es : List Expr} {ta : TA} {p1 p2 pos : Pos} {x : Str}
theorem pe_baseInit {pl : Sem Bool} (B : BaseF X.K X.mg x) (hg : Gl X x) (ha : PA X (e :: es) ta) (hdb : (x == ("__debug__" : Str)) = false := by decide)
    (hc : eval (.Call (.Attribute (.Name x p1) "__init__" p2) (e :: es) [] pos) X.env = (do
      let ov ← eval (.Name x p1) X.env
      PySem.standAt p2.atName
      let (f, first) ← holding [ov] (getMethod ov "__init__" pl)
      callWith pos f first (backTo pos (starEach (e :: es) X.env)) (backToKw pos (keywordEach [] X.env))) := by rfl)
    (he : starEach (e :: es) X.env = (false, eval e X.env) :: starEach es X.env := by rfl) (hpl : (backTo pos (starEach es X.env)).any (·.1) = false := by rfl) :
    PE X (.Call (.Attribute (.Name x p1) "__init__" p2) (e :: es) [] pos) (tVeI X.K ta) := by
  refine ⟨fun pins s σ H Q I h => ?_⟩
  refine PySem.W.methodCall_KW (ld_glob I hg B.g ?_ hdb) hc
  refine PySem.W.method_cls I.kIn B.ga (PySem.W.cls_value I.kIn B.rd B.at_ (by decide +kernel) ?_)
  show wpAny _ _ (callWith pos (Value.builtin "ValueError.__init__") [] (backTo pos (starEach (e :: es) X.env)) []) _ _ _
  refine PyProof.Rows.callWith_method1 (thn (ha.run pos pins _ σ H _ (I.tok _) h) fun us s1 ⟨vs, H1, I1, r1, a, C, ws, ev, hl, T, ea, q⟩ => ?_) he hpl
  subst ev
  cases r1 with
  | @cons _ u0 _ ur ra rw' =>
    obtain rfl : u0 = Value.ref a := ra
    have hlen : ur.length ≤ sizeLine := by
      rw [← Paired.length rw', sizeLine_eq]
      omega
    exact oinit_ok T I1 ea hlen fun s' J => ⟨.non, H1, J, rfl, q⟩
end
/-! ### the promises of __init__ -/
/-- an __init__ that stores nothing -/
def spI0 (K : PySem.W.Frag) (C : Addr) : Sp := fun vs H Q _ => ∃ a, vs = [.ref a] ∧ OexC K C ∧ H a = some (exo a C none) ∧ Q .non H
/-- an __init__ that stores its argument in the field f -/
def spI1 (K : PySem.W.Frag) (C : Addr) (f : Str) : Sp := fun vs H Q _ => ∃ a v, vs = [.ref a, v] ∧ OexC K C ∧ PySem.W.findIn K (.ref C) f = some none ∧ H a = some (exo a C none) ∧ ∀ dx, H dx = none → dx ≠ a → Q .non (upd (upd H dx (exd dx [(f, v)])) a (exo a C (some dx)))
section
variable {P : Program} {w : World} {K : PySem.W.Frag} {mg : Str → Option Value} {base : Heap} {x qual : Str} {params : Arguments} {scope : Scope} {f : Addr} {fd : FuncData} {k : Nat} {C : Addr}
theorem fn_init1 {msg fld : Str} {j : Nat} {p1 p2 p3 p4 p5 p6 p7 p8 p9 p10 : Pos} (hf1 : (fld == ("__debug__" : Str)) = false) (hf2 : (fld == ("__classdict__" : Str)) = false) (F : FunD K x qual params [.Expr (.Call (.Attribute (.Name "WindowError" p1) "__init__" p2) [.Name "self" p3, .Constant (.str msg) j p4] [] p5) p6, .Assign [.Attribute (.Name "self" p7) fld p8] (.Name fld p9) p10] scope [] [] f fd) (S : FnScope ["self", fld] ["self", fld] scope) (B : BaseF K mg "WindowError") (hno : PySem.W.findIn K (.ref C) fld = some none)
    (hg : ∀ cdv A outer s H E, Gl (cxOf CX0 P w K mg base ["self", fld] qual scope f cdv A outer s H E).nox "WindowError")
    (hv : ∀ cdv A outer s H E, Vis (cxOf CX0 P w K mg base ["self", fld] qual scope f cdv A outer s H E).nox.env.scope "self")
    (hv2 : ∀ cdv A outer s H E, Vis (cxOf CX0 P w K mg base ["self", fld] qual scope f cdv A outer s H E).nox.env.scope fld)
    (hc : ∀ cdv A outer s H E, ∃ pl : Sem Bool, eval (.Call (.Attribute (.Name "WindowError" p1) "__init__" p2) [.Name "self" p3, .Constant (.str msg) j p4] [] p5) (cxOf CX0 P w K mg base ["self", fld] qual scope f cdv A outer s H E).nox.env = (do
      let ov ← eval (.Name "WindowError" p1) (cxOf CX0 P w K mg base ["self", fld] qual scope f cdv A outer s H E).nox.env
      PySem.standAt p2.atName
      let (g, first) ← holding [ov] (getMethod ov "__init__" pl)
      callWith p5 g first (backTo p5 (starEach [.Name "self" p3, .Constant (.str msg) j p4] (cxOf CX0 P w K mg base ["self", fld] qual scope f cdv A outer s H E).nox.env)) (backToKw p5 (keywordEach [] (cxOf CX0 P w K mg base ["self", fld] qual scope f cdv A outer s H E).nox.env))))
    (hs : ∀ cdv A outer s H E, swapsWith (.Call (.Attribute (.Name "WindowError" p1) "__init__" p2) [.Name "self" p3, .Constant (.str msg) j p4] [] p5) none p6.line (cxOf CX0 P w K mg base ["self", fld] qual scope f cdv A outer s H E).nox.env = pure false)
    (hs2 : ∀ cdv A outer s H E, swapsWith (.Name fld p9) (some (.Attribute (.Name "self" p7) fld p8)) p10.line (cxOf CX0 P w K mg base ["self", fld] qual scope f cdv A outer s H E).nox.env = pure false) :
    FnOk P w K mg base CX0 (k + 1) f fd ["self", fld] (spI1 K C fld) := by
  refine F.ok S (fun vs H Q E ⟨a, v, e, _⟩ => by rw [e]; rfl) fun cdv A outer s H vs Q E hr ⟨a, v, e, T, hno2, ha, q⟩ => ?_
  obtain ⟨pl, hcc⟩ := hc cdv A outer s H E
  refine ⟨_, PSs.nox (pss_cons (ps_expr (pe_baseInit (pl := pl) B (hg cdv A outer s H E) (pa_cons (pe_var (i := 0) rfl (hv cdv A outer s H E) (by decide) (by decide)) (pa_cons pe_str pa_nil rfl) rfl) (by decide) hcc) (hs cdv A outer s H E)) (pss_cons (ps_ost (pe_var (i := 0) rfl (hv cdv A outer s H E) (by decide) (by decide)) (pe_var (i := 1) rfl (hv2 cdv A outer s H E) hf1 hf2) (hs2 cdv A outer s H E)) pss_nil)), ?_⟩
  subst e
  refine ⟨_, rfl, ?_⟩
  refine ⟨a, C, [V.str msg], rfl, (by show 1 ≤ 1000; decide), T, ha, ?_⟩
  exact ⟨_, rfl, _, rfl, a, C, rfl, T, hno, .inl ⟨ha, fun dx n ne => q dx n ne⟩⟩
end
end HW
set_option maxHeartbeats 4000000
namespace HW
open PySem PySem.Spec PyProof.Rows L2
open SX (S)
/-! ### raise -/
/-- a class whose __init__ keeps one field, ready to be raised -/
structure Ex1 (P : Program) (w : World) (K : PySem.W.Frag) (mg : Str → Option Value) (base : Heap) (k : Nat) (x fld : Str) : Prop where
  f : ExF K mg x
  no : PySem.W.findIn K (.ref (He.ga K x)) fld = some none
  ini : ∃ fd, FnOk P w K mg base CX0 k (He.ma K (He.ga K x) "__init__") fd ["self", fld] (spI1 K (He.ga K x) fld) ∧ Binds K fd ["self", fld] []
/-- .. that keeps none -/
structure Ex0 (P : Program) (w : World) (K : PySem.W.Frag) (mg : Str → Option Value) (base : Heap) (k : Nat) (x : Str) : Prop where
  f : ExF K mg x
  ini : ∃ fd, FnOk P w K mg base CX0 k (He.ma K (He.ga K x) "__init__") fd ["self"] (spI0 K (He.ga K x)) ∧ Binds K fd ["self"] []
/-- what an exception is known by: its class, its field -/
def XO (K : PySem.W.Frag) (L : List Addr) (H0 H' : Hp) (x : Str) (fo : Option (Str × PyData)) (cls : Value) (d : Option Addr) : Prop := cls = .ref (He.ga K x) ∧ Same H0 H' ∧ match fo with
  | none => True
  | some (f, y) => ∃ dd v, d = some dd ∧ H0 dd = none ∧ H' dd = some (.xd [(f, v)]) ∧ Va K (off L H') v y
/-- a def that raises -/
def spX (K : PySem.W.Frag) (R : List PyData → Str → Option (Str × PyData) → Prop) : Sp := fun vs H Q E => ∃ (L : List Addr) (ds : List PyData) (x : Str) (fo : Option (Str × PyData)), (∀ a ∈ L, H a ≠ none) ∧ VaAll K (off L H) vs ds ∧ R ds x fo ∧ ∀ cls d H', XO K L H H' x fo cls d → E cls d H'
structure FdX (P : Program) (w : World) (K : PySem.W.Frag) (mg : Str → Option Value) (base : Heap) (k : Nat) (x : Str) (ps : List Str) (R : List PyData → Str → Option (Str × PyData) → Prop) : Prop where
  ex : ∃ (f : Addr) (fd : FuncData), FnOk P w K mg base (L2.CX P w) k f fd ps (spX K R) ∧ mg x = some (.ref f) ∧ PySem.W.keepIn K (.ref f) = true ∧ Binds K fd ps []
theorem Ex1.mono {P : Program} {w : World} {K : PySem.W.Frag} {mg : Str → Option Value} {base : Heap} {j k : Nat} {x fld : Str} (F : Ex1 P w K mg base j x fld) (h : j ≤ k) : Ex1 P w K mg base k x fld := by
  obtain ⟨fd, h1, h2⟩ := F.ini
  exact ⟨F.f, F.no, fd, h1.mono h, h2⟩
theorem Ex0.mono {P : Program} {w : World} {K : PySem.W.Frag} {mg : Str → Option Value} {base : Heap} {j k : Nat} {x : Str} (F : Ex0 P w K mg base j x) (h : j ≤ k) : Ex0 P w K mg base k x := by
  obtain ⟨fd, h1, h2⟩ := F.ini
  exact ⟨F.f, fd, h1.mono h, h2⟩
theorem FdX.mono {P : Program} {w : World} {K : PySem.W.Frag} {mg : Str → Option Value} {base : Heap} {j k : Nat} {x : Str} {ps : List Str} {R : List PyData → Str → Option (Str × PyData) → Prop} (F : FdX P w K mg base j x ps R) (h : j ≤ k) : FdX P w K mg base k x ps R := by
  obtain ⟨f, fd, h1, h2⟩ := F.ex
  exact ⟨f, fd, h1.mono h, h2⟩
theorem same_trans {a b c : Hp} (h1 : Same a b) (h2 : Same b c) : Same a c := fun x o e => h2 x o (h1 x o e)
theorem same_offL {L : List Addr} {H H' : Hp} (s : Same H H') : Same (off L H) (off L H') := fun a o e => by
  obtain ⟨h1, h2⟩ := off_some e
  unfold off at e ⊢
  rw [if_neg h1]
  exact s a o h2
section
variable {X : Cx} {W : Wd} {Γ : List DV} {μ : Mu} {a : Expr} {rest : List Stmt} {D : Ends} {y : PyData} {x fld : Str} {k : Nat} {p pos pos2 : Pos} {W0 : WX}
/-- raise X(a) -/
theorem run_raise1 (F : Ex1 X.prog X.w X.K X.mg X.base k x fld) (hr : Room (k + 1) X.A) (tk : Takes X W0) (ha : Ed X W Γ μ a y) (h : ∀ σ H, Rep X.K W Γ μ σ H → ∀ cls d H', XO X.K W.M H H' x (some (fld, y)) cls d → W0 cls d σ H') (hg : Gl X x := by rfl) (hc : X.calm = true := by rfl)
    (hdb : (x == ("__debug__" : Str)) = false := by decide) (hs1 : starEach [a] X.env = (false, eval a X.env) :: starEach [] X.env := by rfl) (hpl : (backTo pos (starEach [] X.env)).any (·.1) = false := by rfl) : Run X W Γ μ (.Raise (some (.Call (.Name x p) [a] [] pos)) none pos2 :: rest) D := fun σ H R => by
  obtain ⟨fd, F1, hb⟩ := F.ini
  refine wSs_cons ((ps_raise hc tk (pmk_oex F.f.oex F.f.ini F.f.ty F1 hr hb .nil pass0 hg F.f.g (pa_cons wE.pe pa_nil hs1) hdb hs1 hpl)).w ?_)
  refine ha σ H R _ fun v H2 R2 e2 r2 => ⟨by show 1 ≤ 1000; decide, fun a0 hna => ⟨a0, v, rfl, F.f.oex, F.no, upd_same, fun dx hdx hne => ⟨rfl, dx, [(fld, v)], upd_same, ?_, ?_, ?_⟩⟩⟩
  · rw [upd_ne hne, upd_same]
  · rw [upd_ne hne] at hdx
    exact hdx
  · have hd1 : H2 dx = none := by
      rw [upd_ne hne] at hdx
      exact hdx
    have sm : Same H2 (upd (del (upd (upd (upd H2 a0 (exo a0 (He.ga X.K x) none)) dx (exd dx [(fld, v)])) a0 (exo a0 (He.ga X.K x) (some dx))) a0) dx (.xd [(fld, v)])) := fun b o e => by
      have h1 : b ≠ a0 := fun z => by rw [z, hna] at e; cases e
      have h2 : b ≠ dx := fun z => by rw [z, hd1] at e; cases e
      rw [upd_ne h2, del_ne h1, upd_ne h1, upd_ne h2, upd_ne h1]
      exact e
    refine h σ H2 R2 _ _ _ ⟨rfl, sm, dx, v, rfl, hd1, upd_same, ?_⟩
    exact (r2.up (same_offs fun a ha => List.mem_append_left _ ha)).up (same_offL sm)
end
section
variable {P : Program} {w : World} {K : PySem.W.Frag} {mg : Str → Option Value} {base : Heap} {x qual : Str} {params : Arguments} {body : List Stmt} {scope : Scope} {f : Addr} {fd : FuncData} {N ps : List Str} {k : Nat}
/-- a def that raises, where R tells what -/
theorem fd_exc (F : FunD K x qual params body scope [] [] f fd) (Sc : FnScope N ps scope) (R : List PyData → Str → Option (Str × PyData) → Prop) (hlen : ∀ ds x fo, R ds x fo → ds.length = ps.length)
    (h : ∀ (cdv : Value) (A : Around) (outer : List Env) (s : Shared) (H : Hp) (E : XK), Room k (A.deeper (envOfC qual scope s.heap.objs.size f cdv)) → ∀ (W : Wd) (ds : List PyData) (x : Str) (fo : Option (Str × PyData)), W.row = none → R ds x fo →
      (∀ σ H1 (Γ : List DV) (μ : Mu), Rep K W Γ μ σ H1 → ∀ cls d H', XO K W.M H1 H' x fo cls d → E cls d H') →
      Run (cxOf (L2.CX P w) P w K mg base N qual scope f cdv A outer s H E) W (ds.map .d ++ List.replicate (N.length - ps.length) .no) [] body { nx := fun _ _ => False, rt := fun _ _ => False, bk := fun _ _ => False, ct := fun _ _ => False }) :
    FnOk P w K mg base (L2.CX P w) (k + 1) f fd ps (spX K R) := by
  refine F.ok Sc (fun vs H Q E ⟨L, ds, x, fo, _, hv, r, _⟩ => by rw [hv.length]; exact hlen ds x fo r) fun cdv A outer s H vs Q E hr ⟨L, ds, x, fo, hL, hv, r, q⟩ => ?_
  refine ⟨_, wSs.ps, ?_⟩
  let W : Wd := ⟨H, L, none⟩
  have ok : WdOk K W := ⟨hL, fun _ _ _ e => nomatch e⟩
  have nr : ∀ a, ¬ W.isRow a := fun a ⟨_, _, e⟩ => nomatch e
  have sl : Slots K (off (hd W []) H) (start N vs) (ds.map .d ++ List.replicate (N.length - ps.length) .no) := by
    show Slots K (off (L ++ []) H) (vs.map some ++ List.replicate (N.length - vs.length) none) _
    rw [List.append_nil, hv.length, hlen ds x fo r]
    exact slots_start _ hv
  intro pins st I
  have z := h cdv A outer s H E hr W ds x fo rfl r (fun σ H1 Γ μ R1 cls d H' hx => ?_) (start N vs) H ⟨ok, ⟨fun _ _ _ e => e, fun _ _ _ e => nomatch e⟩, sl, fun _ z => (nomatch z), List.nodup_nil⟩ pins st I
  · refine wpAny_mono z (fun fl s' hq => ?_) fun _ _ z => z
    cases fl with
    | next =>
      obtain ⟨_, _, _, q'⟩ := hq
      exact q'.elim
    | brk =>
      obtain ⟨_, _, _, q'⟩ := hq
      exact q'.elim
    | cont =>
      obtain ⟨_, _, _, q'⟩ := hq
      exact q'.elim
    | ret u =>
      obtain ⟨_, _, _, _, _, q'⟩ := hq
      exact q'.elim
  · have sm : Same H H1 := fun a o e => R1.fr.keep a o (nr a) e
    obtain ⟨h1, h2, h3⟩ := hx
    refine q cls d H' ⟨h1, same_trans sm h2, ?_⟩
    cases fo with
    | none => trivial
    | some fy =>
      obtain ⟨f, y⟩ := fy
      obtain ⟨dd, v, e1, e2, e3, e4⟩ := h3
      refine ⟨dd, v, e1, ?_, e3, e4⟩
      cases e : H dd with
      | none => rfl
      | some o =>
        rw [sm dd o e] at e2
        cases e2
end
end HW
set_option maxHeartbeats 4000000
namespace HW
open PySem PySem.Spec PyProof.Rows L2
open SX (S)
/-! ### calls that raise, try -/
theorem XO.down {K : PySem.W.Frag} {L L' : List Addr} {H0 H' : Hp} {x : Str} {fo : Option (Str × PyData)} {cls : Value} {d : Option Addr} (h : XO K L H0 H' x fo cls d) (hl : ∀ a ∈ L', a ∈ L) : XO K L' H0 H' x fo cls d := by
  obtain ⟨h1, h2, h3⟩ := h
  refine ⟨h1, h2, ?_⟩
  cases fo with
  | none => trivial
  | some fy =>
    obtain ⟨f, y⟩ := fy
    obtain ⟨dd, v, e1, e2, e3, e4⟩ := h3
    exact ⟨dd, v, e1, e2, e3, e4.up (same_offs hl)⟩
theorem slots_no {K : PySem.W.Frag} {H : Hp} {σ : L2.St} {Γ : List DV} (h : Slots K H σ Γ) (i : Nat) : Slots K H (σ.set i none) (Γ.set i .no) := ⟨by rw [List.length_set, List.length_set, h.len], fun j dv q => by
  by_cases e : i = j
  · subst e
    have hl : i < Γ.length := by
      have := (List.getElem?_eq_some_iff.mp q).1
      simpa using this
    rw [List.getElem?_set_self hl] at q
    cases q
    exact ⟨none, by rw [List.getElem?_set_self (by rw [h.len]; exact hl)], trivial⟩
  · rw [List.getElem?_set_ne e] at q ⊢
    exact h.at_ j dv q⟩
/-- evaluating e raises -/
def EdX (X : Cx) (W : Wd) (Γ : List DV) (μ : Mu) (e : Expr) : Prop := ∀ σ H, Rep X.K W Γ μ σ H → ∀ Q : VK, wE X e σ H Q
abbrev DF : Ends := { nx := fun _ _ => False, rt := fun _ _ => False, bk := fun _ _ => False, ct := fun _ _ => False }
section
variable {X : Cx} {W : Wd} {Γ : List DV} {μ : Mu} {e : Expr} {es : List Expr} {rest : List Stmt} {D : Ends} {ds : List PyData} {x f : Str} {fo : Option (Str × PyData)} {ps : List Str} {k : Nat} {p pos : Pos} {W0 : WX} {R : List PyData → Str → Option (Str × PyData) → Prop}
/-- a call that raises -/
theorem ed_callX (F : FdX X.prog X.w X.K X.mg X.base k f ps R) (hr : Room k X.A) (tk : Takes X W0) (ha : EdA X W Γ μ (e :: es) ds) (hR : R ds x fo) (h : ∀ σ H, Rep X.K W Γ μ σ H → ∀ cls d H', XO X.K (hd W μ) H H' x fo cls d → W0 cls d σ H') (hg : Gl X f := by rfl)
    (hdb : (f == ("__debug__" : Str)) = false := by decide) (he : starEach (e :: es) X.env = (false, eval e X.env) :: starEach es X.env := by rfl) (hpl : (backTo pos (starEach es X.env)).any (·.1) = false := by rfl) : EdX X W Γ μ (.Call (.Name f p) (e :: es) [] pos) := fun σ H Rp Q => by
  obtain ⟨fa, fd, h1, h2, h3, h4⟩ := F.ex
  refine (pe_callS (E := WE W0) h1 hr hg h2 h3 h4 (fun σ => passAt tk σ) wA.pa hdb he hpl).w (ha σ H Rp _ fun vs H2 R2 e2 r2 => ?_)
  exact ⟨HW.hd W μ, ds, x, fo, R2.ne, r2, hR, fun cls d H' hx => h σ H2 R2 cls d H' hx⟩
theorem run_exprX (he : EdX X W Γ μ e) (hs : swapsWith e none pos.line X.env = pure false := by rfl) : Run X W Γ μ (.Expr e pos :: rest) D := fun σ H R =>
  wSs_cons ((ps_expr wE.pe hs).w (he σ H R _))
end
/-! ### try: .. except x as n: m = e -/
section
variable {X : Cx} {W : Wd} {Γ : List DV} {μ : Mu} {rest body : List Stmt} {D : Ends} {x xr n nm : Str} {fo : Option (Str × PyData)} {np pos pos' q1 q2 : Pos} {e0 : Expr} {y0 : PyData} {W0 : WX}
/-- what is known of the exception in its suite -/
structure Caught (X : Cx) (W W1 : Wd) (Γ : List DV) (μ : Mu) (xr : Str) (fo : Option (Str × PyData)) (a : Addr) (oe : Obj) (cls : Value) (d : Option Addr) : Prop where
  le : Wle W W1
  z : Zc cls d oe
  fields : ∃ vs, oe.data = .fields vs
  cls : cls = .ref (He.ga X.K xr)
  fld : match fo with
    | none => True
    | some (f, y) => ∃ dd v, d = some dd ∧ (∀ σ H (Γ' : List DV) (μ' : Mu), Rep X.K W1 Γ' μ' σ H → H dd = some (.xd [(f, v)]) ∧ Va X.K (off (hd W1 μ') H) v y)
/-- n.f, the field of the caught exception -/
theorem ed_xf {W1 : Wd} {Γ' : List DV} {a : Addr} {oe : Obj} {pn : List (Addr × Obj)} {cls : Value} {d : Option Addr} {f : Str} {y : PyData} (i : Nat) (F : ExF X.K X.mg xr) (hno : PySem.W.findIn X.K (.ref (He.ga X.K xr)) f = some none) (c : Caught X W W1 Γ μ xr (some (f, y)) a oe cls d)
    (hi : Γ'[i]? = some (.r a) := by rfl) (hN : X.N[i]? = some n := by rfl) (hv : Vis X.env.scope n := by first | exact Or.inl rfl | exact Or.inr (Or.inl rfl) | exact Or.inr (Or.inr rfl)) (h1 : (n == ("__debug__" : Str)) = false := by decide) (h2 : (n == ("__classdict__" : Str)) = false := by decide)
    (hb : attributeBase (.Name n q1) f X.env (eval (.Name n q1) X.env) = eval (.Name n q1) X.env := by rfl) : Ed (X.suite a ((a, oe) :: pn)) W1 Γ' μ (.Attribute (.Name n q1) f pos) y := fun σ H R Q k => by
  refine (pe_xf F.xf hno c.z c.fields (pe_var (X := X.suite a ((a, oe) :: pn)) (i := i) hN hv h1 h2) hb).w ?_
  obtain ⟨o, g1, g2⟩ := R.sl.at_ i _ hi
  have g2' : o = some (.ref a) := g2
  subst g2'
  obtain ⟨dd, v, e1, e2⟩ := c.fld
  obtain ⟨e3, e4⟩ := e2 σ H Γ' μ R
  exact ⟨_, g1, rfl, c.cls, dd, _, v, e1, e3, by simp, k v H R XT.refl e4⟩
end
end HW
set_option maxHeartbeats 4000000
namespace HW
open PySem PySem.Spec PyProof.Rows L2
open SX (S)
/-! ### what is refused -/
end HW
set_option maxHeartbeats 4000000
namespace HW
open PySem PySem.Spec PyProof.Rows L2
open SX (S)
/-! ### the least masks -/
end HW
set_option maxHeartbeats 4000000
namespace HW
open PySem PySem.Spec PyProof.Rows L2
open SX (S)
/-! ### rows counted -/
end HW
set_option maxHeartbeats 4000000
namespace HW
open PySem PySem.Spec PyProof.Rows L2
open SX (S)
/-! ### raise X() -/
section
variable {X : Cx}
end
section
variable {X : Cx} {W : Wd} {Γ : List DV} {μ : Mu} {rest : List Stmt} {D : Ends} {x : Str} {k : Nat} {p pos pos2 : Pos} {W0 : WX}
end
end HW
set_option maxHeartbeats 4000000
namespace HW
open PySem PySem.Spec PyProof.Rows L2
open SX (S)
/-! ### try with several clauses without `as` -/
/-- the clauses name classes of the program -/
inductive AllCl (X : Cx) : List ExceptHandler → Prop
  | nil : AllCl X []
  | cons {x : Str} {b0 : Stmt} {st : List Stmt} {np pos' : Pos} {hds : List ExceptHandler} (F : Names X x (.ref (He.ga X.K x))) (r : AllCl X hds) : AllCl X (.ExceptHandler (some (.Name x np)) none (b0 :: st) pos' :: hds)
/-- of the clauses, st is the suite that xr comes to -/
inductive Chosen (X : Cx) (xr : Str) : List ExceptHandler → List Stmt → Prop
  | here {x : Str} {b0 : Stmt} {st : List Stmt} {np pos' : Pos} {hds : List ExceptHandler} (F : Names X x (.ref (He.ga X.K x))) (hm : PySem.W.exmOne X.K (.ref (He.ga X.K xr)) (.ref (He.ga X.K x)) = some true) (r : AllCl X hds) :
      Chosen X xr (.ExceptHandler (some (.Name x np)) none (b0 :: st) pos' :: hds) (b0 :: st)
  | there {x : Str} {b0 : Stmt} {st st2 : List Stmt} {np pos' : Pos} {hds : List ExceptHandler} (F : Names X x (.ref (He.ga X.K x))) (hm : PySem.W.exmOne X.K (.ref (He.ga X.K xr)) (.ref (He.ga X.K x)) = some false) (r : Chosen X xr hds st2) :
      Chosen X xr (.ExceptHandler (some (.Name x np)) none (b0 :: st) pos' :: hds) st2
theorem AllCl.app {X : Cx} {hds : List ExceptHandler} (h : AllCl X hds) : ∃ l, HdsOk X hds l := by
  induction h with
  | nil => exact ⟨_, .nil⟩
  | @cons x b0 st np pos' hds F r ih =>
    obtain ⟨l, hl⟩ := ih
    exact ⟨_, .cons (ts := fun a cls d D σ H => ∀ (oe : Obj) (pn : List (Addr × Obj)), Zc cls d oe → (∃ vs, oe.data = .fields vs) → wSs (X.suite a ((a, oe) :: pn)) (b0 :: st) D σ H) F (fun a oe cls d pn hz hv => ⟨fun pins s σ H D I h => h oe pn hz hv pins s I⟩) hl⟩
theorem Chosen.app {X : Cx} {xr : Str} {hds : List ExceptHandler} {st : List Stmt} (h : Chosen X xr hds st) : ∃ l, HdsOk X hds l ∧ ∀ (Wout : WX) (D : Ends) (σ : L2.St) (H : Hp) (d : Option Addr),
    (∀ a, H a = none → ∀ (oe : Obj) (pn : List (Addr × Obj)), Zc (.ref (He.ga X.K xr)) d oe → (∃ vs, oe.data = .fields vs) → wSs (X.suite a ((a, oe) :: pn)) st D σ H) → wMany X.K Wout D l (.ref (He.ga X.K xr)) d σ H := by
  induction h with
  | @here x b0 st np pos' hds F hm r =>
    obtain ⟨l, hl⟩ := r.app
    exact ⟨_, .cons (ts := fun a cls d D σ H => ∀ (oe : Obj) (pn : List (Addr × Obj)), Zc cls d oe → (∃ vs, oe.data = .fields vs) → wSs (X.suite a ((a, oe) :: pn)) (b0 :: st) D σ H) F (fun a oe cls d pn hz hv => ⟨fun pins s σ H D I h => h oe pn hz hv pins s I⟩) hl,
      fun Wout D σ H d q => ⟨true, hm, fun _ a na oe pn hz hv => q a na oe pn hz hv, fun z => nomatch z⟩⟩
  | @there x b0 st st2 np pos' hds F hm r ih =>
    obtain ⟨l, hl, hq⟩ := ih
    exact ⟨_, .cons (ts := fun a cls d D σ H => ∀ (oe : Obj) (pn : List (Addr × Obj)), Zc cls d oe → (∃ vs, oe.data = .fields vs) → wSs (X.suite a ((a, oe) :: pn)) (b0 :: st) D σ H) F (fun a oe cls d pn hz hv => ⟨fun pins s σ H D I h => h oe pn hz hv pins s I⟩) hl,
      fun Wout D σ H d q => ⟨false, hm, (fun z => nomatch z), fun _ => hq Wout D σ H d q⟩⟩
section
variable {X : Cx} {W : Wd} {Γ : List DV} {μ : Mu} {rest body : List Stmt} {D : Ends} {xr nm : Str} {fo : Option (Str × PyData)} {h0 : ExceptHandler} {hds : List ExceptHandler} {pos q1 q2 : Pos} {e0 : Expr} {y0 : PyData} {W0 : WX}
end
end HW
set_option maxHeartbeats 4000000
namespace HW
open PySem PySem.Spec PyProof.Rows L2
open SX (S)
/-! ### texts that are no masks, no rows, no views -/
def R_is_mask_t (ds : List PyData) (d : PyData) : Prop := ∃ m : List Nat, ds = [sD m] ∧ m.length ≤ 4000 ∧ d = .bool (maskB m)
def R_is_row_t (ds : List PyData) (d : PyData) : Prop := ∃ l : List Nat, ds = [sD l] ∧ l.length ≤ 4000 ∧ d = .bool (rowB l)
end HW
set_option maxHeartbeats 4000000
namespace HW
open PySem PySem.Spec PyProof.Rows L2
open SX (S)
/-! ### text.split(text) -/
section
variable {X : Cx} {W : Wd} {Γ : List DV} {μ : Mu} {o e : Expr} {a b : Str} {apos pos : Pos}
theorem vaStrs {K : PySem.W.Frag} {H : Hp} : ∀ ys : List Str, VaAll K H (ys.map V.str) (ys.map PyData.str)
  | [] => .nil
  | y :: ys => .cons (.str y) (vaStrs ys)
theorem ed_split (ho : Ed X W Γ μ o (.str a)) (he : Ed X W Γ μ e (.str b)) (hb : (b.length == 0) = false) (ha : a.length + 2 ≤ sizeLine) (hs : starEach [e] X.env = [(false, eval e X.env)] := by rfl) (hbase : attributeBase o "split" X.env (eval o X.env) = eval o X.env := by rfl) (hline : (apos.endLine == pos.line) = true := by rfl) :
    Ed X W Γ μ (.Call (.Attribute o "split" apos) [e] [] pos) (.list ((Txt.split a b).map PyData.str)) := fun σ H R Q q => by
  refine (pe_m1 PySem.F.slot_str_split PySem.F.type_str_split mt_split wE.pe wE.pe hs hbase hline).w (ho σ H R _ fun v H2 R2 e2 r2 => ?_)
  cases r2
  refine ⟨⟨_, rfl⟩, he σ H2 R2 _ fun v H3 R3 e3 r3 => ?_⟩
  cases r3
  refine ⟨_, _, rfl, rfl, hb, ha, fun p hp => ?_⟩
  have s := same_new (o := .lst ((Txt.split a b).map V.str)) hp
  exact q _ _ (R3.same s) ((e2.trans e3).trans (XT.same s)) (.lst (off_upd (new_out R3.ne hp)) (vaStrs _))
end
end HW
set_option maxHeartbeats 4000000
namespace HW
open PySem PySem.Spec PyProof.Rows L2
open SX (S)
/-! ### law 27: ten wrong calls -/
end HW
set_option maxHeartbeats 4000000
namespace HW
open PySem PySem.Spec PyProof.Rows L2
open SX (S)
/-! ### try: of all clauses, with `as` and without, the one that takes the exception -/
/-- of the clauses, the one that an exception of the class cr comes to: the slot of its name, its suite -/
inductive Pick (X : Cx) (cr : Value) : List ExceptHandler → Option Nat → Stmt → List Stmt → Prop
  | bare {x : Str} {c : Value} {b0 : Stmt} {st : List Stmt} {np hp : Pos} {hds : List ExceptHandler} (F : Names X x c) (hm : PySem.W.exmOne X.K cr c = some true) : Pick X cr (.ExceptHandler (some (.Name x np)) none (b0 :: st) hp :: hds) none b0 st
  | named {x n : Str} {c : Value} {i : Nat} {b0 : Stmt} {st : List Stmt} {np hp : Pos} {hds : List ExceptHandler} (F : Names X x c) (hm : PySem.W.exmOne X.K cr c = some true) (hi : X.N[i]? = some n) (hl : X.env.kindOf n = some .local) :
      Pick X cr (.ExceptHandler (some (.Name x np)) (some n) (b0 :: st) hp :: hds) (some i) b0 st
  | skip {x : Str} {c : Value} {nm : Option Str} {b0 : Stmt} {st s2 : List Stmt} {np hp : Pos} {hds : List ExceptHandler} {o : Option Nat} (F : Names X x c) (hm : PySem.W.exmOne X.K cr c = some false) (r : Pick X cr hds o b0 st) :
      Pick X cr (.ExceptHandler (some (.Name x np)) nm s2 hp :: hds) o b0 st
def slotE (o : Option Nat) (v : Option V) (σ : L2.St) : L2.St := match o with
  | none => σ
  | some i => σ.set i v
def endsE (o : Option Nat) (D : Ends) : Ends := ⟨fun σ H => D.nx (slotE o none σ) H, D.rt, fun σ H => D.bk (slotE o none σ) H, fun σ H => D.ct (slotE o none σ) H⟩
def seekX (X : Cx) (pins : List (Addr × Obj)) (D : Ends) (hl : List ExceptHandler) : Value → Shared → Prop := fun e s1 => wpAny (model X.prog X.w) X.A (noteFrame e X.env) (fun _ s2 => wpAny (model X.prog X.w) X.A (setFlight e none)
  (fun _ s3 => wpAny (model X.prog X.w) X.A (handleBy e X.env hl) (SP X pins D) X.xe s3) X.xe s2) X.xe s1
section
variable {X : Cx} {body : List Stmt} {h0 : ExceptHandler} {hds : List ExceptHandler} {pos : Pos} {tb : WX → TS} {cr : Value} {o : Option Nat} {b0 : Stmt} {st : List Stmt} {ts : Addr → Option Addr → TS}
theorem ps_try_pick (hs : X.stack = X.env :: X.outer) (hf : X.env.frame = some X.env.locals) (nd : X.N.Nodup) (pk : Pick X cr (h0 :: hds) o b0 st)
    (hb : ∀ (W : WX) (pn : List (Addr × Obj)) (xe : Value → Shared → Prop), Takes (X.tr pn xe) W → PassesOwn (model X.prog X.w) X.A X.env xe → PSs (X.tr pn xe) body (tb W))
    (hsu : ∀ (a : Addr) (oe : Obj) (d : Option Addr) (pn : List (Addr × Obj)), Zc cr d oe → (∃ vs, oe.data = .fields vs) → PSs (X.suite a ((a, oe) :: pn)) (b0 :: st) (ts a d)) :
    PS X (.Try body (h0 :: hds) [] [] pos) (fun D σ H => tb (fun cls d σ H => cls = cr ∧ ∀ a, H a = none → ts a d (endsE o D) (slotE o (some (.ref a)) σ) H) D σ H) := by
  constructor
  intro pins s σ H D I h
  have k0 := I.ok
  have kf : X.A.frames = some (X.env :: X.outer) := k0.frames.trans (congrArg some hs)
  refine wpAny_Try_except (wpAny_mono ((hb _ (X.pn ++ pins) (seekX X pins D (h0 :: hds)) (fun u s1 z => ?_) PassesOwn.looking).run [] s σ H D (I.toTry _) h) (fun f s1 z => ?_) fun _ _ z => z)
  · obtain ⟨xa, fB, s0, pins0, σ1, H1, cls, d, rfl, J0, nb, up, sky, na, os, ag, ec, w⟩ := z
    subst ec
    have J : Inv X pins σ1 H1 s0 := J0.ofTry k0
    have sk : Sky fB (X.env :: X.outer) xa (Zc cls d) X.env.locals s1.heap := hs ▸ sky
    show wpAny (model X.prog X.w) X.A (noteFrame (.ref xa) X.env) _ _ _
    refine Sky.land Zc.steady kf hf sk fun g fl ug => ?_
    have Jg : Inv X pins σ1 H1 { s1 with heap := g } := J.landed nb fl.1 (up.trans ug) os ag
    obtain ⟨ox, vx, gx, zx, dx⟩ := fl.there
    have offF : xa ∉ frs (X.env :: X.outer) := fun hm => by
      obtain ⟨_, o2, e2, nf⟩ := fl.2.2.1.mem hm
      rw [gx] at e2
      cases e2
      exact nf _ dx
    have offL : xa ≠ X.env.locals := fun z => offF (List.mem_filterMap.mpr ⟨_, List.mem_cons_self, hf.trans (congrArg some z.symm)⟩)
    have offS : xa ∉ X.fs := fun hm => by
      obtain ⟨e2, h2, q2⟩ := List.mem_filterMap.mp hm
      exact offF (List.mem_filterMap.mpr ⟨e2, List.mem_cons_of_mem _ h2, q2⟩)
    have Sg := Jg.suite gx dx na offL offS
    have nameOk : ∀ {x : Str} {c : Value} {np : Pos} {Q E : Value → Shared → Prop}, Names X x c → Q c { s1 with heap := g } → wpAny (model X.prog X.w) (X.A.mark (some (.ref xa))) (eval (.Name x np) X.env) Q E { s1 with heap := g } := fun {x c np Q E} F q => by
      rcases F with ⟨f1, f2, f3 | ⟨f3, f4, f5⟩⟩
      · exact ld_glob (X := X.suite xa ((xa, ox) :: (X.pn ++ pins))) Sg f1 f3 q f2
      · exact ld_blt (X := X.suite xa ((xa, ox) :: (X.pn ++ pins))) Sg f1 f3 f4 q f5 f2
    have LT : PySem.W.Looks (model X.prog X.w) g (typeOf (.ref xa)) cls := fun A Q E s k q => wpAny_typeOf_ref (k _ _ gx) (zx.1 ▸ q)
    clear h
    revert pk
    generalize h0 :: hds = hl
    intro pk
    induction pk with
    | @skip x c nm b0 st s2 np hp hds o F hm r ih =>
      refine wpAny_handleBy_cons (codeAny_handlers_test (nameOk F ((PySem.W.exm_one (M := model X.prog X.w) Jg.kIn LT hm).here ?_))) (nomatch ·)
      exact ih w hsu
    | @bare x c b0 st np hp hds F hm =>
      refine wpAny_handleBy_cons (codeAny_handlers_test (nameOk F ((PySem.W.exm_one (M := model X.prog X.w) Jg.kIn LT hm).here ?_))) (nomatch ·)
      refine codeAny_handlers_suite (HandSPX.lands_againZ fl fun g2 fl2 ug2 => ?_)
      have J2 : Inv X pins σ1 H1 { s1 with heap := g2 } := J.landed nb fl2.1 ((up.trans ug).trans ug2) os ag
      obtain ⟨ox2, vx2, gx2, zx2, dx2⟩ := fl2.there
      refine wpAny_mono ((hsu xa ox2 d (X.pn ++ pins) zx2 ⟨_, dx2⟩).run [] _ _ H1 _ (J2.suite gx2 dx2 na offL offS) (w xa na)) (fun f s6 z => ?_) fun _ _ z => z.elim
      cases f with
      | next => obtain ⟨σ6, H6, S6, q6⟩ := z; exact ⟨σ6, H6, S6.unsuite k0, q6⟩
      | brk => obtain ⟨σ6, H6, S6, q6⟩ := z; exact ⟨σ6, H6, S6.unsuite k0, q6⟩
      | cont => obtain ⟨σ6, H6, S6, q6⟩ := z; exact ⟨σ6, H6, S6.unsuite k0, q6⟩
      | ret u => obtain ⟨v6, σ6, H6, S6, r6, q6⟩ := z; exact ⟨v6, σ6, H6, S6.unsuite k0, r6, q6⟩
    | @named x n c i b0 st np hp hds F hm hi hln =>
      refine wpAny_handleBy_cons (codeAny_handlers_test (nameOk F ((PySem.W.exm_one (M := model X.prog X.w) Jg.kIn LT hm).here ?_))) (nomatch ·)
      refine codeAny_handlers_suite_as (HandSPX.lands_againZ fl fun g2 fl2 ug2 => ?_)
      have J2 : Inv X pins σ1 H1 { s1 with heap := g2 } := J.landed nb fl2.1 ((up.trans ug).trans ug2) os ag
      obtain ⟨ox2, vx2, gx2, zx2, dx2⟩ := fl2.there
      refine store_ok (X := X.suite xa ((xa, ox2) :: (X.pn ++ pins))) (v := .ref xa) (J2.suite gx2 dx2 na offL offS) nd hi (.inl hln) rfl (fun s5 S5 => ?_) (.inr hln)
      refine wpAny_mono ((hsu xa ox2 d (X.pn ++ pins) zx2 ⟨_, dx2⟩).run [] s5 _ H1 _ S5 (w xa na)) (fun f s6 z => ?_) fun _ _ z => z.elim
      cases f with
      | next => obtain ⟨σ6, H6, S6, q6⟩ := z; exact gone_ok (S6.unsuite k0) nd hi hln fun s7 J7 => ⟨_, H6, J7, q6⟩
      | brk => obtain ⟨σ6, H6, S6, q6⟩ := z; exact gone_ok (S6.unsuite k0) nd hi hln fun s7 J7 => ⟨_, H6, J7, q6⟩
      | cont => obtain ⟨σ6, H6, S6, q6⟩ := z; exact gone_ok (S6.unsuite k0) nd hi hln fun s7 J7 => ⟨_, H6, J7, q6⟩
      | ret u => obtain ⟨v6, σ6, H6, S6, r6, q6⟩ := z; exact gone_ok (S6.unsuite k0) nd hi hln fun s7 J7 => ⟨v6, _, H6, J7, r6, q6⟩
  · cases f with
    | next => obtain ⟨σ1, H1, J, q⟩ := z; exact wpAny_execs_nil ⟨σ1, H1, J.ofTry k0, q⟩
    | brk => obtain ⟨σ1, H1, J, q⟩ := z; exact ⟨σ1, H1, J.ofTry k0, q⟩
    | cont => obtain ⟨σ1, H1, J, q⟩ := z; exact ⟨σ1, H1, J.ofTry k0, q⟩
    | ret u => obtain ⟨v, σ1, H1, J, r, q⟩ := z; exact ⟨v, σ1, H1, J.ofTry k0, r, q⟩
end
/-! ### .. over a state of data -/
def setO (o : Option Nat) (a : Addr) (Γ : List DV) : List DV := match o with
  | none => Γ
  | some i => Γ.set i (.r a)
def clrO (o : Option Nat) (Γ : List DV) : List DV := match o with
  | none => Γ
  | some i => Γ.set i .no
section
variable {X : Cx} {W : Wd} {Γ : List DV} {μ : Mu} {rest body : List Stmt} {D : Ends} {xr nm : Str} {fo : Option (Str × PyData)} {h0 : ExceptHandler} {hds : List ExceptHandler} {pos q1 q2 : Pos} {e0 : Expr} {y0 : PyData} {o : Option Nat}
theorem caught_now {a : Addr} {oe : Obj} {cls : Value} {d : Option Addr} {σ2 : L2.St} {H2 H' : Hp} (R2 : Rep X.K W Γ μ σ2 H2) (xo : XO X.K (hd W μ) H2 H' xr fo cls d) (hz : Zc cls d oe) (hv : ∃ vs, oe.data = .fields vs) : Caught X W (W.now μ H') Γ μ xr fo a oe cls d := by
  have R3 : Rep X.K W Γ μ σ2 H' := R2.same xo.2.1
  refine ⟨R3.now_le, hz, hv, xo.1, ?_⟩
  obtain ⟨_, _, h3⟩ := xo
  cases fo with
  | none => trivial
  | some fy =>
    obtain ⟨f, y⟩ := fy
    obtain ⟨dd, v, e1, e2, e3, e4⟩ := h3
    refine ⟨dd, v, e1, fun σ3 H3 Γ3 μ3 R6 => ?_⟩
    have pool : Same (off (hd W μ) H') (off (hd (W.now μ H') μ3) H3) := fun b o e => by
      obtain ⟨h1, h2⟩ := off_some e
      have z : (W.now μ H').H0 b = some o := by
        show off (μ.map (·.1)) H' b = some o
        rw [off_out (fun z => h1 (List.mem_append_right _ z))]
        exact h2
      rw [off_out (fun q => by
        rcases List.mem_append.mp q with q | q
        · exact h1 (List.mem_append_left _ q)
        · obtain ⟨p, hp, rfl⟩ := List.mem_map.mp q
          rw [(R6.mu p hp).1] at z
          cases z)]
      exact R6.fr.keep b o (fun q => h1 (List.mem_append_left _ (Rep.isRow_M R3.wd q))) z
    have hdd : dd ∉ hd W μ := fun q => R2.ne dd q e2
    refine ⟨(off_some (pool dd _ (by rw [off_out hdd]; exact e3))).2, e4.up pool⟩
/-- try: body (which raises xr); the clause that takes it says nm = e0 -/
theorem run_tryP (j : Nat) (pk : Pick X (.ref (He.ga X.K xr)) (h0 :: hds) o (.Assign [.Name nm q1] e0 q2) []) (ho : o ≠ some j)
    (hbody : ∀ (pn : List (Addr × Obj)) (xe : Value → Shared → Prop) (Wx : WX), Takes (X.tr pn xe) Wx → PassesOwn (model X.prog X.w) X.A X.env xe → (∀ σ H, Rep X.K W Γ μ σ H → ∀ cls d H', XO X.K (hd W μ) H H' xr fo cls d → Wx cls d σ H') → Run (X.tr pn xe) W Γ μ body DF)
    (he0 : ∀ (W1 : Wd) (a : Addr) (oe : Obj) (pn : List (Addr × Obj)) (cls : Value) (d : Option Addr), Caught X W W1 Γ μ xr fo a oe cls d → Ed (X.suite a ((a, oe) :: pn)) W1 (setO o a Γ) μ e0 y0)
    (h : Run X W ((clrO o Γ).set j (.d y0)) μ rest D) (nd : X.N.Nodup) (hj : X.N[j]? = some nm := by rfl) (hx : Loc X.env.scope nm := by first | exact Or.inl rfl | exact Or.inr rfl)
    (hsw : swapsWith e0 (some (.Name nm q1)) q2.line X.env = pure false := by rfl) (hfn : X.fn nm = true ∨ X.env.scope.names.lookup nm = some .local := by first | exact .inr rfl | exact .inl rfl)
    (hs : X.stack = X.env :: X.outer := by rfl) (hf : X.env.frame = some X.env.locals := by rfl) :
    Run X W Γ μ (.Try body (h0 :: hds) [] [] pos :: rest) D := fun σ H R => by
  refine wSs_cons ((ps_try_pick (tb := fun Wx D σ H => ∀ (pn : List (Addr × Obj)) (xe : Value → Shared → Prop), Takes (X.tr pn xe) Wx → PassesOwn (model X.prog X.w) X.A X.env xe → wSs (X.tr pn xe) body D σ H)
    (ts := fun a d D σ H => ∀ (oe : Obj) (pn : List (Addr × Obj)), Zc (.ref (He.ga X.K xr)) d oe → (∃ vs, oe.data = .fields vs) → wSs (X.suite a ((a, oe) :: pn)) [.Assign [.Name nm q1] e0 q2] D σ H)
    hs hf nd pk (fun Wx pn xe t hp => ⟨fun pins s σ H D I h => h pn xe t hp pins s I⟩) (fun a oe d pn hz hv => ⟨fun pins s σ H D I h => h oe pn hz hv pins s I⟩)).w ?_)
  intro pn xe t hp
  refine Run.mono (hbody pn xe _ t hp fun σ2 H2 R2 cls d H' xo => ⟨xo.1, fun a na oe pn2 hz hv => ?_⟩) (fun _ _ z => z.elim) (fun _ _ z => z.elim) (fun _ _ z => z.elim) (fun _ _ z => z.elim) σ H R
  obtain rfl : cls = .ref (He.ga X.K xr) := xo.1
  have R3 : Rep X.K W Γ μ σ2 H' := R2.same xo.2.1
  have R4 := R3.now
  have R5 : Rep X.K (W.now μ H') (setO o a Γ) μ (slotE o (some (.ref a)) σ2) H' := by
    cases o with
    | none => exact R4
    | some i => exact ⟨R4.wd, R4.fr, R4.sl.setr i, R4.mu, R4.nd⟩
  have cg := caught_now (a := a) R2 xo hz hv
  refine run_set (X := X.suite a ((a, oe) :: pn2)) j (he0 _ a oe pn2 _ d cg) (run_nil fun σ3 H3 R6 => ?_) nd hj hx hsw hfn _ _ R5
  have R7 : Rep X.K W ((setO o a Γ).set j (.d y0)) μ σ3 H3 := R6.wdown R3.now_le R3.wd
  refine h _ _ ?_
  cases o with
  | none => exact R7
  | some i =>
    have hij : i ≠ j := fun e => ho (congrArg some e)
    have z := slots_no R7.sl i
    have e : ((Γ.set i (.r a)).set j (.d y0)).set i .no = (Γ.set i .no).set j (.d y0) := by
      rw [List.set_comm _ _ (Ne.symm hij), List.set_set]
    have z' : Slots X.K (off (hd W μ) H3) (σ3.set i none) ((Γ.set i .no).set j (.d y0)) := e ▸ z
    exact ⟨R7.wd, R7.fr, z', R7.mu, R7.nd⟩
/-- a try whose body raises nothing -/
theorem run_tryN (hbody : Run X.nox W Γ μ body { D with nx := wSs X rest D }) : Run X W Γ μ (.Try body (h0 :: hds) [] [] pos :: rest) D := fun σ H R =>
  wSs_cons ((ps_try_thru0 (t := fun D σ H => wSs X.nox body D σ H) wSs.ps).w (hbody σ H R))
end
/-! ### f(..), f any expression that gives a def -/
section
variable {X : Cx} {W : Wd} {Γ : List DV} {μ : Mu} {fe e : Expr} {es : List Expr} {ds : List PyData} {d : PyData} {x : Str} {ps : List Str} {k : Nat} {f : Addr} {fd : FuncData} {pos : Pos} {CX : CXT} {sp : Sp} {E : L2.St → XK} {t : TA} {tf : TE}
end
section
variable {X : Cx} {W : Wd} {Γ : List DV} {μ : Mu} {fe e : Expr} {es : List Expr} {ds : List PyData} {d : PyData} {x y : Str} {fo : Option (Str × PyData)} {ps : List Str} {k : Nat} {f : Addr} {pos : Pos} {W0 : WX}
theorem FdX.at {P : Program} {w : World} {K : PySem.W.Frag} {mg : Str → Option Value} {base : Heap} {R : List PyData → Str → Option (Str × PyData) → Prop} (F : FdX P w K mg base k x ps R) : ∃ f, mg x = some (.ref f) := by
  obtain ⟨f, _, _, h, _⟩ := F.ex
  exact ⟨f, h⟩
theorem Fd.at {P : Program} {w : World} {K : PySem.W.Frag} {mg : Str → Option Value} {base : Heap} {sp : Sp} (F : Fd P w K mg base k x ps sp) : ∃ f, mg x = some (.ref f) := by
  obtain ⟨f, _, _, h, _⟩ := F.ex
  exact ⟨f, h⟩
end
end HW
set_option maxHeartbeats 4000000
namespace HW
open PySem PySem.Spec PyProof.Rows L2
open SX (S)
/-! ### values of any kind that are refused -/
section
variable {X : Cx} {W : Wd} {Γ : List DV} {μ : Mu} {e : Expr} {d : PyData} {pos p p2 : Pos}
end
/-! what is raised: x behind the argument -/
end HW
set_option maxHeartbeats 4000000
namespace HW
open PySem PySem.Spec PyProof.Rows L2
open SX (S)
/-! ### what the defs raise, one error after the other (printed by genchain.py) -/
end HW
set_option maxHeartbeats 4000000
namespace HW
open PySem PySem.Spec PyProof.Rows L2
open SX (S)
/-! ### text * number, none too -/
theorem o_mulZ {X : Cx} {l : List Nat} {n : Nat} (h : l.length * n ≤ 16777216) (h2 : n ≤ 1000000000) : OpD X (binaryOp .Mult) (.str (S l)) (nn n) (.str (S (List.replicate n l).flatten)) := by
  rcases Nat.eq_zero_or_pos n with h0 | h1
  · subst h0
    intro pins s σ H x y v u Q I rx ry q
    obtain ⟨L, _, ha, hb, k⟩ := q
    cases ha; cases hb
    obtain ⟨t, rfl⟩ := rx
    obtain ⟨t', rfl⟩ := ry
    exact P.mul_str_none (by decide) (by decide) ⟨.str _, H, I.tok _, ⟨_, rfl⟩, k _ _ (Same.refl _) (.str _)⟩
  · exact o_mulS h h1 h2
theorem rep_one (c q : Nat) : (List.replicate q [c]).flatten = List.replicate q c := by
  induction q with
  | zero => rfl
  | succ q ih => rw [List.replicate_succ, List.flatten_cons, ih]; rfl
/-! ### law 10 -/
end HW
set_option maxHeartbeats 4000000
namespace HW
open PySem PySem.Spec PyProof.Rows L2
open SX (S)
/-! ### how far a row can be made longer -/
/-! ### slices whose bound is drawn -/
def rAnyS (X : Cx) : V → Option Int → Option Int → Hp → VK → Prop := fun v l u H Q => ∃ d z, SlD X d l u z ∧ rDs X.K d l u z v l u H Q
theorem rAnyS.ok {X : Cx} : L2.SlR X (rAnyS X) := fun pins s σ H x v vl vu lo hi sl Q I rx hs pl pu ⟨d, z, h, q⟩ => h pins s σ H x v vl vu lo hi sl Q I rx hs pl pu q
section
variable {X : Cx} {W : Wd} {Γ : List DV} {μ : Mu} {a lo hi : Expr} {p2 pos : Pos} {A C : PyData → Prop} {U L : Int → Prop}
end
end HW
set_option maxHeartbeats 4000000
namespace HW
open PySem PySem.Spec PyProof.Rows L2
open SX (S)
/-! ### tuple * number: none and one, too -/
/-! ### {} as data -/
/-! ### places found -/
/-! ### law 5 -/
/-! ### what is no list, no tuple -/
section
variable {X : Cx} {W : Wd} {Γ : List DV} {μ : Mu} {e : Expr} {d : PyData} {pos p q1 q2 pt : Pos} {kt : Nat}
end
/-! ### law 18 -/
abbrev wMany : PyData := sD [109, 97, 110, 121]
end HW
set_option maxHeartbeats 4000000
namespace HW
open PySem PySem.Spec PyProof.Rows L2
open SX (S)
open PySem.W (dataLt AlikeAll AllAlike Sortable EachIs dataLe alike)
/-! ### sorted(set(..)) over any keys -/
section
variable {prog : Program} {w : World} {A : Around} {E : Value → Shared → Prop} {s : Shared} {K : Type} [DecidableEq K] {knd : KeyKind prog w K}
end
section
variable {X : Cx} {W : Wd} {Γ : List DV} {μ : Mu} {a : Expr} {p p2 q pos : Pos} {ws zs : List Nat}
end
/-! ### masks laid together -/
/-! ### law 2 -/
end HW
set_option maxHeartbeats 4000000
namespace HW
open PySem PySem.Spec PyProof.Rows L2
open SX (S)
open PySem.W (dataLt AlikeAll AllAlike Sortable EachIs dataLe alike)
/-! ### a local dict becomes data: locked -/
section
variable {X : Cx} {W : Wd} {Γ : List DV} {μ : Mu} {sts : List Stmt} {D : Ends} {l : Addr}
end
section
variable {X : Cx} {W : Wd} {Γ : List DV} {μ : Mu} {tg e : Expr} {apos cpos : Pos} {kvs : List (Key × PyData)}
end
/-! ### d.get(k, other) of a local dict -/
section
variable {X : Cx} {W : Wd} {Γ : List DV} {μ : Mu} {e f : Expr} {pos p apos : Pos} {n : Str} {l : Addr} {kvs : List (Key × PyData)} {k : Key} {d : PyData}
end
/-! ### list.index with a start -/
section
variable {X : Cx} {W : Wd} {Γ : List DV} {μ : Mu} {o e f : Expr} {apos pos : Pos} {ws : List (List Nat)} {w : List Nat} {j st : Nat}
end
/-! ### like views -/
section
variable (ws : List (List Nat))
/-! the first like ones -/
end
end HW
set_option maxHeartbeats 4000000
namespace HW
open PySem PySem.Spec PyProof.Rows L2
section
variable {ws : List (List Nat)} {z : List Nat} {i : Nat}
end
end HW
set_option maxHeartbeats 4000000
namespace HW
open PySem PySem.Spec PyProof.Rows L2
open SX (S)
/-! ### what raises within an expression -/
section
variable {X : Cx} {W : Wd} {Γ : List DV} {μ : Mu} {e a b : Expr} {es : List Expr} {rest : List Stmt} {D : Ends} {p pos : Pos}
end
/-! ### n1, n2, n3 = a, b, c -/
section
variable {X : Cx} {W : Wd} {Γ : List DV} {μ : Mu} {a b c : Expr} {rest : List Stmt} {D : Ends} {n1 n2 n3 : Str} {p1 p2 p3 pos : Pos}
end
/-! ### patterns, looks, steps -/
/-! ### the calls of law 33 -/
end HW
set_option maxHeartbeats 4000000
namespace HW
open PySem PySem.Spec PyProof.Rows L2
open SX (S)
/-! ### sets of tuples, whatever kind of key the items are (fewer than 64 of them) -/
section
variable {pr : Program} {wo : World} {κ : Type} [DecidableEq κ] {kd : PySem.KeyKind pr wo κ} {A : Around} {Er : Value → Shared → Prop} {st : Shared}
abbrev hT (kd : PySem.KeyKind pr wo κ) (ks : List κ) : Int := tupleKeyHash kd ks
/-! ### the set -/
def entL (kd : PySem.KeyKind pr wo κ) (L : List (Addr × List κ)) : List (Int × Value) := L.map fun p => (hT kd p.2, Value.ref p.1)
abbrev hsL (kd : PySem.KeyKind pr wo κ) (L : List (Addr × List κ)) : List Int := L.map fun p => hT kd p.2
structure TSet (kd : PySem.KeyKind pr wo κ) (h : Heap) (a : Addr) (L : List (Addr × List κ)) (es : Array (Int × Value)) (ep : Nat) (t : SetTable) : Prop where
  obj : ∃ o, h.get? a = some o ∧ o.ExactSet ∧ o.data = .set es ep t
  ents : es.toList = entL kd L
  tab : TabOk t (hsL kd L)
  uniq : (L.map (·.2)).Nodup
  keys : ∀ p ∈ L, IsTupleKey kd h p.2 p.1
  room : L.length * 5 < t.mask * 3
  few : L.length < 64
variable {a : Addr} {L : List (Addr × List κ)} {es : Array (Int × Value)} {ep : Nat} {t : SetTable}
theorem ent_len {es : Array (Int × Value)} {L : List (Addr × List κ)} (h : es.toList = entL kd L) : es.size = L.length := by
  have z := congrArg List.length h
  rw [Array.length_toList, entL, List.length_map] at z
  exact z
theorem fits_of {es : Array (Int × Value)} {t : SetTable} (h1 : t.place.size = es.size) (h2 : t.dummies = #[]) (h3 : es.size ≤ t.mask) : t.fits es.size = true := by
  rw [SetTable.fits, SetTable.fill, h2, Bool.and_eq_true, beq_iff_eq, decide_eq_true_eq]
  exact ⟨h1, by show t.place.size + 0 ≤ t.mask; omega⟩
theorem TSet.size (R : TSet kd st.heap a L es ep t) : es.size = L.length := ent_len R.ents
theorem TSet.plen (R : TSet kd st.heap a L es ep t) : t.place.size = L.length := by rw [R.tab.sz, List.length_map]
theorem TSet.fits (R : TSet kd st.heap a L es ep t) : t.fits es.size = true := by
  have h1 := R.plen
  have h2 := R.size
  have h3 := R.room
  exact fits_of (by omega) R.tab.dm (by omega)
end
section
variable {pr : Program} {wo : World} {κ : Type} [DecidableEq κ] {kd : PySem.KeyKind pr wo κ} {A : Around} {Er : Value → Shared → Prop} {st : Shared} {a : Addr} {L : List (Addr × List κ)} {es : Array (Int × Value)} {ep : Nat} {t : SetTable}
end
section
variable {pr : Program} {wo : World} {κ : Type} [DecidableEq κ] {kd : PySem.KeyKind pr wo κ} {A : Around} {Er : Value → Shared → Prop} {st : Shared}
theorem TSet.kept {h h' : Heap} {a : Addr} {L : List (Addr × List κ)} {es : Array (Int × Value)} {ep : Nat} {t : SetTable} (R : TSet kd h a L es ep t) (ha : ∀ o, h.get? a = some o → h'.get? a = some o) (hk : ∀ p ∈ L, IsTupleKey kd h' p.2 p.1) : TSet kd h' a L es ep t := by
  obtain ⟨o, ho, r⟩ := R.obj
  exact ⟨⟨o, ha o ho, r⟩, R.ents, R.tab, R.uniq, hk, R.room, R.few⟩
/-- the set holds the first i keys -/
def Holds (kd : PySem.KeyKind pr wo κ) (h : Heap) (S : Addr) (ks : List (Addr × List κ)) (i : Nat) : Prop := ∃ L es ep t, TSet kd h S L es ep t ∧ (∀ p ∈ L, p ∈ ks) ∧ L.length ≤ i ∧ ∀ k, k ∈ L.map (·.2) ↔ k ∈ (ks.take i).map (·.2)
end
/-! ### len(set(xs)), xs a list of fewer than 64 tuples of texts -/
section
variable {X : Cx} {W : Wd} {Γ : List DV} {μ : Mu} {a : Expr} {p p2 q pos : Pos} {ts : List (List (List Nat))}
end
end HW
set_option maxHeartbeats 4000000
namespace HW
open PySem PySem.Spec PyProof.Rows L2
open SX (S)
/-! ### words, split by spaces -/
def spl : List Nat → List (List Nat)
  | [] => [[]]
  | c :: r => if c = 32 then [] :: spl r else (c :: (spl r).headD []) :: (spl r).tail
def joinSp : List (List Nat) → List Nat
  | [] => []
  | [p] => p
  | p :: q :: r => p ++ 32 :: joinSp (q :: r)
theorem spl_ne (t : List Nat) : ∃ p r, spl t = p :: r := by
  cases t with
  | nil => exact ⟨_, _, rfl⟩
  | cons c r =>
    unfold spl
    split
    · exact ⟨_, _, rfl⟩
    · exact ⟨_, _, rfl⟩
theorem spl_free : ∀ {p : List Nat}, 32 ∉ p → spl p = [p]
  | [], _ => rfl
  | c :: r, h => by
    have h1 : c ≠ 32 := fun e => h (by rw [e]; exact List.mem_cons_self)
    have h2 : 32 ∉ r := fun e => h (List.mem_cons_of_mem _ e)
    rw [spl, if_neg h1, spl_free h2]
    rfl
theorem spl_cut : ∀ {p : List Nat} (r : List Nat), 32 ∉ p → spl (p ++ 32 :: r) = p :: spl r
  | [], r, _ => by rw [List.nil_append, spl, if_pos rfl]
  | c :: p, r, h => by
    have h1 : c ≠ 32 := fun e => h (by rw [e]; exact List.mem_cons_self)
    have h2 : 32 ∉ p := fun e => h (List.mem_cons_of_mem _ e)
    rw [List.cons_append, spl, if_neg h1, spl_cut r h2]
    rfl
theorem spl_join : ∀ {ps : List (List Nat)}, ps ≠ [] → (∀ p ∈ ps, 32 ∉ p) → spl (joinSp ps) = ps
  | [], h, _ => absurd rfl h
  | [p], _, h => spl_free (h p List.mem_cons_self)
  | p :: q :: r, _, h => by
    show spl (p ++ 32 :: joinSp (q :: r)) = _
    rw [spl_cut _ (h p List.mem_cons_self), spl_join (by simp) fun x hx => h x (List.mem_cons_of_mem _ hx)]
theorem join_count : ∀ ps : List (List Nat), ps ≠ [] → (joinSp ps).count 32 + 1 = (ps.map (·.count 32)).sum + ps.length
  | [], h => absurd rfl h
  | [p], _ => by simp [joinSp]
  | p :: q :: r, _ => by
    have ih := join_count (q :: r) (by simp)
    show (p ++ 32 :: joinSp (q :: r)).count 32 + 1 = _
    rw [List.count_append, List.count_cons_self, List.map_cons, List.sum_cons, List.length_cons]
    omega
theorem joinL_sp : ∀ ps : List (List Nat), TL.joinL [32] ps = joinSp ps
  | [] => rfl
  | [p] => by simp [TL.joinL, joinSp]
  | p :: q :: r => by
    have ih := joinL_sp (q :: r)
    show _ = p ++ 32 :: joinSp (q :: r)
    rw [← ih]
    simp [TL.joinL]
theorem str_join (ps : List (List Nat)) : Str.join (S [32]) (ps.map S) = S (joinSp ps) := by
  rw [← StrLaws.glued_eq_join, ← joinL_sp]
  exact SX.join_S [32] ps
theorem map_S_list (xs : List Str) : ∃ ps : List (List Nat), xs = ps.map S := ⟨xs.map fun x => x.cps.toList, by rw [List.map_map]; exact (List.map_id xs).symm⟩
section
variable {X : Cx} {W : Wd} {Γ : List DV} {μ : Mu} {o e : Expr} {apos pos : Pos} {ws : List (List Nat)}
/-- " ".join(words) -/
theorem ed_joinSp (ho : Ed X W Γ μ o (.str (S [32]))) (he : Ed X W Γ μ e (wD ws)) (hz : (ws.map List.length).sum + ws.length ≤ 16777216)
    (hs : starEach [e] X.env = [(false, eval e X.env)] := by rfl) (hbase : attributeBase o "join" X.env (eval o X.env) = eval o X.env := by rfl) (hline : (apos.endLine == pos.line) = true := by rfl) :
    Ed X W Γ μ (.Call (.Attribute o "join" apos) [e] [] pos) (sD (joinSp ws)) := fun σ H R Q q => by
  refine (pe_join wE.pe wE.pe hs hbase hline).w (ho σ H R _ fun v H2 R2 e2 r2 => ?_)
  cases r2
  refine ⟨⟨_, rfl⟩, he σ H2 R2 _ fun v H3 R3 e3 r3 => ?_⟩
  cases r3 with
  | lst ha hv =>
    have ev := vaAll_S hv
    refine ⟨S [32], _, ws.map S, rfl, rfl, .inl (by rw [← ev]; exact SqL.of (off_some ha).2), ?_, ?_⟩
    · rw [List.map_map]
      have e1 : (ws.map ((fun x : Str => x.length) ∘ S)) = ws.map List.length := List.map_congr_left fun w _ => SX.S_len w
      rw [e1, SX.S_len, List.length_map]
      simpa using hz
    · rw [SX.join_S, joinL_sp]
      exact q _ H3 R3 (e2.trans e3) (.str _)
end
section
variable {X : Cx} {i : Nat} {xs : List Nat}
theorem c_inTI : OpD X (compareOp .In) (nn i) (.tuple (xs.map nn)) (.bool (decide (i ∈ xs))) := OpR.to op_in_seq fun a b H Q ⟨L, _, ha, hb, k⟩ => by
  cases ha
  cases hb with
  | tup hl hv =>
    have ev := vaAll_n hv
    subst ev
    refine ⟨_, _, rfl, .inr (SqT.up same_off hl), rfl, flat_n xs, ?_⟩
    show Q (.bl (inV _ _)) H
    rw [inV_n]
    exact k _ _ (Same.refl _) (.bl _)
end
theorem split_len (t : List Nat) : (Txt.split (S t) (S [32])).length = t.count 32 + 1 := by
  have hc : ((PySem.Builtin.Str.occurrences (S t) (S [32]) 0 (S t).length ((S t).length + 1)).length : Int) = ((t.count 32 : Nat) : Int) := (PyProof.Rows.count_cnt (S t) 32).trans (cnt_nat 32 t)
  have hc2 : (PySem.Builtin.Str.occurrences (S t) (S [32]) 0 (S t).length ((S t).length + 1)).length = t.count 32 := by omega
  unfold Txt.split
  by_cases h1 : (decide ((S t).length < (S [32]).length) || decide (PySem.Builtin.Str.strKind (S t) < PySem.Builtin.Str.strKind (S [32]))) = true
  · rw [if_pos h1]
    have hk : PySem.Builtin.Str.strKind (S [32]) = 1 := by decide +kernel
    have hk2 : 1 ≤ PySem.Builtin.Str.strKind (S t) := by
      unfold PySem.Builtin.Str.strKind
      split
      · decide
      · split <;> decide
    rw [Bool.or_eq_true, decide_eq_true_eq, decide_eq_true_eq] at h1
    have hl : (S t).length = t.length := SX.S_len t
    have hl2 : (S [32]).length = 1 := rfl
    have : t = [] := by
      rcases h1 with h1 | h1
      · exact List.length_eq_zero_iff.mp (by omega)
      · omega
    subst this
    rfl
  · rw [if_neg h1]
    by_cases h2 : (PySem.Builtin.Str.occurrences (S t) (S [32]) 0 (S t).length ((S t).length + 1)).isEmpty = true
    · rw [if_pos h2]
      rw [List.isEmpty_iff] at h2
      rw [h2] at hc2
      rw [← hc2]
      rfl
    · rw [if_neg h2]
      simp [PySem.Builtin.Str.partsBetween, hc2]
theorem sum_zero : ∀ {l : List Nat}, l.sum = 0 → ∀ x ∈ l, x = 0
  | [], _, x, hx => nomatch hx
  | a :: l, h, x, hx => by
    rw [List.sum_cons] at h
    rcases List.mem_cons.mp hx with rfl | hx
    · omega
    · exact sum_zero (by omega) x hx
/-- the pieces are those of spl -/
theorem split_spl (t : List Nat) : Txt.split (S t) (S [32]) = (spl t).map S := by
  obtain ⟨ps, e⟩ := map_S_list (Txt.split (S t) (S [32]))
  have hj : joinSp ps = t := by
    have z := StrLaws.join_split (S t) (S [32])
    rw [e, str_join] at z
    exact S_inj z
  have hl := split_len t
  rw [e, List.length_map] at hl
  have hne : ps ≠ [] := fun q => by rw [q] at hl; simp at hl
  have hc := join_count ps hne
  rw [hj] at hc
  have hz := sum_zero (l := ps.map (·.count 32)) (by omega)
  have hf : ∀ p ∈ ps, 32 ∉ p := fun p hp hm => by
    have := hz (p.count 32) (List.mem_map.mpr ⟨p, hp, rfl⟩)
    have h2 := List.count_pos_iff.mpr hm
    omega
  rw [e, ← hj, spl_join hne hf]
/-- the words of a text -/
def wordsL (t : List Nat) : List (List Nat) := (spl t).filter fun p => !decide (p = [])
theorem words_sp (r : List Nat) : wordsL (32 :: r) = wordsL r := by
  unfold wordsL
  rw [spl, if_pos rfl, List.filter_cons]
  rfl
theorem words_cut {p : List Nat} (r : List Nat) (h : 32 ∉ p) (hp : p ≠ []) : wordsL (p ++ 32 :: r) = p :: wordsL r := by
  unfold wordsL
  rw [spl_cut r h, List.filter_cons, if_pos (by simpa using hp)]
theorem words_one {p : List Nat} (h : 32 ∉ p) (hp : p ≠ []) : wordsL p = [p] := by
  unfold wordsL
  rw [spl_free h, List.filter_cons, if_pos (by simpa using hp)]
  rfl
theorem words_rep : ∀ k : Nat, wordsL (List.replicate k 32) = []
  | 0 => rfl
  | k + 1 => by rw [List.replicate_succ, words_sp, words_rep k]
theorem words_end {p : List Nat} (k : Nat) (h : 32 ∉ p) : wordsL (p ++ List.replicate k 32) = if p = [] then [] else [p] := by
  by_cases hp : p = []
  · rw [if_pos hp, hp, List.nil_append, words_rep]
  · rw [if_neg hp]
    cases k with
    | zero => rw [List.replicate_zero, List.append_nil, words_one h hp]
    | succ k => rw [List.replicate_succ, words_cut _ h hp, words_rep]
theorem words_join {ws : List (List Nat)} (h : ∀ p ∈ ws, 32 ∉ p ∧ p ≠ []) : wordsL (joinSp ws) = ws := by
  by_cases he : ws = []
  · subst he; rfl
  · unfold wordsL
    rw [spl_join he fun p hp => (h p hp).1]
    exact List.filter_eq_self.mpr fun p hp => by simpa using (h p hp).2
/-- the first word that cannot stand -/
def wrongN : List (List Nat) → Option Nat
  | [] => some 1
  | [m] => if maskB m = true then none else some 1
  | m :: r :: q => if maskB m = true then (if rowB r = true then (if q = [] then none else some 3) else some 2) else some 1
theorem wrong_one (m : List Nat) : wrongN [m] = if maskB m = true then none else some 1 := rfl
theorem wrong_more (m r : List Nat) (q : List (List Nat)) : wrongN (m :: r :: q) = if maskB m = true then (if rowB r = true then (if q = [] then none else some 3) else some 2) else some 1 := rfl
theorem wrong_bad {m : List Nat} (zs : List (List Nat)) (h : ¬ maskB m = true) : wrongN (m :: zs) = some 1 := by
  cases zs with
  | nil => rw [wrong_one, if_neg h]
  | cons r q => rw [wrong_more, if_neg h]
theorem words_small {t : List Nat} : ∀ {p : List Nat}, p ∈ spl t → p.length ≤ t.length ∧ ∀ c ∈ p, c ∈ t := by
  induction t with
  | nil =>
    intro p hp
    obtain rfl : p = [] := by simpa [spl] using hp
    exact ⟨Nat.le_refl _, fun c hc => nomatch hc⟩
  | cons x r ih =>
    intro p hp
    rw [spl] at hp
    split at hp
    · rcases List.mem_cons.mp hp with rfl | hp
      · exact ⟨Nat.zero_le _, fun c hc => nomatch hc⟩
      · obtain ⟨h1, h2⟩ := ih hp
        exact ⟨by rw [List.length_cons]; omega, fun c hc => List.mem_cons_of_mem _ (h2 c hc)⟩
    · obtain ⟨a, b, e⟩ := spl_ne r
      rw [e] at hp
      rcases List.mem_cons.mp hp with rfl | hp
      · obtain ⟨h1, h2⟩ := ih (p := a) (by rw [e]; exact List.mem_cons_self)
        refine ⟨by simpa using h1, fun c hc => ?_⟩
        rcases List.mem_cons.mp hc with rfl | hc
        · exact List.mem_cons_self
        · exact List.mem_cons_of_mem _ (h2 c hc)
      · obtain ⟨h1, h2⟩ := ih (p := p) (by rw [e]; exact List.mem_cons_of_mem _ hp)
        exact ⟨by rw [List.length_cons]; omega, fun c hc => List.mem_cons_of_mem _ (h2 c hc)⟩
theorem spl_len (t : List Nat) : (spl t).length ≤ t.length + 1 := by
  induction t with
  | nil => exact Nat.le_refl _
  | cons x r ih =>
    rw [spl]
    split
    · rw [List.length_cons, List.length_cons]; omega
    · rw [List.length_cons, List.length_tail, List.length_cons]; omega
def rowOf : List (List Nat) → List Nat
  | _ :: r :: _ => r
  | _ => []
def R_read (ds : List PyData) (d : PyData) : Prop := ∃ t : List Nat, ds = [sD t] ∧ t.length ≤ 3000 ∧ (∀ c ∈ t, c < 128) ∧ wrongN (wordsL t) = none ∧ d = pr2 (sD ((wordsL t).headD [])) (sD (rowOf (wordsL t)))
def X_read (ds : List PyData) (x : Str) (fo : Option (Str × PyData)) : Prop := ∃ (t : List Nat) (n : Nat), ds = [sD t] ∧ t.length ≤ 3000 ∧ (∀ c ∈ t, c < 128) ∧ wrongN (wordsL t) = some n ∧ x = "InvalidText" ∧ fo = some (("word" : Str), nn n)
def writeL (m l : List Nat) : List Nat := if l = [] then m else m ++ [32] ++ l
def R_write (ds : List PyData) (d : PyData) : Prop := ∃ m l : List Nat, ds = [sD m, sD l] ∧ maskB m = true ∧ rowB l = true ∧ d = sD (writeL m l)
def R_refused23 (ds : List PyData) (d : PyData) : Prop := ∃ t : List Nat, ds = [sD t] ∧ t.length ≤ 3000 ∧ (∀ c ∈ t, c < 128) ∧ d = optN (wrongN (wordsL t))
def R_law_wrong (ds : List PyData) (d : PyData) : Prop := ∃ ws : List (List Nat), ds = [wD ws] ∧ ws.length ≤ 1000 ∧ (∀ w ∈ ws, w ≠ [] ∧ w.length ≤ 1000 ∧ ∀ c ∈ w, c < 128) ∧ d = optN (wrongN ws)
/-! ### law 23's words -/
def okW (w : List Nat) : Prop := w ≠ [] ∧ w.length ≤ 61 ∧ ∀ c ∈ w, c < 128 ∧ c ≠ 32
theorem okW_mask {m : List Nat} (h : maskB m = true) : okW m := by
  obtain ⟨h1, h2, h3, _⟩ := maskB_iff.mp h
  refine ⟨fun e => by rw [e] at h1; simp at h1, by omega, fun c hc => ?_⟩
  have := h3 c hc
  omega
theorem okW_row {l : List Nat} (h : rowB l = true) (hl : l ≠ []) : okW l := by
  refine ⟨hl, by have := rowB_len h; omega, fun c hc => ?_⟩
  have := rowB_all h c hc
  omega
theorem okW_free {w : List Nat} (h : okW w) : 32 ∉ w ∧ w ≠ [] := ⟨fun q => (h.2.2 32 q).2 rfl, h.1⟩
def pairW (m l : List Nat) : List (List Nat) := if l = [] then [m] else [m, l]
theorem pairW_ok {m l : List Nat} (hm : maskB m = true) (hl : rowB l = true) : wrongN (pairW m l) = none ∧ (pairW m l).headD [] = m ∧ rowOf (pairW m l) = l := by
  unfold pairW
  by_cases h : l = []
  · rw [if_pos h, wrong_one, if_pos hm]
    exact ⟨rfl, rfl, h.symm⟩
  · rw [if_neg h, wrong_more, if_pos hm, if_pos hl, if_pos rfl]
    exact ⟨rfl, rfl, rfl⟩
theorem words_write {m l : List Nat} (hm : maskB m = true) (hl : rowB l = true) : wordsL (writeL m l) = pairW m l := by
  have fm := okW_free (okW_mask hm)
  unfold writeL pairW
  by_cases h : l = []
  · rw [if_pos h, if_pos h, words_one fm.1 fm.2]
  · have fl := okW_free (okW_row hl h)
    rw [if_neg h, if_neg h, List.append_assoc]
    show wordsL (m ++ 32 :: l) = _
    rw [words_cut _ fm.1 fm.2, words_one fl.1 fl.2]
theorem words_pad {m l : List Nat} (k : Nat) (hm : maskB m = true) (hl : rowB l = true) : wordsL ([32, 32] ++ m ++ [32, 32, 32] ++ l ++ List.replicate k 32) = pairW m l := by
  have fm := okW_free (okW_mask hm)
  have e : [32, 32] ++ m ++ [32, 32, 32] ++ l ++ List.replicate k 32 = 32 :: 32 :: (m ++ 32 :: 32 :: 32 :: (l ++ List.replicate k 32)) := by simp
  rw [e, words_sp, words_sp, words_cut _ fm.1 fm.2, words_sp, words_sp]
  unfold pairW
  by_cases h : l = []
  · rw [if_pos h, h, List.nil_append, words_rep]
  · rw [if_neg h, words_end k (okW_free (okW_row hl h)).1, if_neg h]
def oddW : List (List Nat) := [[120], [120, 46, 120], [120, 46], [46], [97, 98], [97, 98, 101], List.replicate 60 97, List.replicate 61 97, List.replicate 12 120, List.replicate 13 120, [88], [65], [63], [120, 63, 120]]
theorem oddW_ok {w : List Nat} (h : w ∈ oddW) : okW w := by
  unfold oddW at h
  simp only [List.mem_cons, List.not_mem_nil, or_false] at h
  rcases h with e | e | e | e | e | e | e | e | e | e | e | e | e | e <;> subst e
  case inr.inr.inr.inr.inr.inr.inl => exact ⟨by decide, by decide, fun c hc => by rw [List.eq_of_mem_replicate hc]; decide⟩
  case inr.inr.inr.inr.inr.inr.inr.inl => exact ⟨by decide, by decide, fun c hc => by rw [List.eq_of_mem_replicate hc]; decide⟩
  case inr.inr.inr.inr.inr.inr.inr.inr.inl => exact ⟨by decide, by decide, fun c hc => by rw [List.eq_of_mem_replicate hc]; decide⟩
  case inr.inr.inr.inr.inr.inr.inr.inr.inr.inl => exact ⟨by decide, by decide, fun c hc => by rw [List.eq_of_mem_replicate hc]; decide⟩
  all_goals exact ⟨by decide, by decide, by decide⟩
theorem joinSp_len : ∀ {ws : List (List Nat)}, (∀ w ∈ ws, okW w) → (joinSp ws).length ≤ ws.length * 62
  | [], _ => Nat.zero_le _
  | [p], h => by
    have := (h p List.mem_cons_self).2.1
    show p.length ≤ _
    simp; omega
  | p :: q :: r, h => by
    have h1 := (h p List.mem_cons_self).2.1
    have ih := joinSp_len (ws := q :: r) fun w hw => h w (List.mem_cons_of_mem _ hw)
    show (p ++ 32 :: joinSp (q :: r)).length ≤ _
    rw [List.length_append, List.length_cons, List.length_cons, Nat.add_mul]
    omega
theorem joinSp_low : ∀ {ws : List (List Nat)}, (∀ w ∈ ws, okW w) → ∀ c ∈ joinSp ws, c < 128
  | [], _, c, hc => nomatch hc
  | [p], h, c, hc => ((h p List.mem_cons_self).2.2 c hc).1
  | p :: q :: r, h, c, hc => by
    have hc : c ∈ p ++ 32 :: joinSp (q :: r) := hc
    rcases List.mem_append.mp hc with hc | hc
    · exact ((h p List.mem_cons_self).2.2 c hc).1
    · rcases List.mem_cons.mp hc with rfl | hc
      · decide
      · exact joinSp_low (ws := q :: r) (fun w hw => h w (List.mem_cons_of_mem _ hw)) c hc
end HW
set_option maxHeartbeats 0
namespace Tx
open PySem PySem.Spec PyProof.Rows L2
def top (i : Nat) : Stmt := PySem.Challenge.pw_holedwindows_k23_texts.main.body.getD i (.Pass ⟨0, 0, 0, 0⟩)
abbrev s_is_mask : Stmt := top 11
abbrev s_need_mask : Stmt := top 12
abbrev s_is_row : Stmt := top 13
abbrev s_need_row : Stmt := top 14
abbrev s_write : Stmt := top 16
abbrev s_read : Stmt := top 17
abbrev s__law_taken : Stmt := top 19
abbrev s__law_mask : Stmt := top 20
abbrev s__law_line : Stmt := top 21
abbrev s__law_wrong : Stmt := top 22
abbrev s__law_refused : Stmt := top 23
abbrev s_law : Stmt := top 24
def d_is_mask : He.DefD := ⟨("is_mask", none), "is_mask", "is_mask", defArgs s_is_mask, defBody s_is_mask, defScope s_is_mask, [], []⟩
def d_need_mask : He.DefD := ⟨("need_mask", none), "need_mask", "need_mask", defArgs s_need_mask, defBody s_need_mask, defScope s_need_mask, [], []⟩
def d_is_row : He.DefD := ⟨("is_row", none), "is_row", "is_row", defArgs s_is_row, defBody s_is_row, defScope s_is_row, [], []⟩
def d_need_row : He.DefD := ⟨("need_row", none), "need_row", "need_row", defArgs s_need_row, defBody s_need_row, defScope s_need_row, [], []⟩
def d_write : He.DefD := ⟨("write", none), "write", "write", defArgs s_write, defBody s_write, defScope s_write, [], []⟩
def d_read : He.DefD := ⟨("read", none), "read", "read", defArgs s_read, defBody s_read, defScope s_read, [], []⟩
def d__law_taken : He.DefD := ⟨("_law_taken", none), "_law_taken", "_law_taken", defArgs s__law_taken, defBody s__law_taken, defScope s__law_taken, [], []⟩
def d__law_mask : He.DefD := ⟨("_law_mask", none), "_law_mask", "_law_mask", defArgs s__law_mask, defBody s__law_mask, defScope s__law_mask, [], []⟩
def d__law_line : He.DefD := ⟨("_law_line", none), "_law_line", "_law_line", defArgs s__law_line, defBody s__law_line, defScope s__law_line, [], []⟩
def d__law_wrong : He.DefD := ⟨("_law_wrong", none), "_law_wrong", "_law_wrong", defArgs s__law_wrong, defBody s__law_wrong, defScope s__law_wrong, [], []⟩
def d__law_refused : He.DefD := ⟨("_law_refused", none), "_law_refused", "_law_refused", defArgs s__law_refused, defBody s__law_refused, defScope s__law_refused, [], []⟩
def d_law : He.DefD := ⟨("law", none), "law", "law", defArgs s_law, defBody s_law, defScope s_law, [], []⟩
abbrev m_InvalidText : Stmt := HW.clsM (top 4) 0
def i_InvalidText : He.DefD := ⟨("InvalidText", some "__init__"), "__init__", "InvalidText.__init__", defArgs m_InvalidText, defBody m_InvalidText, defScope m_InvalidText, [], []⟩
def fn0 : List He.DefD := [d_is_mask, d_need_mask, d_is_row, d_need_row, d_write, d_read, d__law_taken, d__law_mask, d__law_line, d__law_wrong, d__law_refused, d_law, i_InvalidText]
def fn : List He.DefD := fn0
def fa0 : List He.Fa := [.glo "is_mask", .glo "need_mask", .glo "is_row", .glo "need_row", .glo "write", .glo "read", .glo "_law_taken", .glo "_law_mask", .glo "_law_line", .glo "_law_wrong", .glo "_law_refused", .glo "law", .free "all", .free "int", .free "isinstance", .free "len", .free "range", .free "str", .free "set", .free "enumerate", .free "zip", .free "min", .free "max", .free "sorted", .free "any"]
def fa1 : List He.Fa := [.free "tuple", .free "list", .free "bool", .free "dict", .free "abs", .free "sum", .noat "InvalidText" "word", .exm "InvalidText" "InvalidText" true, .str "SEEN" "x", .str "HOLE" ".", .str "LETTERS" "abcd", .int "MOST_MASK" 12, .int "MOST_ROW" 60]
def fa : List He.Fa := fa0 ++ fa1
def names0 : List PySem.Str := ["__name__", "SEEN", "HOLE", "LETTERS", "MOST_MASK", "MOST_ROW", "WindowError", "BadMask", "BadRow", "InvalidText", "is_mask", "need_mask", "is_row", "need_row", "write", "read", "_law_taken", "_law_mask", "_law_line", "_law_wrong", "_law_refused"]
def names : List PySem.Str := names0
abbrev R : PySem.W.OpenRow := PySem.W.OpenLaw.row PySem.Challenge.rw_holedwindows_k23_texts
def ex (K : PySem.W.Frag) : Bool := HW.exfB "InvalidText" K && HW.baseB "WindowError" K && true
abbrev hk : PySem.W.Hook := HX.hookS 4 fa fn ex
def ob (s : PySem.W.SharedT) : HX.AlE := HX.obsS 4 fa fn ex (HandSHeadRun.getT s)
theorem ob_eq (s : PySem.W.SharedT) : ob s = hk.obs s.abs := HX.obsS_eq (HandSHeadRun.getT_eq s)
theorem run (w : World) : HandSHeadRun.RunEq R (PySem.W.view R.prog [24]) hk ob 9000 names w := by
  intro os
  kernel_rfl
end Tx
set_option maxHeartbeats 4000000
namespace HW
open PySem PySem.Spec PyProof.Rows L2 Tx
open SX (S)
section
variable {P : Program} {w : World} {K : PySem.W.Frag} {mg : Str → Option Value} {base : Heap} {f : Addr} {fd : FuncData} {k : Nat}
theorem fi_InvalidText {C : Addr} (F : FunD K "__init__" "InvalidText.__init__" (defArgs m_InvalidText) (defBody m_InvalidText) (defScope m_InvalidText) [] [] f fd) (B : BaseF K mg "WindowError") (hno : PySem.W.findIn K (.ref C) "word" = some none) : FnOk P w K mg base CX0 (k + 1) f fd ["self", "word"] (spI1 K C "word") :=
  fn_init1 (by decide) (by decide) F ⟨rfl, rfl, rfl, by decide +kernel, rfl, by decide +kernel, by decide +kernel⟩ B hno (fun _ _ _ _ _ _ => rfl) (fun _ _ _ _ _ _ => Or.inl rfl) (fun _ _ _ _ _ _ => Or.inl rfl) (fun _ _ _ _ _ _ => ⟨_, rfl⟩) (fun _ _ _ _ _ _ => rfl) (fun _ _ _ _ _ _ => rfl)
theorem fd_taken (F : FnP K "_law_taken" s__law_taken f fd) (hint : mg "int" = none) (hlen : mg "len" = none) : FnOk P w K mg base CX0 (k + 1) f fd ["_law_row", "_law_many"] (spW K R_taken_pre R_taken_post) := by
  have sc : FnScope ["_law_row", "_law_many", "_law_found", "_law_cell"] ["_law_row", "_law_many"] (defScope s__law_taken) := ⟨rfl, rfl, rfl, by decide +kernel, rfl, by decide +kernel, by decide +kernel⟩
  refine F.ok sc (fun vs H Q E ⟨M, r, scr, ns, ws, ds, e, _, _, _, _, _, _, hv, ⟨m, e2, _⟩, _⟩ => by rw [e, List.length_cons, hv.length, e2]; rfl) fun cdv A outer s H vs Q E hr ⟨M, r, scr, ns, ws, ds, e, hM, hrM, hR, hS, hne, hns, hv, ⟨m, e2, h0, h1⟩, q⟩ => ?_
  subst e
  subst e2
  cases hv with
  | cons hv1 hv2 =>
  cases hv2
  cases hv1
  obtain ⟨i, sd, rest, hrow, hi0⟩ := hR
  -- the end: r holds whatever it holds
  have fin : ∀ (k : Nat) (i' sd' q' : Int) (H' : Hp), (k : Int) < m → 0 ≤ i' → (∀ a o, a ≠ r → H a = some o → H' a = some o) → H' r = some (.lst [.ref scr, .int i', .int sd', .int q']) → Q (.int (k : Int)) H' := fun k i' sd' q' H' hk hi' keep hr' =>
    q _ H' (.int (k : Int)) ⟨m, k, rfl, rfl, hk⟩ keep ⟨i', sd', q', hr', hi'⟩ (.int _)
  have modk : ∀ z : Int, ∃ k : Nat, z % m = (k : Int) ∧ (k : Int) < m := fun z => ⟨(z % m).toNat, by rw [Int.toNat_of_nonneg (Int.emod_nonneg _ (by omega))], by rw [Int.toNat_of_nonneg (Int.emod_nonneg _ (by omega))]; exact Int.emod_lt_of_pos _ h0⟩
  have sq : ∀ {H' : Hp}, (∀ a o, a ≠ r → H a = some o → H' a = some o) → SqL K H' scr (ns.map V.int) := fun {H'} keep => SqL.up (fun o e => keep scr o hne e) hS
  refine ⟨_, PSs.nox wSs.ps, ?_⟩
  show wSs (cxOf CX0 P w K mg base ["_law_row", "_law_many", "_law_found", "_law_cell"] "_law_taken" (defScope s__law_taken) f cdv A outer s H E).nox _ _ (start _ _) H
  have nd := sc.nd
  have k1 : ∀ {o : HO} (a : Addr) (u : HO), a ≠ r → H a = some u → upd H r o a = some u := fun {o} a u n e => by rw [upd_ne n]; exact e
  refine wSs_cons ((ps_if wT.pt wSs.ps wSs.ps).w (at_cmp (k := decide (0 < rest)) op_gt (at_ix (at_var 0 rfl) at_int (SqL.of hrow) rfl) at_int (fun Q q => ⟨rest, 0, rfl, rfl, q⟩) ?_))
  by_cases hp : 0 < rest
  · rw [decide_eq_true hp]
    obtain ⟨k, ek, hk⟩ := modk rest
    refine iteT (wSs_cons ((ps_set (i := 2) nd rfl (.inl rfl) wE.pe).w (at_op (z := .int (rest % m)) op_mod (at_int1 (at_ix (at_var 0 rfl) at_int (SqL.of hrow) rfl) hint) (at_var 1 rfl) (fun Q q => ⟨rest, m, rfl, rfl, h0, q⟩) _ ?_)))
    refine wSs_cons ((ps_asg wE.pe (pg_sub wE.pe wE.pe set_list)).w (at_op (z := .int (rest / m)) op_fdiv (at_ix (at_var 0 rfl) at_int (SqL.of hrow) rfl) (at_var 1 rfl) (fun Q q => ⟨rest, m, rfl, rfl, ⟨h0, h1⟩, q⟩) _ ?_))
    refine at_k (at_var 0 rfl) (at_k at_int ⟨r, _, 3, 3, rfl, rfl, hrow, rfl, ?_⟩)
    refine wSs_cons ((ps_ret wE.pe).w (at_k (at_var 2 rfl) ?_))
    rw [ek]
    exact fin k i sd (rest / m) _ hk hi0 k1 upd_same
  · rw [decide_eq_false hp]
    refine iteF (pss_nil.w ?_)
    refine wSs_cons ((ps_asg wE.pe (pg_sub wE.pe wE.pe set_list)).w (at_op (z := .int (i + 1)) op_add (at_ix (at_var 0 rfl) at_int (SqL.of hrow) rfl) at_int (fun Q q => ⟨i, 1, rfl, rfl, q⟩) _ ?_))
    refine at_k (at_var 0 rfl) (at_k at_int ⟨r, _, 1, 1, rfl, rfl, hrow, rfl, ?_⟩)
    have hr1 : upd H r (.lst [.ref scr, .int (i + 1), .int sd, .int rest]) r = some (.lst [.ref scr, .int (i + 1), .int sd, .int rest]) := upd_same
    have keep1 : ∀ (a : Addr) (u : HO), a ≠ r → H a = some u → upd H r (.lst [.ref scr, .int (i + 1), .int sd, .int rest]) a = some u := k1
    revert hr1 keep1
    show _ → _ → wSs _ _ _ _ (upd H r (.lst [.ref scr, .int (i + 1), .int sd, .int rest]))
    generalize upd H r (.lst [.ref scr, .int (i + 1), .int sd, .int rest]) = H1
    intro hr1 keep1
    have k2 : ∀ {o : HO} (a : Addr) (u : HO), a ≠ r → H a = some u → upd H1 r o a = some u := fun {o} a u n e => by rw [upd_ne n]; exact keep1 a u n e
    refine wSs_cons ((ps_if wT.pt wSs.ps wSs.ps).w (at_cmp (k := decide (((ns.map V.int).length : Int) < i + 1)) op_gt (at_ix (at_var 0 rfl) at_int (SqL.of hr1) rfl) (at_len (at_ix (at_var 0 rfl) at_int (SqL.of hr1) rfl) (sq keep1) hlen) (fun Q q => ⟨i + 1, _, rfl, rfl, q⟩) ?_))
    by_cases hb : ((ns.map V.int).length : Int) < i + 1
    · rw [decide_eq_true hb]
      refine iteT (wSs_cons ((ps_asg wE.pe (pg_sub wE.pe wE.pe set_list)).w (at_op (z := .int ((sd * 48271 + 11) % 2147483647)) op_mod (at_int1 (at_op (z := .int (sd * 48271 + 11)) op_add (at_op (z := .int (sd * 48271)) op_mul (at_ix (at_var 0 rfl) at_int (SqL.of hr1) rfl) at_int (fun Q q => ⟨sd, 48271, rfl, rfl, .inr (by decide), q⟩)) at_int (fun Q q => ⟨_, 11, rfl, rfl, q⟩)) hint) at_int (fun Q q => ⟨_, 2147483647, rfl, rfl, (by decide : (0 : Int) < 2147483647), q⟩) _ ?_)))
      refine at_k (at_var 0 rfl) (at_k at_int ⟨r, _, 2, 2, rfl, rfl, hr1, rfl, ?_⟩)
      obtain ⟨k, ek, hk⟩ := modk ((sd * 48271 + 11) % 2147483647 / 7)
      refine wSs_cons ((ps_ret wE.pe).w (at_op (z := .int ((sd * 48271 + 11) % 2147483647 / 7 % m)) op_mod (at_int1 (at_op (z := .int ((sd * 48271 + 11) % 2147483647 / 7)) op_fdiv (at_ix (at_var 0 rfl) at_int (SqL.of upd_same) rfl) at_int (fun Q q => ⟨_, 7, rfl, rfl, ⟨by decide, by decide⟩, q⟩)) hint) (at_var 1 rfl) (fun Q q => ⟨_, m, rfl, rfl, h0, q⟩) _ ?_))
      rw [ek]
      exact fin k (i + 1) _ rest _ hk (by omega) k2 upd_same
    · rw [decide_eq_false hb]
      refine iteF (pss_nil.w ?_)
      obtain ⟨c, hc⟩ : ∃ c : Int, atI (ns.map V.int) (i + 1 - 1) = some (.int c) := by
        have hl : i.toNat < ns.length := by
          rw [List.length_map] at hb
          omega
        refine ⟨ns[i.toNat], at_nat (n := i.toNat) (by omega) ?_⟩
        rw [List.getElem?_map, List.getElem?_eq_getElem hl]
        rfl
      refine wSs_cons ((ps_set (i := 3) nd rfl (.inl rfl) wE.pe).w (at_ix (at_ix (at_var 0 rfl) at_int (SqL.of hr1) rfl) (at_op (z := .int (i + 1 - 1)) op_sub (at_ix (at_var 0 rfl) at_int (SqL.of hr1) rfl) at_int (fun Q q => ⟨i + 1, 1, rfl, rfl, q⟩)) (sq keep1) hc (by exact fun _ _ => rfl) _ ?_))
      refine wSs_cons ((ps_asg wE.pe (pg_sub wE.pe wE.pe set_list)).w (at_op (z := .int ((sd * 48271 + c + 11) % 2147483647)) op_mod (at_int1 (at_op (z := .int (sd * 48271 + c + 11)) op_add (at_op (z := .int (sd * 48271 + c)) op_add (at_op (z := .int (sd * 48271)) op_mul (at_ix (at_var 0 rfl) at_int (SqL.of hr1) rfl) at_int (fun Q q => ⟨sd, 48271, rfl, rfl, .inr (by decide), q⟩)) (at_var 3 rfl) (fun Q q => ⟨_, c, rfl, rfl, q⟩)) at_int (fun Q q => ⟨_, 11, rfl, rfl, q⟩)) hint) at_int (fun Q q => ⟨_, 2147483647, rfl, rfl, (by decide : (0 : Int) < 2147483647), q⟩) _ ?_))
      refine at_k (at_var 0 rfl) (at_k at_int ⟨r, _, 2, 2, rfl, rfl, hr1, rfl, ?_⟩)
      have hr2 : upd H1 r (.lst [.ref scr, .int (i + 1), .int ((sd * 48271 + c + 11) % 2147483647), .int rest]) r = some (.lst [.ref scr, .int (i + 1), .int ((sd * 48271 + c + 11) % 2147483647), .int rest]) := upd_same
      have keep2 : ∀ (a : Addr) (u : HO), a ≠ r → H a = some u → upd H1 r (.lst [.ref scr, .int (i + 1), .int ((sd * 48271 + c + 11) % 2147483647), .int rest]) a = some u := k2
      revert hr2 keep2
      show _ → _ → wSs _ _ _ _ (upd H1 r (.lst [.ref scr, .int (i + 1), .int ((sd * 48271 + c + 11) % 2147483647), .int rest]))
      generalize upd H1 r (.lst [.ref scr, .int (i + 1), .int ((sd * 48271 + c + 11) % 2147483647), .int rest]) = H2
      intro hr2 keep2
      have k3 : ∀ {o : HO} (a : Addr) (u : HO), a ≠ r → H a = some u → upd H2 r o a = some u := fun {o} a u n e => by rw [upd_ne n]; exact keep2 a u n e
      obtain ⟨k, ek, hk⟩ := modk c
      refine wSs_cons ((ps_if wT.pt wSs.ps wSs.ps).w (at_cmp (k := decide ((10 : Int) ^ (18 : Int).toNat ≤ c)) op_ge (at_var 3 rfl) (at_op (z := .int ((10 : Int) ^ (18 : Int).toNat)) op_pow at_int at_int (fun Q q => ⟨10, 18, rfl, rfl, ⟨by decide, by decide, by decide⟩, q⟩)) (fun Q q => ⟨c, _, rfl, rfl, q⟩) ?_))
      have out : ∀ (q' : Int) (H' : Hp), (∀ a o, a ≠ r → H a = some o → H' a = some o) → H' r = some (.lst [.ref scr, .int (i + 1), .int ((sd * 48271 + c + 11) % 2147483647), .int q']) →
          wSs (cxOf CX0 P w K mg base ["_law_row", "_law_many", "_law_found", "_law_cell"] "_law_taken" (defScope s__law_taken) f cdv A outer s H E).nox ((defBody s__law_taken).drop 6) { nx := fun x H' => Q .non H', rt := Q } [some (.ref r), some (.int m), none, some (.int c)] H' := fun q' H' keep hr' => by
        refine wSs_cons ((ps_ret wE.pe).w (at_op (z := .int (c % m)) op_mod (at_int1 (at_var 3 rfl) hint) (at_var 1 rfl) (fun Q q => ⟨c, m, rfl, rfl, h0, q⟩) _ ?_))
        rw [ek]
        exact fin k (i + 1) _ q' _ hk (by omega) keep hr'
      by_cases hg : (10 : Int) ^ (18 : Int).toNat ≤ c
      · rw [decide_eq_true hg]
        refine iteT (wSs_cons ((ps_asg wE.pe (pg_sub wE.pe wE.pe set_list)).w (at_op (z := .int (c / m)) op_fdiv (at_var 3 rfl) (at_var 1 rfl) (fun Q q => ⟨c, m, rfl, rfl, ⟨h0, h1⟩, q⟩) _ ?_)))
        refine at_k (at_var 0 rfl) (at_k at_int ⟨r, _, 3, 3, rfl, rfl, hr2, rfl, ?_⟩)
        exact pss_nil.w (out (c / m) _ k3 upd_same)
      · rw [decide_eq_false hg]
        exact iteF (pss_nil.w (out rest _ keep2 hr2))
theorem fd_law_mask (F : FnP K "_law_mask" s__law_mask f fd) (hrng : mg "range" = none) (F1 : DRAW P w K mg base k) : FnOk P w K mg base CX0 (k + 1) f fd ["_law_row", "_law_width"] (spW K pre_mask post_mask) := by
  have sc : FnScope ["_law_row", "_law_width", "_law_many", "_law_at"] ["_law_row", "_law_width"] (defScope s__law_mask) := ⟨rfl, rfl, rfl, by decide +kernel, rfl, by decide +kernel, by decide +kernel⟩
  refine fd_row F sc _ _ (fun ds ⟨m, e, _⟩ => by rw [e]; rfl) fun cdv A outer s H E hr W r scr ns ds hrow hR => ?_
  obtain ⟨wd, rfl, h1, h2⟩ := hR
  refine run_setP 2 (ev_takenN wd F1 hr hrow 0 (vr 1) rfl h1 (by omega)) (fun d ⟨mn, e, hm⟩ => ?_) sc.nd
  subst e
  refine run_if (k := decide (mn = 0)) (tc (vr 2) ed_int c_eqI |>.to (decide_eq_decide.mpr (by omega))) (fun q => run_ret (ed_S [120]) ⟨wd, [120], rfl, rfl, by decide, h1⟩) (fun q => run_skip ?_)
  have q' : mn ≠ 0 := of_decide_eq_false q
  have one : ∀ cs : List Nat, (∀ c ∈ cs, c = 120 ∨ c = 46) → cs.length = mn - 1 → maskB (120 :: cs ++ [120]) = true := fun cs hc hl => by
    unfold maskB
    simp only [Bool.and_eq_true, decide_eq_true_eq, List.all_eq_true]
    refine ⟨⟨⟨⟨by simp, by simp; omega⟩, fun c hcm => ?_⟩, rfl⟩, List.getLast?_concat⟩
    rw [List.mem_append, List.mem_cons] at hcm
    rcases hcm with (h | h) | h
    · subst h; simp
    · rcases hc c h with h | h <;> (subst h; simp)
    · rw [List.mem_singleton.mp h]; simp
  refine run_retV (ev_op (C := fun z => ∃ cs : List Nat, z = sD (120 :: cs ++ [120]) ∧ (∀ c ∈ cs, c = 120 ∨ c = 46) ∧ cs.length = mn - 1) (ev_op (C := fun z => ∃ cs : List Nat, z = sD (120 :: cs) ∧ (∀ c ∈ cs, c = 120 ∨ c = 46) ∧ cs.length = mn - 1) (ed_S [120]).ev (ev_joinC (Ws := fun cs => (∀ c ∈ cs, c = 120 ∨ c = 46) ∧ cs.length = mn - 1) (ed_S [])
    ((lcNV 3 (it_range (n := mn - 1) (ed_op (vr 2) ed_int o_sub) hrng) (fun xs e => by rw [e, List.length_range]; omega) (E := fun _ z => ∃ c, z = sg c ∧ (c = 120 ∨ c = 46)) (fun xs e x hx W1 lw s H C cl fp => (ev_ix (C := fun z => ∃ c, z = sg c ∧ (c = 120 ∨ c = 46)) (ed_S [46, 120]).ev (ev_takenN 2 F1 hr (lw.row.trans hrow) 0 ed_int rfl) (fun x y ex ⟨kk, ey, hk⟩ => by
      subst ex
      subst ey
      match kk, hk with
      | 0, _ => exact ⟨sg 46, ⟨46, rfl, .inr rfl⟩, i_str (n := 0) (by decide) rfl⟩
      | 1, _ => exact ⟨sg 120, ⟨120, rfl, .inl rfl⟩, i_str (n := 1) (by decide) rfl⟩))) sc.nd).ev sc.nd |>.imp fun d ⟨ys, e, xs, ex, hp⟩ => by
        subst ex
        obtain ⟨cs, e2, h3⟩ := paired_sg hp
        refine ⟨cs, by rw [e, e2], h3, ?_⟩
        have := plen hp
        rw [e2, List.length_map, List.length_range] at this
        exact this.symm) (fun cs h => by omega)) (fun x y ex ⟨cs, ey, hc⟩ => by
          subst ex
          subst ey
          exact ⟨sD (120 :: cs), ⟨cs, rfl, hc⟩, o_adds (l := [120]) (by simp; omega)⟩)) (ed_S [120]).ev (fun x y ⟨cs, ex, hc⟩ ey => by
          subst ex
          subst ey
          exact ⟨sD (120 :: cs ++ [120]), ⟨cs, rfl, hc⟩, o_adds (by simp; omega)⟩)) fun d ⟨cs, e, h3, h4⟩ => ⟨wd, 120 :: cs ++ [120], rfl, e, one cs h3 h4, by simp; omega⟩
theorem fd_law_line (F : FnP K "_law_line" s__law_line f fd) (hrng : mg "range" = none) (F1 : DRAW P w K mg base k) : FnOk P w K mg base CX0 (k + 1) f fd ["_law_row", "_law_most", "_law_letters"] (spW K pre_line post_line) := by
  have sc : FnScope ["_law_row", "_law_most", "_law_letters", "_law_at"] ["_law_row", "_law_most", "_law_letters"] (defScope s__law_line) := ⟨rfl, rfl, rfl, by decide +kernel, rfl, by decide +kernel, by decide +kernel⟩
  refine fd_row F sc _ _ (fun ds ⟨m, n, e, _⟩ => by rw [e]; rfl) fun cdv A outer s H E hr W r scr ns ds hrow hR => ?_
  obtain ⟨a, n, rfl, h1, h2, h3⟩ := hR
  refine run_retV (ev_joinC (Ws := fun cs => lowL n cs ∧ cs.length ≤ a) (ed_S [])
    ((lcNV 3 (it_rangeV (P := fun m => m ≤ a) (eva_cons (ev_takenN (a + 1) F1 hr hrow 0 (ed_op (vr 1) ed_int o_add) rfl (by omega) (by omega)) eva_nil |>.imp fun ds ⟨x, r, e, ⟨q, eq, hq⟩, er⟩ => ⟨(q : Int), by rw [e, er, eq], by omega, by omega, by omega⟩) hrng) (fun xs ⟨m, e, hm⟩ => by rw [e, List.length_range]; omega) (E := fun _ z => ∃ c, z = sg c ∧ (97 ≤ c ∧ c < 97 + n)) (fun xs e x hx W1 lw s H C cl fp => (ev_ix (C := fun z => ∃ c, z = sg c ∧ (97 ≤ c ∧ c < 97 + n)) (ed_S [97, 98, 99, 100]).ev (ev_takenN n F1 hr (lw.row.trans hrow) 0 (vr 2) rfl (by omega) (by omega)) (fun x y ex ⟨kk, ey, hk⟩ => by
      subst ex
      subst ey
      have hk4 : kk < 4 := by omega
      match kk, hk4, hk with
      | 0, _, hk => exact ⟨sg 97, ⟨97, rfl, by omega⟩, i_str (n := 0) (by decide) rfl⟩
      | 1, _, hk => exact ⟨sg 98, ⟨98, rfl, by omega⟩, i_str (n := 1) (by decide) rfl⟩
      | 2, _, hk => exact ⟨sg 99, ⟨99, rfl, by omega⟩, i_str (n := 2) (by decide) rfl⟩
      | 3, _, hk => exact ⟨sg 100, ⟨100, rfl, by omega⟩, i_str (n := 3) (by decide) rfl⟩))) sc.nd).ev sc.nd |>.imp fun d ⟨ys, e, xs, ⟨m, ex, hm⟩, hp⟩ => by
        subst ex
        obtain ⟨cs, e2, h3⟩ := paired_sg hp
        refine ⟨cs, by rw [e, e2], h3, ?_⟩
        have := plen hp
        rw [e2, List.length_map, List.length_range] at this
        omega) (fun cs h => by omega)) fun d ⟨cs, e, h3, h4⟩ => ⟨a, n, cs, rfl, e, h4, h3⟩
theorem fd_is_mask (F : FnP K "is_mask" s_is_mask f fd) (G : Gs mg) (gS : gSEEN mg) (gH : gHOLE mg) (gM : gMOST_MASK mg) : FnOk P w K mg base CX0 (k + 1) f fd ["value"] (spR K R_is_mask) := by
  have sc : FnScope ["value", "sign"] ["value"] (defScope s_is_mask) := ⟨rfl, rfl, rfl, by decide +kernel, rfl, by decide +kernel, by decide +kernel⟩
  refine fd_pure F sc _ (fun ds d ⟨m, e, _⟩ => by rw [e]; rfl) fun cdv A outer s H E hr W ds d hrow hR => ?_
  obtain ⟨m, rfl, hm, rfl⟩ := hR
  unfold maskB at hm
  simp only [Bool.and_eq_true, decide_eq_true_eq] at hm
  obtain ⟨⟨⟨⟨h1, h2⟩, h3⟩, h4⟩, h5⟩ := hm
  refine run_if (k := false) ((t_or (t_not (et_val (ed_isi (T := "str") (vr 0) G.isinstance G.str (by decide +kernel)))) fun _ => t_not (tc_chain ed_int (ed_callB G.len boot_len (ea_cons (vr 0) ea_nil) (c_lenS (by omega))) (fun _ => ed_gint gM) c_le c_le)).to ?_) (fun q => nomatch q) (fun _ => run_skip ?_)
  · have e1 : decide ((1 : Int) ≤ ((m.length : Nat) : Int)) = true := decide_eq_true (by omega)
    have e2 : decide (((m.length : Nat) : Int) ≤ (12 : Int)) = true := decide_eq_true (by omega)
    rw [e1, e2]
    rfl
  · refine run_ret ((ed_and (k := true) (l := true) ((ed_callB G.all boot_all (ea_cons (lcN0 1 (it_str (vr 0)) (by omega) (fun c => .bool (decide (c ∈ [120, 46]))) (fun c hc W1 l s H C cl fp => ed_cmp (vr 1) (ed_op (ed_gS [120] gS) (ed_gS [46] gH) (o_adds (by decide))) c_inS) sc.nd |>.ed sc.nd) ea_nil) (c_all (bs := m.map fun c => decide (c ∈ [120, 46])) rfl |> fun z => by rw [List.map_map] at z; exact z)).to ?_)
      (fun _ => ed_and (k := true) (l := true) ((ed_cmp (ed_ix (vr 0) ed_int (i_str (n := 0) (by omega) h4)) (ed_gS [120] gS) (c_eqS (l := [120]))).to ?_) fun _ => ed_one ((ed_cmp (ed_ix (vr 0) (ed_neg ed_int) (i_strL (by omega) h5)) (ed_gS [120] gS) (c_eqS (l := [120]))).to ?_)))) rfl
    · rw [List.all_map]
      exact congrArg PyData.bool h3
    · rfl
    · rfl
theorem fd_need_mask (F : FnP K "need_mask" s_need_mask f fd) (F1 : Fd P w K mg base k "is_mask" ["value"] (spR K R_is_mask)) : FnOk P w K mg base CX0 (k + 1) f fd ["mask"] (spR K R_need_mask) := by
  have sc : FnScope ["mask"] ["mask"] (defScope s_need_mask) := ⟨rfl, rfl, rfl, by decide +kernel, rfl, by decide +kernel, by decide +kernel⟩
  refine fd_pure F sc _ (fun ds d ⟨m, e, _⟩ => by rw [e]; rfl) fun cdv A outer s H E hr W ds d hrow hR => ?_
  obtain ⟨m, rfl, hm, rfl⟩ := hR
  exact run_if (k := false) (t_not (k := true) (et_val (ed_call F1 hr (ea_cons (vr 0) ea_nil) ⟨m, rfl, hm, rfl⟩))) (fun q => nomatch q) (fun _ => run_skip (run_end rfl))
theorem fd_is_row (F : FnP K "is_row" s_is_row f fd) (G : Gs mg) (gL : gLETTERS mg) (gR : gMOST_ROW mg) : FnOk P w K mg base CX0 (k + 1) f fd ["value"] (spR K R_is_row) := by
  have sc : FnScope ["value", "sign"] ["value"] (defScope s_is_row) := ⟨rfl, rfl, rfl, by decide +kernel, rfl, by decide +kernel, by decide +kernel⟩
  refine fd_pure F sc _ (fun ds d ⟨m, e, _⟩ => by rw [e]; rfl) fun cdv A outer s H E hr W ds d hrow hR => ?_
  obtain ⟨l, rfl, hm, rfl⟩ := hR
  unfold rowB at hm
  simp only [Bool.and_eq_true, decide_eq_true_eq] at hm
  obtain ⟨h1, h2⟩ := hm
  refine run_ret (ed_and (k := true) (l := true) (ed_isi (T := "str") (vr 0) G.isinstance G.str (by decide +kernel)) fun _ => ed_and (k := true) (l := true) ((ed_cmp (ed_callB G.len boot_len (ea_cons (vr 0) ea_nil) (c_lenS (by omega))) (ed_gint gR) c_le).to ?_) fun _ => ed_one ((ed_callB G.all boot_all (ea_cons (lcN0 1 (it_str (vr 0)) (by omega) (fun c => .bool (decide (c ∈ [97, 98, 99, 100]))) (fun c hc W1 l s H C cl fp => ed_cmp (vr 1) (ed_gS [97, 98, 99, 100] gL) c_inS) sc.nd |>.ed sc.nd) ea_nil) (c_all (bs := l.map fun c => decide (c ∈ [97, 98, 99, 100])) rfl |> fun z => by rw [List.map_map] at z; exact z)).to ?_)) rfl
  · exact congrArg PyData.bool (decide_eq_true (by omega))
  · rw [List.all_map]
    exact congrArg PyData.bool h2
theorem fd_need_row (F : FnP K "need_row" s_need_row f fd) (F1 : Fd P w K mg base k "is_row" ["value"] (spR K R_is_row)) : FnOk P w K mg base CX0 (k + 1) f fd ["row"] (spR K R_need_row) := by
  have sc : FnScope ["row"] ["row"] (defScope s_need_row) := ⟨rfl, rfl, rfl, by decide +kernel, rfl, by decide +kernel, by decide +kernel⟩
  refine fd_pure F sc _ (fun ds d ⟨m, e, _⟩ => by rw [e]; rfl) fun cdv A outer s H E hr W ds d hrow hR => ?_
  obtain ⟨m, rfl, hm, rfl⟩ := hR
  exact run_if (k := false) (t_not (k := true) (et_val (ed_call F1 hr (ea_cons (vr 0) ea_nil) ⟨m, rfl, hm, rfl⟩))) (fun q => nomatch q) (fun _ => run_skip (run_end rfl))
theorem fd_write (F : FnP K "write" s_write f fd) (F1 : Fd P w K mg base k "need_mask" ["mask"] (spR K R_need_mask)) (F2 : Fd P w K mg base k "need_row" ["row"] (spR K R_need_row)) : FnOk P w K mg base CX0 (k + 1) f fd ["mask", "row"] (spR K R_write) := by
  have sc : FnScope ["mask", "row"] ["mask", "row"] (defScope s_write) := ⟨rfl, rfl, rfl, by decide +kernel, rfl, by decide +kernel, by decide +kernel⟩
  refine fd_pure F sc _ (fun ds d ⟨_, _, e, _⟩ => by rw [e]; rfl) fun cdv A outer s H E hr W ds d hrow hR => ?_
  obtain ⟨m, l, rfl, hm, hl, rfl⟩ := hR
  have h1 := maskB_len hm
  have h2 := rowB_len hl
  refine run_expr (ed_call F1 hr (ea_cons (vr 0) ea_nil) ⟨m, rfl, hm, rfl⟩) (run_expr (ed_call F2 hr (ea_cons (vr 1) ea_nil) ⟨l, rfl, hl, rfl⟩) ?_)
  refine run_ret (P := fun z => z = sD (writeL m l)) (d := if decide (l = []) = true then sD m else sD (m ++ [32] ++ l)) (ed_if (k := decide (l = [])) (tc (vr 1) (ed_S []) c_eqS) (fun _ => vr 0) (fun _ => ed_op (ed_op (vr 0) (ed_S [32]) (o_adds (by show m.length + 1 ≤ _; omega))) (vr 1) (o_adds (by rw [List.length_append]; show m.length + 1 + l.length ≤ _; omega)))) ?_
  unfold writeL
  by_cases h : l = []
  · rw [if_pos (decide_eq_true h), if_pos h]
  · rw [if_neg (by simpa using h), if_neg h]
theorem fd_is_mask_t (F : FnP K "is_mask" s_is_mask f fd) (G : Gs mg) (gS : gSEEN mg) (gH : gHOLE mg) (gM : gMOST_MASK mg) : FnOk P w K mg base CX0 (k + 1) f fd ["value"] (spR K R_is_mask_t) := by
  have sc : FnScope ["value", "sign"] ["value"] (defScope s_is_mask) := ⟨rfl, rfl, rfl, by decide +kernel, rfl, by decide +kernel, by decide +kernel⟩
  refine fd_pure F sc _ (fun ds d ⟨m, e, _⟩ => by rw [e]; rfl) fun cdv A outer s H E hr W ds d hrow hR => ?_
  obtain ⟨m, rfl, hm, rfl⟩ := hR
  have em : maskB m = (decide (1 ≤ m.length) && decide (m.length ≤ 12) && m.all (fun c => decide (c ∈ [120, 46])) && decide (m[0]? = some 120) && decide (m.getLast? = some 120)) := rfl
  refine run_if (k := !(decide (1 ≤ m.length) && decide (m.length ≤ 12))) ((t_or (t_not (et_val (ed_isi (T := "str") (vr 0) G.isinstance G.str (by decide +kernel)))) fun _ => t_not (tc_chain ed_int (ed_callB G.len boot_len (ea_cons (vr 0) ea_nil) (c_lenS (by omega))) (fun _ => ed_gint gM) c_le c_le)).to ?_) (fun q => ?_) (fun q => run_skip ?_)
  · have e1 : decide ((1 : Int) ≤ ((m.length : Nat) : Int)) = decide (1 ≤ m.length) := decide_eq_decide.mpr (by omega)
    have e2 : decide (((m.length : Nat) : Int) ≤ (12 : Int)) = decide (m.length ≤ 12) := decide_eq_decide.mpr (by omega)
    rw [e1, e2]
    rfl
  · refine run_ret (d := .bool false) ed_bl ?_
    rw [em]
    rw [Bool.not_eq_true'] at q
    rw [q]
    rfl
  · rw [Bool.not_eq_false'] at q
    rw [q, Bool.true_and] at em
    rw [Bool.and_eq_true, decide_eq_true_eq, decide_eq_true_eq] at q
    obtain ⟨h1, h2⟩ := q
    obtain ⟨c0, hc0⟩ : ∃ c, m[0]? = some c := ⟨_, List.getElem?_eq_getElem (by omega)⟩
    obtain ⟨c1, hc1⟩ : ∃ c, m.getLast? = some c := by
      rw [List.getLast?_eq_getElem?]
      exact ⟨_, List.getElem?_eq_getElem (by omega)⟩
    rw [hc0, hc1] at em
    refine run_ret ((ed_and (k := m.all fun c => decide (c ∈ [120, 46])) (l := decide (c0 = 120) && decide (c1 = 120)) ((ed_callB G.all boot_all (ea_cons (lcN0 1 (it_str (vr 0)) (by omega) (fun c => .bool (decide (c ∈ [120, 46]))) (fun c hc W1 l s H C cl fp => ed_cmp (vr 1) (ed_op (ed_gS [120] gS) (ed_gS [46] gH) (o_adds (by decide))) c_inS) sc.nd |>.ed sc.nd) ea_nil) (c_all (bs := m.map fun c => decide (c ∈ [120, 46])) rfl |> fun z => by rw [List.map_map] at z; exact z)).to ?_)
      (fun _ => ed_and (k := decide (c0 = 120)) (l := decide (c1 = 120)) ((ed_cmp (ed_ix (vr 0) ed_int (i_str (n := 0) (by omega) hc0)) (ed_gS [120] gS) (c_eqS (l := [c0]))).to ?_) fun _ => ed_one ((ed_cmp (ed_ix (vr 0) (ed_neg ed_int) (i_strL (by omega) hc1)) (ed_gS [120] gS) (c_eqS (l := [c1]))).to ?_)))) ?_
    · rw [List.all_map]
      rfl
    · exact congrArg PyData.bool (decide_eq_decide.mpr (by simp))
    · exact congrArg PyData.bool (decide_eq_decide.mpr (by simp))
    · refine congrArg PyData.bool ?_
      rw [em, Bool.and_assoc]
      congr 2
      · exact decide_eq_decide.mpr (by simp)
      · exact decide_eq_decide.mpr (by simp)
theorem fd_is_row_t (F : FnP K "is_row" s_is_row f fd) (G : Gs mg) (gL : gLETTERS mg) (gR : gMOST_ROW mg) : FnOk P w K mg base CX0 (k + 1) f fd ["value"] (spR K R_is_row_t) := by
  have sc : FnScope ["value", "sign"] ["value"] (defScope s_is_row) := ⟨rfl, rfl, rfl, by decide +kernel, rfl, by decide +kernel, by decide +kernel⟩
  refine fd_pure F sc _ (fun ds d ⟨m, e, _⟩ => by rw [e]; rfl) fun cdv A outer s H E hr W ds d hrow hR => ?_
  obtain ⟨l, rfl, hl, rfl⟩ := hR
  refine run_ret (ed_and (k := true) (l := rowB l) (ed_isi (T := "str") (vr 0) G.isinstance G.str (by decide +kernel)) fun _ => ed_and (k := decide (l.length ≤ 60)) (l := l.all fun c => decide (c ∈ [97, 98, 99, 100])) ((ed_cmp (ed_callB G.len boot_len (ea_cons (vr 0) ea_nil) (c_lenS (by omega))) (ed_gint gR) c_le).to ?_) fun _ => ed_one ((ed_callB G.all boot_all (ea_cons (lcN0 1 (it_str (vr 0)) (by omega) (fun c => .bool (decide (c ∈ [97, 98, 99, 100]))) (fun c hc W1 l s H C cl fp => ed_cmp (vr 1) (ed_gS [97, 98, 99, 100] gL) c_inS) sc.nd |>.ed sc.nd) ea_nil) (c_all (bs := l.map fun c => decide (c ∈ [97, 98, 99, 100])) rfl |> fun z => by rw [List.map_map] at z; exact z)).to ?_)) rfl
  · exact congrArg PyData.bool (decide_eq_decide.mpr (by omega))
  · rw [List.all_map]
    rfl
theorem fd_read (F : FnP K "read" s_read f fd) (G : Gs mg) (F1 : Fd P w K mg base k "is_mask" ["value"] (spR K R_is_mask_t)) (F2 : Fd P w K mg base k "is_row" ["value"] (spR K R_is_row_t)) : FnOk P w K mg base CX0 (k + 1) f fd ["text"] (spR K R_read) := by
  have sc : FnScope ["text", "words", "word"] ["text"] (defScope s_read) := ⟨rfl, rfl, rfl, by decide +kernel, rfl, by decide +kernel, by decide +kernel⟩
  refine fd_pure F sc _ (fun ds d ⟨_, e, _⟩ => by rw [e]; rfl) fun cdv A outer s H E hr W ds d hrow hR => ?_
  obtain ⟨t, rfl, ht, h128, hw, rfl⟩ := hR
  have hu := hr.units
  have hsl := spl_len t
  have hws : ∀ p ∈ wordsL t, p.length ≤ 3000 ∧ ∀ c ∈ p, c < 128 := fun p hp => by
    obtain ⟨z1, z2⟩ := words_small (List.mem_filter.mp hp).1
    exact ⟨by omega, fun c hc => h128 c (z2 c hc)⟩
  refine run_setLc (ys := (wordsL t).map sD) 1 (lcN1 2 (it_list (xs := spl t) (enc := sD) (ed_split (vr 0) (ed_S [32]) (by decide) (by rw [SX.S_len, sizeLine_eq]; omega)) (by rw [split_spl, List.map_map]; rfl)) (by omega) (fun v => !decide (v = [])) sD (fun v hv W2 lw2 s2 H2 C2 cl2 fp2 => tc (vr 2) (ed_S []) c_neS) (fun v hv hc W2 lw2 s2 H2 C2 cl2 fp2 => vr 2) sc.nd) ?_ sc.nd
  generalize wordsL t = ws at hw hws ⊢
  have hsh : Shp 1 (.list (ws.map sD)) := shp_w fun v hv => (hws v hv).2
  match ws, hw, hws, hsh with
  | [m], hw, hws, hsh =>
    have hm : maskB m = true := Classical.byContradiction fun h => by rw [wrong_bad _ h] at hw; cases hw
    refine run_if (k := false) (t_or (k := false) (l := false) ((tc (vr 1) (ed_lst ea_nil (by decide)) (c_eqNil hu hsh)).to rfl) (fun _ => t_not (k := true) (et_val ((ed_call F1 hr (ea_cons (ed_ix (vr 1) ed_int (i_list (n := 0) rfl)) ea_nil) ⟨m, rfl, by have := (hws m List.mem_cons_self).1; omega, rfl⟩).to (congrArg PyData.bool hm))))) (fun q => nomatch q) (fun _ => run_skip ?_)
    refine run_if (k := false) (t_and (k := false) (l := false) ((tc (lenL G (vr 1)) ed_int c_gt).to rfl) (fun q => nomatch q)) (fun q => nomatch q) (fun _ => run_skip ?_)
    refine run_if (k := false) ((tc (lenL G (vr 1)) ed_int c_gt).to rfl) (fun q => nomatch q) (fun _ => run_skip ?_)
    exact run_ret (ed_tup (ea_cons (ed_ix (vr 1) ed_int (i_list (n := 0) rfl)) (ea_cons (ed_if (k := false) (x := .none) ((tc (lenL G (vr 1)) ed_int c_gt).to rfl) (fun q => nomatch q) (fun _ => ed_S [])) ea_nil)) (by simp)) rfl
  | [m, r], hw, hws, hsh =>
    have hm1 : maskB m = true := Classical.byContradiction fun h => by rw [wrong_bad _ h] at hw; cases hw
    have hm : maskB m = true ∧ rowB r = true := ⟨hm1, Classical.byContradiction fun h => by rw [wrong_more, if_pos hm1, if_neg h] at hw; cases hw⟩
    refine run_if (k := false) (t_or (k := false) (l := false) ((tc (vr 1) (ed_lst ea_nil (by decide)) (c_eqNil hu hsh)).to rfl) (fun _ => t_not (k := true) (et_val ((ed_call F1 hr (ea_cons (ed_ix (vr 1) ed_int (i_list (n := 0) rfl)) ea_nil) ⟨m, rfl, by have := (hws m List.mem_cons_self).1; omega, rfl⟩).to (congrArg PyData.bool hm.1))))) (fun q => nomatch q) (fun _ => run_skip ?_)
    refine run_if (k := false) (t_and (k := true) (l := false) ((tc (lenL G (vr 1)) ed_int c_gt).to rfl) (fun _ => t_not (k := true) (et_val ((ed_call F2 hr (ea_cons (ed_ix (vr 1) ed_int (i_list (n := 1) rfl)) ea_nil) ⟨r, rfl, by have := (hws r (List.mem_cons_of_mem _ List.mem_cons_self)).1; omega, rfl⟩).to (congrArg PyData.bool hm.2))))) (fun q => nomatch q) (fun _ => run_skip ?_)
    refine run_if (k := false) ((tc (lenL G (vr 1)) ed_int c_gt).to rfl) (fun q => nomatch q) (fun _ => run_skip ?_)
    exact run_ret (ed_tup (ea_cons (ed_ix (vr 1) ed_int (i_list (n := 0) rfl)) (ea_cons (ed_if (k := true) (y := .none) ((tc (lenL G (vr 1)) ed_int c_gt).to rfl) (fun _ => ed_ix (vr 1) ed_int (i_list (n := 1) rfl)) (fun q => nomatch q)) ea_nil)) (by simp)) rfl
  | m :: r :: q :: z, hw, hws, hsh =>
    exfalso
    have hm1 : maskB m = true := Classical.byContradiction fun h => by rw [wrong_bad _ h] at hw; cases hw
    rw [wrong_more, if_pos hm1] at hw
    by_cases h : rowB r = true
    · rw [if_pos h, if_neg (by simp)] at hw; cases hw
    · rw [if_neg h] at hw; cases hw
theorem fx_read (F : FnP K "read" s_read f fd) (G : Gs mg) (F1 : Fd P w K mg base (k + 1) "is_mask" ["value"] (spR K R_is_mask_t)) (F2 : Fd P w K mg base (k + 1) "is_row" ["value"] (spR K R_is_row_t)) (E1 : Ex1 P w K mg base k "InvalidText" "word") : FnOk P w K mg base (L2.CX P w) (k + 2) f fd ["text"] (spX K X_read) := by
  have sc : FnScope ["text", "words", "word"] ["text"] (defScope s_read) := ⟨rfl, rfl, rfl, by decide +kernel, rfl, by decide +kernel, by decide +kernel⟩
  refine fd_exc F sc _ (fun ds x fo ⟨_, _, e, _⟩ => by rw [e]; rfl) fun cdv A outer s H E hr W ds x fo hrow hR hw0 => ?_
  obtain ⟨t, n, rfl, ht, h128, hw, rfl, rfl⟩ := hR
  have hu := hr.units
  have hsl := spl_len t
  have hws : ∀ p ∈ wordsL t, p.length ≤ 3000 ∧ ∀ c ∈ p, c < 128 := fun p hp => by
    obtain ⟨z1, z2⟩ := words_small (List.mem_filter.mp hp).1
    exact ⟨by omega, fun c hc => h128 c (z2 c hc)⟩
  refine run_setLc (ys := (wordsL t).map sD) 1 (lcN1 2 (it_list (xs := spl t) (enc := sD) (ed_split (vr 0) (ed_S [32]) (by decide) (by rw [SX.S_len, sizeLine_eq]; omega)) (by rw [split_spl, List.map_map]; rfl)) (by omega) (fun v => !decide (v = [])) sD (fun v hv W2 lw2 s2 H2 C2 cl2 fp2 => tc (vr 2) (ed_S []) c_neS) (fun v hv hc W2 lw2 s2 H2 C2 cl2 fp2 => vr 2) sc.nd) ?_ sc.nd
  generalize wordsL t = ws at hw hws ⊢
  have hsh : Shp 1 (.list (ws.map sD)) := shp_w fun v hv => (hws v hv).2
  match ws, hw, hws, hsh with
  | [], hw, hws, hsh =>
    obtain rfl : n = 1 := (Option.some.inj hw).symm
    refine run_if (k := true) (t_or (k := true) (l := false) ((tc (vr 1) (ed_lst ea_nil (by decide)) (c_eqNil hu hsh)).to rfl) (fun q => nomatch q)) (fun _ => ?_) (fun q => nomatch q)
    exact run_raise1 E1 hr (takes_of rfl rfl rfl rfl) ed_int fun σ H1 R1 cls d H' xo => hw0 σ H1 _ _ R1 cls d H' xo
  | m :: zs, hw, hws, hsh =>
    have hml := (hws m List.mem_cons_self).1
    by_cases hm : maskB m = true
    · refine run_if (k := false) (t_or (k := false) (l := false) ((tc (vr 1) (ed_lst ea_nil (by decide)) (c_eqNil hu hsh)).to rfl) (fun _ => t_not (k := true) (et_val ((ed_call F1 hr (ea_cons (ed_ix (vr 1) ed_int (i_list (n := 0) rfl)) ea_nil) ⟨m, rfl, by omega, rfl⟩).to (congrArg PyData.bool hm))))) (fun q => nomatch q) (fun _ => run_skip ?_)
      match zs, hw, hws, hsh with
      | [], hw, hws, hsh =>
        rw [wrong_one, if_pos hm] at hw
        cases hw
      | r :: q, hw, hws, hsh =>
        have hrl := (hws r (List.mem_cons_of_mem _ List.mem_cons_self)).1
        rw [wrong_more, if_pos hm] at hw
        by_cases hb : rowB r = true
        · rw [if_pos hb] at hw
          refine run_if (k := false) (t_and (k := true) (l := false) ((tc (lenL G (vr 1)) ed_int c_gt).to (decide_eq_true (by simp; omega))) (fun _ => t_not (k := true) (et_val ((ed_call F2 hr (ea_cons (ed_ix (vr 1) ed_int (i_list (n := 1) rfl)) ea_nil) ⟨r, rfl, by omega, rfl⟩).to (congrArg PyData.bool hb))))) (fun q => nomatch q) (fun _ => run_skip ?_)
          cases q with
          | nil => rw [if_pos rfl] at hw; cases hw
          | cons z y =>
            rw [if_neg (by simp)] at hw
            obtain rfl : n = 3 := (Option.some.inj hw).symm
            refine run_if (k := true) ((tc (lenL G (vr 1)) ed_int c_gt).to (decide_eq_true (by simp; omega))) (fun _ => ?_) (fun q => nomatch q)
            exact run_raise1 E1 hr (takes_of rfl rfl rfl rfl) ed_int fun σ H1 R1 cls d H' xo => hw0 σ H1 _ _ R1 cls d H' xo
        · rw [if_neg hb] at hw
          obtain rfl : n = 2 := (Option.some.inj hw).symm
          refine run_if (k := true) (t_and (k := true) (l := true) ((tc (lenL G (vr 1)) ed_int c_gt).to (decide_eq_true (by simp; omega))) (fun _ => t_not (k := false) (et_val ((ed_call F2 hr (ea_cons (ed_ix (vr 1) ed_int (i_list (n := 1) rfl)) ea_nil) ⟨r, rfl, by omega, rfl⟩).to (congrArg PyData.bool (by simpa using hb)))))) (fun _ => ?_) (fun q => nomatch q)
          exact run_raise1 E1 hr (takes_of rfl rfl rfl rfl) ed_int fun σ H1 R1 cls d H' xo => hw0 σ H1 _ _ R1 cls d H' xo
    · have hw1 : n = 1 := by
        rw [wrong_bad _ hm] at hw
        exact (Option.some.inj hw).symm
      subst hw1
      refine run_if (k := true) (t_or (k := false) (l := true) ((tc (vr 1) (ed_lst ea_nil (by decide)) (c_eqNil hu hsh)).to rfl) (fun _ => t_not (k := false) (et_val ((ed_call F1 hr (ea_cons (ed_ix (vr 1) ed_int (i_list (n := 0) rfl)) ea_nil) ⟨m, rfl, by omega, rfl⟩).to (congrArg PyData.bool (by simpa using hm)))))) (fun _ => ?_) (fun q => nomatch q)
      exact run_raise1 E1 hr (takes_of rfl rfl rfl rfl) ed_int fun σ H1 R1 cls d H' xo => hw0 σ H1 _ _ R1 cls d H' xo
theorem fd_law_refused23 (F : FnP K "_law_refused" s__law_refused f fd) (X0 : ExF K mg "InvalidText") (hno : PySem.W.findIn K (.ref (He.ga K "InvalidText")) "word" = some none) (m0 : PySem.W.exmOne K (.ref (He.ga K "InvalidText")) (.ref (He.ga K "InvalidText")) = some true) (F1 : Fd P w K mg base k "read" ["text"] (spR K R_read)) (FX : FdX P w K mg base k "read" ["text"] X_read) : FnOk P w K mg base CX0 (k + 1) f fd ["_law_text"] (spR K R_refused23) := by
  have sc : FnScope ["_law_text", "_law_found", "e"] ["_law_text"] (defScope s__law_refused) := ⟨rfl, rfl, rfl, by decide +kernel, rfl, by decide +kernel, by decide +kernel⟩
  refine fd_pure F sc _ (fun ds d ⟨_, e, _⟩ => by rw [e]; rfl) fun cdv A outer s H E hr W ds d hrow hR => ?_
  obtain ⟨t, rfl, ht, h128, rfl⟩ := hR
  refine run_set (d := .none) 1 ed_non ?_ sc.nd
  cases hw : wrongN (wordsL t) with
  | none =>
    refine run_tryN (run_expr (ed_call F1 hr (ea_cons (vr 0) ea_nil) ⟨t, rfl, ht, h128, hw, rfl⟩) (run_skip ?_))
    exact run_ret (vr 1) rfl
  | some n =>
    exact run_tryP (xr := "InvalidText") (fo := some (("word" : Str), nn n)) (o := some 2) 1 (.named (i := 2) ⟨rfl, by decide, .inl X0.g⟩ m0 rfl rfl) (by decide) (fun pn xe Wx t2 hp hw2 => run_exprX (ed_callX FX hr t2 (ea_cons (vr 0) ea_nil) ⟨t, n, rfl, ht, h128, hw, rfl, rfl⟩ hw2)) (fun W1 a oe pn cls d cg => ed_xf 2 X0 hno cg) (run_ret (vr 1) rfl) sc.nd
theorem fd_law_wrong (F : FnP K "_law_wrong" s__law_wrong f fd) (G : Gs mg) : FnOk P w K mg base CX0 (k + 1) f fd ["_law_words"] (spR K R_law_wrong) := by
  have sc : FnScope ["_law_words", "_law_sign"] ["_law_words"] (defScope s__law_wrong) := ⟨rfl, rfl, rfl, by decide +kernel, rfl, by decide +kernel, by decide +kernel⟩
  refine fd_pure F sc _ (fun ds d ⟨_, e, _⟩ => by rw [e]; rfl) fun cdv A outer s H E hr W ds d hrow hR => ?_
  obtain ⟨ws, rfl, hwl, hw, rfl⟩ := hR
  have hu := hr.units
  have hsh : Shp 1 (.list (ws.map sD)) := shp_w fun v hv => (hw v hv).2.2
  match ws, hwl, hw, hsh with
  | [], hwl, hw, hsh =>
    exact run_if (k := true) ((tw_or (k := true) (l := false) ((tc (vr 0) (ed_lst ea_nil (by decide)) (c_eqNil hu hsh)).to rfl) fun q => nomatch q).t) (fun _ => run_ret (d := .int 1) ed_int rfl) (fun q => nomatch q)
  | m :: zs, hwl, hw, hsh =>
    obtain ⟨hm0, hml, hm128⟩ := hw m List.mem_cons_self
    have hm1 : 1 ≤ m.length := List.length_pos_iff.mpr hm0
    have hal : (m.map fun c => decide (c ∈ [46, 120])).all id = m.all fun c => decide (c ∈ [46, 120]) := by
      rw [List.all_map]
      rfl
    have bad : ¬ maskB m = true → ∀ d : PyData, d = .int 1 → d = optN (wrongN (m :: zs)) := fun h d e => by rw [wrong_bad _ h, e]; rfl
    refine run_if (k := !(decide (m.length ≤ 12) && m.all fun c => decide (c ∈ [46, 120]))) ((tw_or (k := false) ((tc (vr 0) (ed_lst ea_nil (by decide)) (c_eqNil hu hsh)).to rfl) fun _ => tw_or (t_not (tc_chain ed_int (lenS G (ed_ix (vr 0) ed_int (i_list (n := 0) rfl))) (fun _ => ed_int) c_le c_le)) fun _ => tw_or1 (t_not (et_val ((ed_callB G.all boot_all (ea_cons (lcN0 1 (it_str (ed_ix (vr 0) ed_int (i_list (n := 0) rfl))) (by omega) (fun c => .bool (decide (c ∈ [46, 120]))) (fun c hc W1 l s H C cl fp => ed_cmp (vr 1) (ed_S [46, 120]) c_inS) sc.nd |>.ed sc.nd) ea_nil) (c_all (bs := m.map fun c => decide (c ∈ [46, 120])) rfl |> fun z => by rw [List.map_map] at z; exact z)).to (congrArg PyData.bool hal))))).t.to ?hc) (fun q => ?hy) (fun q => run_skip ?_)
    case hc =>
      have e1 : decide ((1 : Int) ≤ ((m.length : Nat) : Int)) = true := decide_eq_true (by omega)
      have e2 : decide (((m.length : Nat) : Int) ≤ (12 : Int)) = decide (m.length ≤ 12) := decide_eq_decide.mpr (by omega)
      rw [e1, e2]
      cases decide (m.length ≤ 12) <;> cases (m.all fun c => decide (c ∈ [46, 120])) <;> rfl
    case hy =>
      refine run_ret (P := fun z => z = optN (wrongN (m :: zs))) (d := .int 1) ed_int (bad (fun h => ?_) _ rfl)
      obtain ⟨_, h2, h3, _⟩ := maskB_iff.mp h
      have z1 : (m.all fun c => decide (c ∈ [46, 120])) = true := List.all_eq_true.mpr fun c hc => decide_eq_true (by
        rcases h3 c hc with e | e <;> simp [e])
      rw [z1, decide_eq_true h2] at q
      cases q
    have q2 : decide (m.length ≤ 12) = true ∧ (m.all fun c => decide (c ∈ [46, 120])) = true := by simpa using q
    obtain ⟨h12, hsg⟩ := q2
    have h12 := of_decide_eq_true h12
    have hsg2 : ∀ c ∈ m, c = 120 ∨ c = 46 := fun c hc => by
      have := of_decide_eq_true (List.all_eq_true.mp hsg c hc)
      simp at this
      omega
    obtain ⟨c0, hc0⟩ : ∃ c, m[0]? = some c := ⟨_, List.getElem?_eq_getElem (by omega)⟩
    obtain ⟨c1, hc1⟩ : ∃ c, m.getLast? = some c := by
      rw [List.getLast?_eq_getElem?]
      exact ⟨_, List.getElem?_eq_getElem (by omega)⟩
    have em : maskB m = (decide (c0 = 120) && decide (c1 = 120)) := by
      have z : maskB m = true ↔ (decide (c0 = 120) && decide (c1 = 120)) = true := by
        rw [maskB_iff, Bool.and_eq_true, decide_eq_true_eq, decide_eq_true_eq, hc0, hc1]
        exact ⟨fun ⟨_, _, _, a, b⟩ => ⟨Option.some.inj a, Option.some.inj b⟩, fun ⟨a, b⟩ => ⟨hm1, h12, hsg2, by rw [a], by rw [b]⟩⟩
      exact Bool.eq_iff_iff.mpr z
    refine run_if (k := !maskB m) ((t_or (tc (ed_ix (ed_ix (vr 0) ed_int (i_list (n := 0) rfl)) ed_int (i_str (n := 0) (by omega) hc0)) (ed_S [120]) (c_neS (l := [c0]) (m := [120]))) fun _ => tc (ed_ix (ed_ix (vr 0) ed_int (i_list (n := 0) rfl)) (ed_neg ed_int) (i_strL (by omega) hc1)) (ed_S [120]) (c_neS (l := [c1]) (m := [120]))).to ?hc2) (fun q => ?hy2) (fun q => run_skip ?_)
    case hc2 =>
      rw [em]
      have e1 : decide ([c0] = [120]) = decide (c0 = 120) := decide_eq_decide.mpr (by simp)
      have e2 : decide ([c1] = [120]) = decide (c1 = 120) := decide_eq_decide.mpr (by simp)
      rw [e1, e2, Bool.not_and]
    case hy2 => exact run_ret (P := fun z => z = optN (wrongN (m :: zs))) (d := .int 1) ed_int (bad (fun h => by rw [h] at q; cases q) _ rfl)
    have hm : maskB m = true := by simpa using q
    match zs, hwl, hw, hsh with
    | [], hwl, hw, hsh =>
      refine run_if (k := false) (t_and (k := false) (l := false) ((tc (lenL G (vr 0)) ed_int c_gt).to rfl) (fun q => nomatch q)) (fun q => nomatch q) (fun _ => run_skip ?_)
      refine run_ret (P := fun z => z = optN (wrongN [m])) (d := .none) (ed_if (k := false) (x := .none) (y := .none) ((tc (lenL G (vr 0)) ed_int c_gt).to rfl) (fun q => nomatch q) (fun _ => ed_non)) ?_
      rw [wrong_one, if_pos hm]
      rfl
    | r :: t, hwl, hw, hsh =>
      obtain ⟨hr0, hrl, _⟩ := hw r (List.mem_cons_of_mem _ List.mem_cons_self)
      have hal2 : (r.map fun c => decide (c ∈ [97, 98, 99, 100])).all id = r.all fun c => decide (c ∈ [97, 98, 99, 100]) := by
        rw [List.all_map]
        rfl
      have er : rowB r = (decide (r.length ≤ 60) && r.all fun c => decide (c ∈ [97, 98, 99, 100])) := rfl
      refine run_if (k := !rowB r) ((t_and (k := true) ((tc (lenL G (vr 0)) ed_int c_gt).to (decide_eq_true (by simp; omega))) fun _ => t_or (tc (lenS G (ed_ix (vr 0) ed_int (i_list (n := 1) rfl))) ed_int c_gt) fun _ => t_not (et_val ((ed_callB G.all boot_all (ea_cons (lcN0 1 (it_str (ed_ix (vr 0) ed_int (i_list (n := 1) rfl))) (by omega) (fun c => .bool (decide (c ∈ [97, 98, 99, 100]))) (fun c hc W1 l s H C cl fp => ed_cmp (vr 1) (ed_S [97, 98, 99, 100]) c_inS) sc.nd |>.ed sc.nd) ea_nil) (c_all (bs := r.map fun c => decide (c ∈ [97, 98, 99, 100])) rfl |> fun z => by rw [List.map_map] at z; exact z)).to (congrArg PyData.bool hal2)))).to ?hc3) (fun q => ?hy3) (fun q => run_skip ?_)
      case hc3 =>
        have e1 : decide ((60 : Int) < ((r.length : Nat) : Int)) = !decide (r.length ≤ 60) := by
          by_cases h : r.length ≤ 60
          · rw [decide_eq_true h, decide_eq_false (by omega)]; rfl
          · rw [decide_eq_false h, decide_eq_true (by omega)]; rfl
        rw [e1, er]
        cases decide (r.length ≤ 60) <;> cases (r.all fun c => decide (c ∈ [97, 98, 99, 100])) <;> rfl
      case hy3 =>
        have h : ¬ rowB r = true := fun h => by rw [h] at q; cases q
        refine run_ret (P := fun z => z = optN (wrongN (m :: r :: t))) (d := .int 2) ed_int ?_
        rw [wrong_more, if_pos hm, if_neg h]
        rfl
      have hb : rowB r = true := by simpa using q
      refine run_ret (P := fun z => z = optN (wrongN (m :: r :: t))) (d := if decide (t ≠ []) = true then .int 3 else .none) (ed_if (k := decide (t ≠ [])) (x := .int 3) (y := .none) ((tc (lenL G (vr 0)) ed_int c_gt).to ?hc4) (fun _ => ed_int) (fun _ => ed_non)) ?_
      case hc4 => exact decide_eq_decide.mpr (by cases t <;> simp; omega)
      rw [wrong_more, if_pos hm, if_pos hb]
      cases t <;> rfl
end
end HW
set_option maxHeartbeats 4000000
namespace HW
open PySem PySem.Spec PyProof.Rows L2 Tx
open SX (S)
section
variable {P : Program} {w : World} {K : PySem.W.Frag} {mg : Str → Option Value} {base : Heap} {f : Addr} {fd : FuncData} {k : Nat}
theorem wk_setN : ∀ {Γ Δ : List DV} (k : Nat) {x : DV}, wk Γ Δ → Δ[k]? = some .no → wk (Γ.set k x) Δ
  | [], [], k, x, h, e => by simp at e
  | a :: as, b :: bs, 0, x, h, e => by
    have e2 : b = .no := by simpa using e
    exact ⟨.inl e2, h.2⟩
  | a :: as, b :: bs, k + 1, x, h, e => ⟨h.1, wk_setN k h.2 (by simpa using e)⟩
  | [], _ :: _, _, _, h, _ => h.elim
  | _ :: _, [], _, _, h, _ => h.elim
theorem fd_the_law (F : FnP K "law" s_law f fd) (G : Gs mg) (F0 : DRAW P w K mg base k) (F1 : Fd P w K mg base k "_law_mask" ["_law_row", "_law_width"] (spW K pre_mask post_mask)) (F2 : Fd P w K mg base k "_law_line" ["_law_row", "_law_most", "_law_letters"] (spW K pre_line post_line)) (F3 : Fd P w K mg base k "write" ["mask", "row"] (spR K R_write)) (F4 : Fd P w K mg base k "read" ["text"] (spR K R_read))
    (F5 : Fd P w K mg base k "_law_refused" ["_law_text"] (spR K R_refused23)) (F6 : Fd P w K mg base k "_law_wrong" ["_law_words"] (spR K R_law_wrong)) : FnOk P w K mg base CX0 (k + 1) f fd ["_law_script"] (spLaw K) := by
  have sc : FnScope ["_law_script", "_law_row", "_law_odd", "_law_turn", "_law_mask_here", "_law_line_here", "_law_text", "_law_words", "_law_k", "_law_at", "_law_kind", "_law_more", "_law_word"] ["_law_script"] (defScope s_law) := ⟨rfl, rfl, rfl, by decide +kernel, rfl, by decide +kernel, by decide +kernel⟩
  refine fd_law (rest := (defBody s_law).drop 1) F sc rfl rfl (h := fun cdv A outer s H E hr W r scr ns hrow => ?_)
  have hu := hr.units
  obtain ⟨O, hO⟩ : ∃ O : List PyData, O = [sD [120], sD [120, 46, 120], sD [120, 46], sD [46], sD [97, 98], sD [97, 98, 101], sD (List.replicate 60 97), sD (List.replicate 61 97), sD (List.replicate 12 120), sD (List.replicate 13 120), sD [88], sD [65], sD [63], sD [120, 63, 120]] := ⟨_, rfl⟩
  have hOw : O = oddW.map sD := by rw [hO]; rfl
  refine run_set (d := .list O) 2 ?he ?hr ?hN
  case hN => exact sc.nd
  case he =>
    rw [hO]
    refine ed_lst ?_ ?_
    · refine ea_cons ?_ ?_
      · exact ed_S [120]
      refine ea_cons ?_ ?_
      · exact ed_S [120, 46, 120]
      refine ea_cons ?_ ?_
      · exact ed_S [120, 46]
      refine ea_cons ?_ ?_
      · exact ed_S [46]
      refine ea_cons ?_ ?_
      · exact ed_S [97, 98]
      refine ea_cons ?_ ?_
      · exact ed_S [97, 98, 101]
      refine ea_cons ?_ ?_
      · refine Ed.to (ed_op (ed_S [97]) ed_int (o_mulZ (l := [97]) (n := 60) ?_ ?_)) ?_
        · show 1 * 60 ≤ _; decide
        · decide
        · rw [rep_one]
      refine ea_cons ?_ ?_
      · refine Ed.to (ed_op (ed_S [97]) ed_int (o_mulZ (l := [97]) (n := 61) ?_ ?_)) ?_
        · show 1 * 61 ≤ _; decide
        · decide
        · rw [rep_one]
      refine ea_cons ?_ ?_
      · refine Ed.to (ed_op (ed_S [120]) ed_int (o_mulZ (l := [120]) (n := 12) ?_ ?_)) ?_
        · show 1 * 12 ≤ _; decide
        · decide
        · rw [rep_one]
      refine ea_cons ?_ ?_
      · refine Ed.to (ed_op (ed_S [120]) ed_int (o_mulZ (l := [120]) (n := 13) ?_ ?_)) ?_
        · show 1 * 13 ≤ _; decide
        · decide
        · rw [rep_one]
      refine ea_cons ?_ ?_
      · exact ed_S [88]
      refine ea_cons ?_ ?_
      · exact ed_S [65]
      refine ea_cons ?_ ?_
      · exact ed_S [63]
      refine ea_cons ?_ ?_
      · exact ed_S [120, 63, 120]
      exact ea_nil
    · show 14 ≤ 1000; decide
  rw [hOw]
  clear hO hOw
  refine run_forS 3 (it_range (n := 8) ed_int G.range) (fun i => [.no, .r r, .d (wD oddW), .no, .no, .no, .no, .no, .no, .no, .no, .no, .no]) (fun _ => []) (fun W1 lw i x hx => ?_) ?_ sc.nd
  · have hrow1 := lw.row.trans hrow
    refine run_parP (As := fun ds => ∃ m l : List Nat, ds = [sD m, sD l] ∧ maskB m = true ∧ rowB l = true) 4 5 ?ha (fun ds ⟨m, l, e, hm, hl⟩ => ⟨_, _, e, ?_⟩) sc.nd
    case ha =>
      refine EvA.imp (eva_cons (ev_lmask 12 F1 hr hrow1 1 (ed_int.evP ⟨12, rfl, by decide, by decide⟩)) (eva_cons (ev_lline 60 4 F2 hr hrow1 1 (Ev.imp (ev_pick [nn 5, nn 60] (ed_lst (ea_cons ed_int (ea_cons ed_int ea_nil)) (by show 2 ≤ 1000; decide)) (ev_takenN 2 F0 hr hrow1 1 ed_int rfl)) ?hp) (ed_int.evP ⟨4, rfl, by decide, by decide⟩)) eva_nil)) ?hi
      case hp =>
        intro z hz
        simp only [List.mem_cons, List.not_mem_nil, or_false] at hz
        rcases hz with e | e
        · exact ⟨5, e, by decide⟩
        · exact ⟨60, e, by decide⟩
      case hi =>
        rintro ds ⟨x, r1, e, ⟨m, em, hm, _⟩, y, r2, e2, ⟨l, el, hl, hlow⟩, e3⟩
        exact ⟨m, l, by rw [e, em, e2, el, e3], hm, rowB_of (by omega) fun c hc => by have := hlow c hc; omega⟩
    have hml := maskB_len hm
    have hll := rowB_len hl
    obtain ⟨p1, p2, p3⟩ := pairW_ok hm hl
    have l128 : ∀ c ∈ l, c < 128 := rowB_low hl
    have m128 : ∀ c ∈ m, c < 128 := mask_128 hm
    have t128 : (writeL m l).length ≤ 73 ∧ ∀ c ∈ writeL m l, c < 128 := by
      unfold writeL
      by_cases h : l = []
      · rw [if_pos h]; exact ⟨by omega, m128⟩
      · rw [if_neg h]
        refine ⟨by simp; omega, fun c hc => ?_⟩
        rcases List.mem_append.mp hc with hc | hc
        · rcases List.mem_append.mp hc with hc | hc
          · exact m128 c hc
          · rw [List.mem_singleton.mp hc]; decide
        · exact l128 c hc
    have shp2 : Shp 1 (pr2 (sD m) (sD l)) := Shp.tup fun x hx => by
      simp only [List.mem_cons, List.not_mem_nil, or_false] at hx
      rcases hx with e | e <;> rw [e]
      · exact Shp.str m128
      · exact Shp.str l128
    refine run_set (d := sD (writeL m l)) 6 ((ed_if (k := !decide (l = [])) (x := sD (m ++ [32] ++ l)) (y := sD m) (tc (vr 5) (ed_S []) c_neS) (fun _ => ed_op (ed_op (vr 4) (ed_S [32]) (o_adds (by show m.length + 1 ≤ _; omega))) (vr 5) (o_adds (by rw [List.length_append]; show m.length + 1 + l.length ≤ _; omega))) (fun _ => vr 4)).to ?hy) ?_ sc.nd
    case hy =>
      unfold writeL
      by_cases h : l = []
      · rw [if_pos h, if_neg (by simp [h])]
      · rw [if_neg h, if_pos (by simpa using h)]
    refine run_if (k := false) (t_or (k := false) (l := false) (tc (ed_call F3 hr (ea_cons (vr 4) (ea_cons (vr 5) ea_nil)) ⟨m, l, rfl, hm, hl, rfl⟩) (vr 6) (c_neSame hu (Shp.str t128.2))) fun _ => tc ((ed_call F4 hr (ea_cons (vr 6) ea_nil) ⟨_, rfl, by omega, t128.2, by rw [words_write hm hl]; exact p1, rfl⟩).to (by rw [words_write hm hl, p2, p3])) (ed_tup (ea_cons (vr 4) (ea_cons (vr 5) ea_nil)) (by simp)) (c_neSame hu shp2)) (fun e => nomatch e) (fun _ => run_skip ?_)
    refine run_if (k := false) (tc (op := .NotEq) (x := pr2 (sD m) (sD l)) (Ev.ed (ev_call (A := fun ds => ∃ q : Nat, ds = [sD ([32, 32] ++ m ++ [32, 32, 32] ++ l ++ List.replicate q 32)] ∧ q < 3) F4 hr (EvA.imp (eva_cons (ev_op (A := fun z => z = sD ([32, 32] ++ m ++ [32, 32, 32] ++ l)) (B := fun z => ∃ q : Nat, z = sD (List.replicate q 32) ∧ q < 3) (C := fun z => ∃ q : Nat, z = sD ([32, 32] ++ m ++ [32, 32, 32] ++ l ++ List.replicate q 32) ∧ q < 3) (Ed.ev (ed_op (ed_op (ed_op (ed_S [32, 32]) (vr 4) (o_adds (by show 2 + m.length ≤ _; omega))) (ed_S [32, 32, 32]) (o_adds (by simp; omega))) (vr 5) (o_adds (by simp; omega)))) (ev_op (ed_S [32]).ev (ev_takenN 3 F0 hr hrow1 1 ed_int rfl) ?hmul) ?hadd) eva_nil) ?hi2) ?hR2)) (ed_tup (ea_cons (vr 4) (ea_cons (vr 5) ea_nil)) (by simp)) (c_neSame hu shp2)) (fun e => nomatch e) (fun _ => run_skip ?_)
    case hmul =>
      rintro x y rfl ⟨q, rfl, hq⟩
      exact ⟨_, ⟨q, by rw [← rep_one], hq⟩, o_mulZ (l := [32]) (by simp; omega) (by omega)⟩
    case hadd =>
      rintro x y rfl ⟨q, rfl, hq⟩
      exact ⟨_, ⟨q, rfl, hq⟩, o_adds (by simp; omega)⟩
    case hi2 =>
      rintro ds ⟨x, r1, e, ⟨q, eq, hq⟩, e2⟩
      exact ⟨q, by rw [e, eq, e2], hq⟩
    case hR2 =>
      rintro ds ⟨q, rfl, hq⟩
      refine ⟨_, ⟨_, rfl, by simp; omega, fun c hc => ?_, by rw [words_pad q hm hl]; exact p1, rfl⟩, by rw [words_pad q hm hl, p2, p3]⟩
      simp only [List.mem_append, List.mem_cons, List.not_mem_nil, or_false, List.mem_replicate] at hc
      rcases hc with ((((e | e) | hc) | (e | e | e)) | hc) | ⟨_, e⟩
      · omega
      · omega
      · exact m128 c hc
      · omega
      · omega
      · omega
      · exact l128 c hc
      · omega
    refine run_setLcP 7 (lcN1 12 (it_list (xs := [m, l]) (enc := sD) (ed_lst (ea_cons (vr 4) (ea_cons (vr 5) ea_nil)) (by simp)) rfl) (by simp) (fun v => !decide (v = [])) sD (fun v hv W2 lw2 s2 H2 C2 cl2 fp2 => tc (vr 12) (ed_S []) c_neS) (fun v hv hc W2 lw2 s2 H2 C2 cl2 fp2 => vr 12) sc.nd) (fun ys ey => ?_) sc.nd
    have hw0 : (∀ x ∈ [m, l].filter (fun v => !decide (v = [])), okW x) ∧ ([m, l].filter (fun v => !decide (v = []))).length ≤ 2 := by
      refine ⟨fun x hx => ?_, Nat.le_trans (List.length_filter_le ..) (by simp)⟩
      obtain ⟨h1, h2⟩ := List.mem_filter.mp hx
      have h2 : x ≠ [] := by simpa using h2
      simp only [List.mem_cons, List.not_mem_nil, or_false] at h1
      rcases h1 with e | e <;> rw [e]
      · exact okW_mask hm
      · exact okW_row hl (e ▸ h2)
    generalize [m, l].filter (fun v => !decide (v = [])) = ws at ey hw0
    subst ey
    refine run_forVI (enc := fun i : Nat => PyData.int ((0 : Int) + (i : Int))) 8 (P := fun l => ∃ n, l = List.range n ∧ n ≤ 2) ?hiter (fun i Γ μ => ∃ ws : List (List Nat), wk Γ [.no, .r r, .d (wD oddW), .no, .no, .no, .no, .d (wD ws), .no, .no, .no, .no, .no] ∧ μ = [] ∧ (∀ x ∈ ws, okW x) ∧ ws.length ≤ 2 + i) ?h00 ?hstep ?hend sc.nd
    case hiter =>
      refine IterV.imp (it_rangeV (P := fun n => n ≤ 2) (EvA.imp (eva_cons (ev_1up (ev_takenN 2 F0 hr hrow1 1 ed_int rfl)) eva_nil) ?_) G.range) (fun xs ⟨n, e, hn⟩ => ⟨n, e, hn⟩)
      rintro ds ⟨x, r1, e, ⟨q, eq, h1, h2⟩, e2⟩
      exact ⟨(q : Int), by rw [e, eq, e2], by omega, by omega, by omega⟩
    case h00 => exact ⟨ws, wk_0 (wk_s (wk_s (wk_0 (wk_0 (wk_0 (wk_0 (wk_s (wk_0 (wk_0 (wk_0 (wk_0 (wk_0 wk_n)))))))))))), rfl, hw0.1, hw0.2⟩
    case hstep =>
      rintro xs ⟨n, rfl, hn⟩ W2 lw2 i2 x2 hx2 Γ' μ' ⟨ws, wkΓ, rfl, hok, hlen⟩
      have hrow2 := lw2.row.trans hrow1
      have hi2 := (List.getElem?_eq_some_iff.mp hx2).1
      rw [List.length_range] at hi2
      refine run_weak ?_ (wk_setN 8 wkΓ rfl)
      refine run_parP (As := fun ds => ∃ a q : Nat, ds = [nn a, nn q] ∧ a ≤ ws.length ∧ q < 4) 9 10 ?ha2 (fun ds ⟨a, q, e, ha, hq⟩ => ⟨_, _, e, ?_⟩) sc.nd
      case ha2 =>
        refine EvA.imp (eva_cons (ev_taken (A := fun z => z = nn (ws.length + 1)) 100 F0 hr hrow2 1 (Ed.evP (ed_op (lenLw G (vr 7)) ed_int o_add) (by show PyData.int _ = PyData.int _; push_cast; rfl)) fun d e => ⟨ws.length + 1, e, by omega, by omega⟩) (eva_cons (ev_takenN 4 F0 hr hrow2 1 ed_int rfl) eva_nil)) ?_
        rintro ds ⟨x, r1, e, ⟨z, a, ez, ea, h1, h2⟩, y, r2, e2, ⟨q, eq, hq⟩, e3⟩
        have ez2 : z = ws.length + 1 := by
          have := PyData.int.inj ez
          omega
        exact ⟨a, q, by rw [e, ea, e2, eq, e3], by omega, hq⟩
      refine run_setP (P := fun z => ∃ more : List (List Nat), z = wD more ∧ (∀ x ∈ more, okW x) ∧ more.length ≤ 1) 11 (ev_if (A := fun _ => True) (EdT.ev (tc (vr 10) ed_int c_neI) trivial) (fun _ => ?hm1) (fun _ => Ed.evP (d := .list []) (ed_lst ea_nil (by simp)) ⟨[], rfl, (fun x hx => nomatch hx), by simp⟩)) (fun z ⟨more, ez, hmo, hm1⟩ => ?_) sc.nd
      case hm1 =>
        refine Ev.imp (ev_lst (As := fun ds => ∃ w : List Nat, ds = [sD w] ∧ w ∈ oddW) (EvA.imp (eva_cons (ev_pick (oddW.map sD) (vr 2) (Ev.imp (ev_taken (A := fun z => z = nn 14) 14 F0 hr hrow2 1 (Ed.evP (lenLw G (vr 2)) rfl) fun d e => ⟨14, e, by decide, by decide⟩) ?hq1)) eva_nil) ?hq2) ?hq3) ?hq4
        case hq1 =>
          rintro d ⟨z, q, ez, ed, h1, h2⟩
          exact ⟨q, ed, by show q < 14; omega⟩
        case hq2 =>
          rintro ds ⟨x, r1, e, hx, e2⟩
          obtain ⟨w, hw, rfl⟩ := List.mem_map.mp hx
          exact ⟨w, by rw [e, e2], hw⟩
        case hq3 =>
          rintro ds ⟨w, e, _⟩
          rw [e]
          show 1 ≤ 1000
          decide
        case hq4 =>
          rintro z ⟨ds, ez, w, e, hw⟩
          exact ⟨[w], by rw [ez, e]; rfl, fun x hx => by rw [List.mem_singleton.mp hx]; exact oddW_ok hw, by simp⟩
      subst ez
      obtain ⟨b, hb, hbz⟩ : ∃ b : Nat, b ≤ 1 ∧ (if decide (q ∈ [1, 2]) = true then (1 : Int) else 0) = (b : Int) := by
        by_cases h : decide (q ∈ [1, 2]) = true
        · exact ⟨1, by omega, by rw [if_pos h]; rfl⟩
        · exact ⟨0, by omega, by rw [if_neg h]; rfl⟩
      refine run_set (d := wD (ws.take a ++ more ++ ws.drop (a + b))) 7 ?hset ?_ sc.nd
      case hset =>
        refine Ed.to (ed_op (x := .list ((ws.map sD).take a ++ more.map sD)) (y := .list ((ws.map sD).drop (a + b))) (ed_op (x := .list ((ws.map sD).take a)) (ed_sl (vr 7) so_none (so_some (vr 9)) (s_listT a rfl)) (vr 11) (o_cat ?hc1)) (ed_sl (vr 7) (so_some (ed_op (vr 9) (ed_callT G.int boot_int (ea_cons (ed_cmp (vr 10) (ed_tup (ea_cons ed_int (ea_cons ed_int ea_nil)) (by show 2 ≤ 1000; decide)) (c_inTI (i := q) (xs := [1, 2]))) ea_nil) c_intB) o_add)) so_none (s_listD (a + b) ?hc2)) (o_cat ?hc3)) ?hc4
        case hc1 => rw [List.length_take, List.length_map, List.length_map]; omega
        case hc2 => rw [hbz]; push_cast; rfl
        case hc3 => rw [List.length_append, List.length_take, List.length_map, List.length_map, List.length_drop, List.length_map]; omega
        case hc4 =>
          show PyData.list _ = PyData.list _
          rw [List.map_append, List.map_append, List.map_take, List.map_drop]
      refine run_go [.no, .r r, .d (wD oddW), .no, .no, .no, .no, .d (wD (ws.take a ++ more ++ ws.drop (a + b))), .no, .no, .no, .no, .no] (wk_0 (wk_s (wk_s (wk_0 (wk_0 (wk_0 (wk_0 (wk_s (wk_0 (wk_0 (wk_0 (wk_0 (wk_0 wk_n))))))))))))) ⟨_, (wk_0 (wk_s (wk_s (wk_0 (wk_0 (wk_0 (wk_0 (wk_s (wk_0 (wk_0 (wk_0 (wk_0 (wk_0 wk_n))))))))))))), rfl, fun x hx => ?_, ?_⟩
      · rcases List.mem_append.mp hx with hx | hx
        · rcases List.mem_append.mp hx with hx | hx
          · exact hok x (List.mem_of_mem_take hx)
          · exact hmo x hx
        · exact hok x (List.mem_of_mem_drop hx)
      · rw [List.length_append, List.length_append, List.length_take, List.length_drop]
        omega
    case hend =>
      rintro xs ⟨n, rfl, hn⟩ Γ' μ' ⟨ws, wkΓ, rfl, hok, hlen⟩
      refine run_weak ?_ wkΓ
      rw [List.length_range] at hlen
      have z1 := joinSp_len hok
      have z2 := joinSp_low hok
      have z3 := sum_le List.length 61 ws fun x hx => (hok x hx).2.1
      refine run_if (k := false) (tc ((ed_call F5 hr (ea_cons (ed_joinSp (ed_S [32]) (vr 7) (by omega)) ea_nil) ⟨_, rfl, by omega, z2, rfl⟩).to (by rw [words_join fun p hp => okW_free (hok p hp)])) (ed_call F6 hr (ea_cons (vr 7) ea_nil) ⟨ws, rfl, by omega, fun w hw => ⟨(hok w hw).1, by have := (hok w hw).2.1; omega, fun c hc => ((hok w hw).2.2 c hc).1⟩, rfl⟩) (c_neSame hu (shp_optN _))) (fun e => nomatch e) (fun _ => run_skip run_e)
  · refine run_ret (ed_and (k := true) (l := true) ((ed_cmp (ed_call F5 hr (ea_cons (ed_S []) ea_nil) ⟨[], rfl, by decide, (fun c hc => nomatch hc), rfl⟩) ed_int (c_eqI (i := 1) (j := 1))).to rfl) fun _ => ed_one ((ed_cmp (ed_call F5 hr (ea_cons (ed_S [120, 10, 97, 98]) ea_nil) ⟨[120, 10, 97, 98], rfl, by decide, by decide, rfl⟩) ed_int (c_eqI (i := 1) (j := 1))).to rfl)) rfl
end
end HW
set_option maxHeartbeats 4000000
namespace HW
open PySem PySem.Spec PyProof.Rows L2 Tx
open SX (S)
theorem facts {P : Program} {w : World} {K : PySem.W.Frag} {h : Heap} {mg : Str → Option Value} {f : Addr} (X : K.In h) (G0 : h.Ns mainGlobals mg) (hfa : mg ("law" : Str) = some (.ref f)) (c : He.SaysD Tx.fa Tx.fn K) (cx : Tx.ex K = true) :
    ∃ fd : FuncData, (∀ (s : Shared) (v : Value), BindsTo s fd ⟨[v], []⟩ [("_law_script", v)]) ∧ ∀ base : Heap, K.In base → base.Ns mainGlobals mg → FnOk P w K mg base CX0 5 f fd ["_law_script"] (spLaw K) := by
  obtain ⟨q__law_taken, F__law_taken⟩ := c.def_ 6 (d := d__law_taken) rfl
  have g__law_taken := He.glo_ok X G0 (c.fact 6 (f := .glo "_law_taken") rfl)
  obtain ⟨q__law_mask, F__law_mask⟩ := c.def_ 7 (d := d__law_mask) rfl
  have g__law_mask := He.glo_ok X G0 (c.fact 7 (f := .glo "_law_mask") rfl)
  obtain ⟨q__law_line, F__law_line⟩ := c.def_ 8 (d := d__law_line) rfl
  have g__law_line := He.glo_ok X G0 (c.fact 8 (f := .glo "_law_line") rfl)
  obtain ⟨q_is_mask, F_is_mask⟩ := c.def_ 0 (d := d_is_mask) rfl
  have g_is_mask := He.glo_ok X G0 (c.fact 0 (f := .glo "is_mask") rfl)
  obtain ⟨q_need_mask, F_need_mask⟩ := c.def_ 1 (d := d_need_mask) rfl
  have g_need_mask := He.glo_ok X G0 (c.fact 1 (f := .glo "need_mask") rfl)
  obtain ⟨q_is_row, F_is_row⟩ := c.def_ 2 (d := d_is_row) rfl
  have g_is_row := He.glo_ok X G0 (c.fact 2 (f := .glo "is_row") rfl)
  obtain ⟨q_need_row, F_need_row⟩ := c.def_ 3 (d := d_need_row) rfl
  have g_need_row := He.glo_ok X G0 (c.fact 3 (f := .glo "need_row") rfl)
  obtain ⟨q_write, F_write⟩ := c.def_ 4 (d := d_write) rfl
  have g_write := He.glo_ok X G0 (c.fact 4 (f := .glo "write") rfl)
  obtain ⟨q_read, F_read⟩ := c.def_ 5 (d := d_read) rfl
  have g_read := He.glo_ok X G0 (c.fact 5 (f := .glo "read") rfl)
  obtain ⟨q__law_refused, F__law_refused⟩ := c.def_ 10 (d := d__law_refused) rfl
  have g__law_refused := He.glo_ok X G0 (c.fact 10 (f := .glo "_law_refused") rfl)
  obtain ⟨q__law_wrong, F__law_wrong⟩ := c.def_ 9 (d := d__law_wrong) rfl
  have g__law_wrong := He.glo_ok X G0 (c.fact 9 (f := .glo "_law_wrong") rfl)
  obtain ⟨q_law, F_law⟩ := c.def_ 11 (d := d_law) rfl
  have g_law := He.glo_ok X G0 (c.fact 11 (f := .glo "law") rfl)
  have e := hfa.symm.trans g_law
  cases e
  have n_isinstance := He.free_ok X G0 (c.fact 14 (f := .free "isinstance") rfl)
  have n_str := He.free_ok X G0 (c.fact 17 (f := .free "str") rfl)
  have n_int := He.free_ok X G0 (c.fact 13 (f := .free "int") rfl)
  have n_len := He.free_ok X G0 (c.fact 15 (f := .free "len") rfl)
  have n_all := He.free_ok X G0 (c.fact 12 (f := .free "all") rfl)
  have n_range := He.free_ok X G0 (c.fact 16 (f := .free "range") rfl)
  have n_set := He.free_ok X G0 (c.fact 18 (f := .free "set") rfl)
  have n_enumerate := He.free_ok X G0 (c.fact 19 (f := .free "enumerate") rfl)
  have n_zip := He.free_ok X G0 (c.fact 20 (f := .free "zip") rfl)
  have n_min := He.free_ok X G0 (c.fact 21 (f := .free "min") rfl)
  have n_max := He.free_ok X G0 (c.fact 22 (f := .free "max") rfl)
  have n_sorted := He.free_ok X G0 (c.fact 23 (f := .free "sorted") rfl)
  have n_any := He.free_ok X G0 (c.fact 24 (f := .free "any") rfl)
  have n_tuple := He.free_ok X G0 (c.fact 25 (f := .free "tuple") rfl)
  have n_list := He.free_ok X G0 (c.fact 26 (f := .free "list") rfl)
  have n_bool := He.free_ok X G0 (c.fact 27 (f := .free "bool") rfl)
  have n_dict := He.free_ok X G0 (c.fact 28 (f := .free "dict") rfl)
  have n_abs := He.free_ok X G0 (c.fact 29 (f := .free "abs") rfl)
  have n_sum := He.free_ok X G0 (c.fact 30 (f := .free "sum") rfl)
  have k_SEEN := He.str_ok X G0 (c.fact 33 (f := .str "SEEN" "x") rfl)
  have k_HOLE := He.str_ok X G0 (c.fact 34 (f := .str "HOLE" ".") rfl)
  have k_LETTERS := He.str_ok X G0 (c.fact 35 (f := .str "LETTERS" "abcd") rfl)
  have k_MOST_MASK := He.int_ok X G0 (c.fact 36 (f := .int "MOST_MASK" 12) rfl)
  have k_MOST_ROW := He.int_ok X G0 (c.fact 37 (f := .int "MOST_ROW" 60) rfl)
  unfold Tx.ex at cx
  simp only [Bool.and_eq_true] at cx
  obtain ⟨⟨c_xInvalidText, c_bWindowError⟩, _⟩ := cx
  have k_xInvalidText := HW.exfB_ok X G0 c_xInvalidText
  have k_bWindowError := HW.baseB_ok X G0 c_bWindowError
  have no_InvalidText := He.noat_ok (c.fact 31 (f := .noat "InvalidText" "word") rfl)
  have ex_InvalidText_InvalidText := He.exm_ok (c.fact 32 (f := .exm "InvalidText" "InvalidText" true) rfl)
  obtain ⟨qi_InvalidText, Fi_InvalidText⟩ := c.def_ 12 (d := i_InvalidText) rfl
  have G : Gs mg := ⟨n_isinstance, n_str, n_int, n_len, n_all, n_range, n_set, n_enumerate, n_zip, n_min, n_max, n_sorted, n_any, n_tuple, n_list, n_bool, n_dict, n_abs, n_sum⟩
  have b := FunD.bindsA (ps := ["_law_script"]) F_law fun _ _ _ _ _ _ us hl => match us, hl with | [_], _ => rfl
  refine ⟨q_law, fun s v => b s [v] rfl, fun base _ _ => ?_⟩
  have E_InvalidText : Ex1 P w K mg base 1 "InvalidText" "word" := ⟨k_xInvalidText, no_InvalidText, _, fi_InvalidText (k := 0) Fi_InvalidText k_bWindowError no_InvalidText, FunD.bindsN Fi_InvalidText fun _ _ _ _ _ _ us hl => match us, hl with | [_, _], _ => rfl⟩
  have A__law_taken : Fd P w K mg base 1 "_law_taken" ["_law_row", "_law_many"] (spW K R_taken_pre R_taken_post) := ⟨_, _, fd_taken (k := 0) F__law_taken n_int n_len, g__law_taken, FunD.kp F__law_taken, FunD.bindsN F__law_taken fun _ _ _ _ _ _ us hl => match us, hl with | [_, _], _ => rfl⟩
  have A__law_mask : Fd P w K mg base 2 "_law_mask" ["_law_row", "_law_width"] (spW K pre_mask post_mask) := ⟨_, _, fd_law_mask (k := 1) F__law_mask n_range (A__law_taken.mono (by decide)), g__law_mask, FunD.kp F__law_mask, FunD.bindsN F__law_mask fun _ _ _ _ _ _ us hl => match us, hl with | [_, _], _ => rfl⟩
  have A__law_line : Fd P w K mg base 2 "_law_line" ["_law_row", "_law_most", "_law_letters"] (spW K pre_line post_line) := ⟨_, _, fd_law_line (k := 1) F__law_line n_range (A__law_taken.mono (by decide)), g__law_line, FunD.kp F__law_line, FunD.bindsN F__law_line fun _ _ _ _ _ _ us hl => match us, hl with | [_, _, _], _ => rfl⟩
  have A_is_mask : Fd P w K mg base 1 "is_mask" ["value"] (spR K R_is_mask) := ⟨_, _, fd_is_mask (k := 0) F_is_mask G k_SEEN k_HOLE k_MOST_MASK, g_is_mask, FunD.kp F_is_mask, FunD.bindsN F_is_mask fun _ _ _ _ _ _ us hl => match us, hl with | [_], _ => rfl⟩
  have A_need_mask : Fd P w K mg base 2 "need_mask" ["mask"] (spR K R_need_mask) := ⟨_, _, fd_need_mask (k := 1) F_need_mask (A_is_mask.mono (by decide)), g_need_mask, FunD.kp F_need_mask, FunD.bindsN F_need_mask fun _ _ _ _ _ _ us hl => match us, hl with | [_], _ => rfl⟩
  have A_is_row : Fd P w K mg base 1 "is_row" ["value"] (spR K R_is_row) := ⟨_, _, fd_is_row (k := 0) F_is_row G k_LETTERS k_MOST_ROW, g_is_row, FunD.kp F_is_row, FunD.bindsN F_is_row fun _ _ _ _ _ _ us hl => match us, hl with | [_], _ => rfl⟩
  have A_need_row : Fd P w K mg base 2 "need_row" ["row"] (spR K R_need_row) := ⟨_, _, fd_need_row (k := 1) F_need_row (A_is_row.mono (by decide)), g_need_row, FunD.kp F_need_row, FunD.bindsN F_need_row fun _ _ _ _ _ _ us hl => match us, hl with | [_], _ => rfl⟩
  have A_write : Fd P w K mg base 3 "write" ["mask", "row"] (spR K R_write) := ⟨_, _, fd_write (k := 2) F_write (A_need_mask.mono (by decide)) (A_need_row.mono (by decide)), g_write, FunD.kp F_write, FunD.bindsN F_write fun _ _ _ _ _ _ us hl => match us, hl with | [_, _], _ => rfl⟩
  have A_is_mask_T : Fd P w K mg base 1 "is_mask" ["value"] (spR K R_is_mask_t) := ⟨_, _, fd_is_mask_t (k := 0) F_is_mask G k_SEEN k_HOLE k_MOST_MASK, g_is_mask, FunD.kp F_is_mask, FunD.bindsN F_is_mask fun _ _ _ _ _ _ us hl => match us, hl with | [_], _ => rfl⟩
  have A_is_row_T : Fd P w K mg base 1 "is_row" ["value"] (spR K R_is_row_t) := ⟨_, _, fd_is_row_t (k := 0) F_is_row G k_LETTERS k_MOST_ROW, g_is_row, FunD.kp F_is_row, FunD.bindsN F_is_row fun _ _ _ _ _ _ us hl => match us, hl with | [_], _ => rfl⟩
  have A_read : Fd P w K mg base 2 "read" ["text"] (spR K R_read) := ⟨_, _, fd_read (k := 1) F_read G (A_is_mask_T.mono (by decide)) (A_is_row_T.mono (by decide)), g_read, FunD.kp F_read, FunD.bindsN F_read fun _ _ _ _ _ _ us hl => match us, hl with | [_], _ => rfl⟩
  have A_read_X : FdX P w K mg base 3 "read" ["text"] (X_read) := ⟨_, _, fx_read (k := 1) F_read G (A_is_mask_T.mono (by decide)) (A_is_row_T.mono (by decide)) (E_InvalidText.mono (by decide)), g_read, FunD.kp F_read, FunD.bindsN F_read fun _ _ _ _ _ _ us hl => match us, hl with | [_], _ => rfl⟩
  have A__law_refused : Fd P w K mg base 4 "_law_refused" ["_law_text"] (spR K R_refused23) := ⟨_, _, fd_law_refused23 (k := 3) F__law_refused k_xInvalidText no_InvalidText ex_InvalidText_InvalidText (A_read.mono (by decide)) (A_read_X.mono (by decide)), g__law_refused, FunD.kp F__law_refused, FunD.bindsN F__law_refused fun _ _ _ _ _ _ us hl => match us, hl with | [_], _ => rfl⟩
  have A__law_wrong : Fd P w K mg base 1 "_law_wrong" ["_law_words"] (spR K R_law_wrong) := ⟨_, _, fd_law_wrong (k := 0) F__law_wrong G, g__law_wrong, FunD.kp F__law_wrong, FunD.bindsN F__law_wrong fun _ _ _ _ _ _ us hl => match us, hl with | [_], _ => rfl⟩
  exact fd_the_law (k := 4) F_law G (A__law_taken.mono (by decide)) (A__law_mask.mono (by decide)) (A__law_line.mono (by decide)) (A_write.mono (by decide)) (A_read.mono (by decide)) (A__law_refused.mono (by decide)) (A__law_wrong.mono (by decide))
end HW
open PySem PySem.W PySem.Calls PyProof.Rows
theorem PySem.Challenge.cw_holedwindows_k23_texts_holds : PySem.Challenge.rw_holedwindows_k23_texts.Holds := by
  w_on; o_law
  refine HandSHeadRun.head_any (r := OpenLaw.row PySem.Challenge.rw_holedwindows_k23_texts) (q := view (OpenLaw.row PySem.Challenge.rw_holedwindows_k23_texts).prog [24]) (H := Tx.hk) (ob := Tx.ob) (M := 9000) (loose := Tx.names) (d := HandSHeadRun.topDef (OpenLaw.row PySem.Challenge.rw_holedwindows_k23_texts).prog 24) (kwd := []) Tx.ob_eq
    (by kernel_rfl) (fun s => by kernel_rfl) Tx.run (by kernel_rfl) (by kernel_rfl) (by kernel_rfl) (by rfl) (by first | assumption | decide +kernel) (by decide +kernel) ⟨rfl, rfl, rfl, rfl, rfl, by decide +kernel⟩ ?hw ?hc
  case hw => w_witness2
  case hc =>
    refine L2.walk_ofE (l := PySem.Challenge.rw_holedwindows_k23_texts) (n := 63) (k := 5) (x := "_law_script") (CX := L2.CX0) rfl (by decide) (by kernel_rfl) ⟨rfl, by decide, by decide⟩ ?F (fun _ _ _ _ z => z)
    intro w mg fa h Y G hmg0
    obtain ⟨K, KX, c, cx⟩ := Y
    have hmg : mg ("law" : PySem.Str) = some (.ref fa) := by
      have e : (HandSHeadRun.topDef (OpenLaw.row PySem.Challenge.rw_holedwindows_k23_texts).prog 24).name = ("law" : PySem.Str) := by kernel_rfl
      rw [← e]
      exact hmg0
    obtain ⟨fd, hb, hF⟩ := HW.facts (P := (PySem.Challenge.rw_holedwindows_k23_texts).prog) (w := w) KX G hmg c cx
    exact ⟨K, fd, HW.spLaw K, KX, hb, fun H a ns hl _ hS => ⟨a, ns, rfl, hl, hS, fun _ => rfl⟩, hF⟩

