import PyProof.Rows.All
import Wide.All
import OpenK.AllK
import Wide.FinOn
import HandS.ForMost
import HandS.Deep
import HandS.Conv
import HandS.TupSets
import HandS.TupLe
import HandS.TupAny
import HandS.DictComp
import HandS.DictTup
import HandS.Flow
import HandS.Style
import HandS.IsInst
import HandS.Wide
import HandS.Walk
import HandS.Zip
import KE.KDictWalk
import KE.KIndexOf
import KE.KDictDisplayH
import KE.SortData
import PyProof.Rows.SortShell
import PyProof.ListCopy
import HandS.ExcValue
import HandS.Defaults
import PySem.Challenge.RW_onlysums_k69_orders_that_keep_conditions
set_option Elab.async false
set_option linter.all false
set_option maxRecDepth 100000
set_option maxHeartbeats 4000000
set_option autoImplicit false
namespace Ab
open PySem PySem.Spec PyProof.Rows L2

abbrev D := PyData
/-- what a local, mutable object holds -/
inductive Cn where
  | lst (ds : List D)
  | box
  | dT (kvs : List (List Key × D))
  | dK (kvs : List (Key × D))
/-- what a slot holds: nothing that is known, data by value, an object of its own -/
inductive Sl where
  | no
  | va (d : D)
  | ce (c : Cn)

/-! a value stands for data: tuples and lists are tracked as such; a locked list (the script) is lockL -/
def lockL (ds : List PyData) : PyData := .dict [(.list ds, .none)]
/-- a tuple that is known to be plain: its own object is known -/
def plT (ds : List PyData) : PyData := .dict [(.tuple ds, .none)]
mutual
inductive Rp (K : PySem.W.Frag) (F : Hp) : V → PyData → Prop
  | non : Rp K F .non .none
  | bl (b : Bool) : Rp K F (.bl b) (.bool b)
  | int (i : Int) : Rp K F (.int i) (.int i)
  | str (x : Str) : Rp K F (.str x) (.str x)
  | lst {a : Addr} {xs : List V} {ds : List PyData} : F a = some (.lst xs) → RpAll K F xs ds → Rp K F (.ref a) (.list ds)
  | lok {a : Addr} {xs : List V} {ds : List PyData} : SqL K F a xs → RpAll K F xs ds → Rp K F (.ref a) (.dict [(.list ds, .none)])
  | tup {a : Addr} {xs : List V} {ds : List PyData} : F a = some (.tup xs) → RpAll K F xs ds → Rp K F (.ref a) (.tuple ds)
  | plt {a : Addr} {o : Obj} {xs : List V} {ds : List PyData} : F a = some (.frz o (.tup xs)) → o.dict = none → RpAll K F xs ds → Rp K F (.ref a) (.dict [(.tuple ds, .none)])
inductive RpAll (K : PySem.W.Frag) (F : Hp) : List V → List PyData → Prop
  | nil : RpAll K F [] []
  | cons {v : V} {vs : List V} {d : PyData} {ds : List PyData} : Rp K F v d → RpAll K F vs ds → RpAll K F (v :: vs) (d :: ds)
end
section base
variable {K : PySem.W.Frag}
mutual
theorem rp_dp {F : Hp} : ∀ (d : PyData) (v : V), d.canLay0 = true → Rp K F v d → Dp K F v d
  | .none, _, _, h => by cases h; exact .non
  | .bool b, _, _, h => by cases h; exact .bl b
  | .int i, _, _, h => by cases h; exact .int i
  | .str x, _, _, h => by cases h; exact .str x
  | .list ds, _, c, h => by
    cases h with
    | lst hs ha => exact .lst (SqL.of hs) (rpAll_dp ds _ (by simpa [PyData.canLay0] using c) ha)
  | .tuple ds, _, c, h => by
    cases h with
    | tup hs ha => exact .tup (SqT.of hs) (rpAll_dp ds _ (by simpa [PyData.canLay0] using c) ha)
  | .dict _, _, c, h => by simp [PyData.canLay0] at c
theorem rpAll_dp {F : Hp} : ∀ (ds : List PyData) (vs : List V), PyData.canLayAll0 ds = true → RpAll K F vs ds → DpAll K F vs ds
  | [], _, _, h => by cases h; exact .nil
  | d :: ds, _, c, h => by
    simp only [PyData.canLayAll0, Bool.and_eq_true] at c
    cases h with
    | cons h1 h2 => exact .cons (rp_dp d _ c.1 h1) (rpAll_dp ds _ c.2 h2)
end
mutual
theorem dp_mono {F F' : Hp} (e : Same F F') : ∀ (d : PyData) (v : V), Rp K F v d → Rp K F' v d
  | .none, _, h => by cases h; exact .non
  | .bool b, _, h => by cases h; exact .bl b
  | .int i, _, h => by cases h; exact .int i
  | .str x, _, h => by cases h; exact .str x
  | .list ds, _, h => by
    cases h with
    | lst hs ha => exact .lst (e _ _ hs) (dpAll_mono e ds _ ha)
  | .tuple ds, _, h => by
    cases h with
    | tup hs ha => exact .tup (e _ _ hs) (dpAll_mono e ds _ ha)
  | .dict [(.list ds, .none)], _, h => by
    cases h with
    | lok hs ha => exact .lok (e.seq hs) (dpAll_mono e ds _ ha)
  | .dict [(.tuple ds, .none)], _, h => by
    cases h with
    | plt hs ho ha => exact .plt (e _ _ hs) ho (dpAll_mono e ds _ ha)
theorem dpAll_mono {F F' : Hp} (e : Same F F') : ∀ (ds : List PyData) (vs : List V), RpAll K F vs ds → RpAll K F' vs ds
  | [], _, h => by cases h; exact .nil
  | d :: ds, _, h => by
    cases h with
    | cons h1 h2 => exact .cons (dp_mono e d _ h1) (dpAll_mono e ds _ h2)
end
theorem sqT_mono {F F' : Hp} (e : Same F F') {a : Addr} {xs : List V} (h : SqT K F a xs) : SqT K F' a xs := by
  rcases h with (h | ⟨o, h⟩) | h
  · exact .inl (.inl (e _ _ h))
  · exact .inl (.inr ⟨o, e _ _ h⟩)
  · exact .inr h
theorem dpAll_len {F : Hp} : ∀ {vs : List V} {ds : List PyData}, RpAll K F vs ds → vs.length = ds.length
  | _, [], h => by cases h; rfl
  | _, d :: ds, h => by
    cases h with
    | cons h1 h2 => rw [List.length_cons, List.length_cons, dpAll_len h2]
theorem dpAll_get {F : Hp} : ∀ {vs : List V} {ds : List PyData} {i : Nat} {d : PyData}, RpAll K F vs ds → ds[i]? = some d → ∃ v, vs[i]? = some v ∧ Rp K F v d
  | _, [], _, _, h, e => by simp at e
  | _, x :: ds, 0, d, h, e => by
    cases h with
    | cons h1 h2 => simp at e; subst e; exact ⟨_, rfl, h1⟩
  | _, x :: ds, i + 1, d, h, e => by
    cases h with
    | cons h1 h2 =>
      obtain ⟨v, q, r⟩ := dpAll_get (i := i) (d := d) h2 (by simpa using e)
      exact ⟨v, by simpa using q, r⟩
theorem dpAll_get' {F : Hp} : ∀ {vs : List V} {ds : List PyData} {i : Nat} {v : V}, RpAll K F vs ds → vs[i]? = some v → ∃ d, ds[i]? = some d ∧ Rp K F v d
  | _, [], _, _, h, e => by cases h; simp at e
  | _, x :: ds, 0, d, h, e => by
    cases h with
    | cons h1 h2 => simp at e; subst e; exact ⟨_, rfl, h1⟩
  | _, x :: ds, i + 1, d, h, e => by
    cases h with
    | cons h1 h2 =>
      obtain ⟨v, q, r⟩ := dpAll_get' (i := i) h2 (by simpa using e)
      exact ⟨v, by simpa using q, r⟩
theorem dpAll_app {F : Hp} : ∀ {vs us : List V} {ds es : List PyData}, RpAll K F vs ds → RpAll K F us es → RpAll K F (vs ++ us) (ds ++ es)
  | _, _, [], _, h, g => by cases h; exact g
  | _, _, d :: ds, _, h, g => by
    cases h with
    | cons h1 h2 => exact .cons h1 (dpAll_app h2 g)
theorem dpAll_take {F : Hp} : ∀ {vs : List V} {ds : List PyData} (n : Nat), RpAll K F vs ds → RpAll K F (vs.take n) (ds.take n)
  | _, [], n, h => by cases h; simp; exact .nil
  | _, d :: ds, 0, h => .nil
  | _, d :: ds, n + 1, h => by
    cases h with
    | cons h1 h2 => exact .cons h1 (dpAll_take n h2)
theorem dpAll_drop {F : Hp} : ∀ {vs : List V} {ds : List PyData} (n : Nat), RpAll K F vs ds → RpAll K F (vs.drop n) (ds.drop n)
  | _, [], n, h => by cases h; simp; exact .nil
  | _, d :: ds, 0, h => h
  | _, d :: ds, n + 1, h => by
    cases h with
    | cons h1 h2 => exact dpAll_drop n h2
theorem dpAll_set {F : Hp} {v : V} {d : PyData} (r : Rp K F v d) : ∀ {vs : List V} {ds : List PyData} (n : Nat), RpAll K F vs ds → RpAll K F (vs.set n v) (ds.set n d)
  | _, [], n, h => by cases h; exact .nil
  | _, e :: ds, 0, h => by
    cases h with
    | cons h1 h2 => exact .cons r h2
  | _, e :: ds, n + 1, h => by
    cases h with
    | cons h1 h2 => exact .cons h1 (dpAll_set r n h2)
theorem dpAll_rev {F : Hp} : ∀ {vs : List V} {ds : List PyData}, RpAll K F vs ds → RpAll K F vs.reverse ds.reverse
  | _, [], h => by cases h; exact .nil
  | _, d :: ds, h => by
    cases h with
    | cons h1 h2 =>
      rw [List.reverse_cons, List.reverse_cons]
      exact dpAll_app (dpAll_rev h2) (.cons h1 .nil)
/-- ints stand as themselves -/
theorem dpAll_ints {F : Hp} : ∀ {vs : List V} {ns : List Int}, RpAll K F vs (ns.map PyData.int) → vs = ns.map V.int
  | _, [], h => by cases h; rfl
  | _, n :: ns, h => by
    cases h with
    | cons h1 h2 => cases h1; rw [dpAll_ints h2]; rfl
theorem ints_dpAll {F : Hp} : ∀ (ns : List Int), RpAll K F (ns.map V.int) (ns.map PyData.int)
  | [] => .nil
  | n :: ns => .cons (.int n) (ints_dpAll ns)

/-- an entry of a dict -/
def KvOk {κ : Type} (K : PySem.W.Frag) (F : Hp) (p : κ × V) (q : κ × D) : Prop := p.1 = q.1 ∧ Rp K F p.2 q.2
theorem kvs_mono {κ : Type} {F F' : Hp} (e : Same F F') : ∀ {ks : List (κ × V)} {kvs : List (κ × D)}, Paired (KvOk K F) ks kvs → Paired (KvOk K F') ks kvs
  | _, _, .nil => .nil
  | _, _, .cons h t => .cons ⟨h.1, dp_mono e _ _ h.2⟩ (kvs_mono e t)
/-- what a local object at a is -/
def CnOk (K : PySem.W.Frag) (F H : Hp) (a : Addr) : Cn → Prop
  | .lst ds => ∃ vs, H a = some (.lst vs) ∧ RpAll K F vs ds
  | .box => ∃ g m : Int, H a = some (.lst [.int g, .int m]) ∧ 0 ≤ g ∧ 1 ≤ m ∧ m < 4294967296
  | .dT kvs => ∃ ks, H a = some (.dT ks) ∧ Paired (KvOk K F) ks kvs
  | .dK kvs => ∃ ks, H a = some (.dK ks) ∧ Paired (KvOk K F) ks kvs
theorem CnOk.mono {F F' H H' : Hp} {a : Addr} {c : Cn} (e : Same F F') (hh : H' a = H a) (h : CnOk K F H a c) : CnOk K F' H' a c := by
  cases c with
  | lst ds => obtain ⟨vs, h1, h2⟩ := h; exact ⟨vs, hh.trans h1, dpAll_mono e _ _ h2⟩
  | box => obtain ⟨g, m, h1, h2⟩ := h; exact ⟨g, m, hh.trans h1, h2⟩
  | dT kvs => obtain ⟨ks, h1, h2⟩ := h; exact ⟨ks, hh.trans h1, kvs_mono e h2⟩
  | dK kvs => obtain ⟨ks, h1, h2⟩ := h; exact ⟨ks, hh.trans h1, kvs_mono e h2⟩
theorem CnOk.some {F H : Hp} {a : Addr} {c : Cn} (h : CnOk K F H a c) : ∃ o, H a = Option.some o := by
  cases c with
  | lst ds => obtain ⟨vs, h1, h2⟩ := h; exact ⟨_, h1⟩
  | box => obtain ⟨g, m, h1, h2⟩ := h; exact ⟨_, h1⟩
  | dT kvs => obtain ⟨ks, h1, h2⟩ := h; exact ⟨_, h1⟩
  | dK kvs => obtain ⟨ks, h1, h2⟩ := h; exact ⟨_, h1⟩

/-- the state: F what is frozen (data leans on it alone), H the whole; ρ what the slots hold, σ their values -/
structure StOk (K : PySem.W.Frag) (F H : Hp) (ρ : List Sl) (σ : L2.St) : Prop where
  sub : Same F H
  len : ρ.length = σ.length
  va : ∀ (i : Nat) (d : D), ρ[i]? = some (Sl.va d) → ∃ v, σ[i]? = some (some v) ∧ Rp K F v d
  ce : ∀ (i : Nat) (c : Cn), ρ[i]? = some (Sl.ce c) → ∃ a, σ[i]? = some (some (V.ref a)) ∧ F a = none ∧ CnOk K F H a c
  inj : ∀ (i j : Nat) (c e : Cn) (a : Addr), ρ[i]? = some (Sl.ce c) → ρ[j]? = some (Sl.ce e) → σ[i]? = some (some (V.ref a)) → σ[j]? = some (some (V.ref a)) → i = j

theorem same_new {H : Hp} {p : Addr} {o : HO} (h : H p = none) : Same H (upd H p o) := fun b x e => by
  rw [upd_ne (ne_of_none e h)]
  exact e
theorem same_upd2 {F H : Hp} {p : Addr} {o : HO} (e : Same F H) (h : H p = none) : Same (upd F p o) (upd H p o) := fun b x q => by
  by_cases hb : b = p
  · subst hb; rw [upd_same] at q ⊢; exact q
  · rw [upd_ne hb] at q ⊢; exact e b x q

variable {F H : Hp} {ρ : List Sl} {σ : L2.St}
/-- a new frozen object -/
theorem StOk.grow (s : StOk K F H ρ σ) {p : Addr} (h : H p = none) (o : HO) : StOk K (upd F p o) (upd H p o) ρ σ := by
  have hF : F p = none := s.sub.free h
  have eF : Same F (upd F p o) := same_new hF
  refine ⟨same_upd2 s.sub h, s.len, fun i d q => ?_, fun i c q => ?_, s.inj⟩
  · obtain ⟨v, h1, h2⟩ := s.va i d q
    exact ⟨v, h1, dp_mono eF _ _ h2⟩
  · obtain ⟨a, h1, h2, h3⟩ := s.ce i c q
    obtain ⟨u, hu⟩ := h3.some
    have ne : a ≠ p := ne_of_none hu h
    exact ⟨a, h1, by rw [upd_ne ne]; exact h2, h3.mono eF (upd_ne ne)⟩
/-- a new object that is tracked elsewhere, or not at all -/
theorem StOk.side (s : StOk K F H ρ σ) {p : Addr} (h : H p = none) (o : HO) : StOk K F (upd H p o) ρ σ := by
  refine ⟨s.sub.trans (same_new h), s.len, s.va, fun i c q => ?_, s.inj⟩
  obtain ⟨a, h1, h2, h3⟩ := s.ce i c q
  obtain ⟨u, hu⟩ := h3.some
  exact ⟨a, h1, h2, h3.mono (Same.refl F) (upd_ne (ne_of_none hu h))⟩
/-- the slots chosen anew: f tells where each one stood -/
theorem StOk.sel (s : StOk K F H ρ σ) {ρ2 : List Sl} {σ2 : L2.St} (f : Nat → Nat) (hl : ρ2.length = σ2.length)
    (hv : ∀ (j : Nat) (d : D), ρ2[j]? = some (.va d) → ρ[f j]? = some (.va d) ∧ σ2[j]? = σ[f j]?) (hc : ∀ (j : Nat) (c : Cn), ρ2[j]? = some (.ce c) → ρ[f j]? = some (.ce c) ∧ σ2[j]? = σ[f j]?)
    (hi : ∀ (j k : Nat) (c e : Cn), ρ2[j]? = some (.ce c) → ρ2[k]? = some (.ce e) → f j = f k → j = k) : StOk K F H ρ2 σ2 := by
  refine ⟨s.sub, hl, fun i d q => ?_, fun i c q => ?_, fun i j c e a q1 q2 r1 r2 => ?_⟩
  · obtain ⟨h1, h2⟩ := hv i d q
    rw [h2]
    exact s.va _ d h1
  · obtain ⟨h1, h2⟩ := hc i c q
    rw [h2]
    exact s.ce _ c h1
  · obtain ⟨h1, h2⟩ := hc i c q1
    obtain ⟨g1, g2⟩ := hc j e q2
    rw [h2] at r1
    rw [g2] at r2
    exact hi i j c e q1 q2 (s.inj _ _ c e a h1 g1 r1 r2)
/-- one slot more, with data -/
theorem StOk.addVa (s : StOk K F H ρ σ) {v : V} {d : D} (h : Rp K F v d) : StOk K F H (ρ ++ [.va d]) (σ ++ [some v]) := by
  have old : ∀ {i : Nat} {x : Sl}, (ρ ++ [Sl.va d])[i]? = some x → (i < ρ.length ∧ ρ[i]? = some x) ∨ (i = ρ.length ∧ x = .va d) := fun {i x} q => by
    by_cases hi : i < ρ.length
    · rw [List.getElem?_append_left hi] at q; exact .inl ⟨hi, q⟩
    · have : i = ρ.length := by
        have := (List.getElem?_eq_some_iff.mp q).1
        simp at this; omega
      subst this
      rw [List.getElem?_append_right (Nat.le_refl _)] at q
      simp at q; exact .inr ⟨rfl, q.symm⟩
  have oldS : ∀ {i : Nat}, i < ρ.length → (σ ++ [some v])[i]? = σ[i]? := fun {i} hi => List.getElem?_append_left (by rw [← s.len]; exact hi)
  refine ⟨s.sub, by simp [s.len], fun i e q => ?_, fun i c q => ?_, fun i j c e a q1 q2 r1 r2 => ?_⟩
  · rcases old q with ⟨hi, q⟩ | ⟨hi, q⟩
    · rw [oldS hi]; exact s.va i e q
    · cases q
      refine ⟨v, ?_, h⟩
      rw [hi, s.len, List.getElem?_append_right (Nat.le_refl _)]
      simp
  · rcases old q with ⟨hi, q⟩ | ⟨hi, q⟩
    · rw [oldS hi]; exact s.ce i c q
    · cases q
  · rcases old q1 with ⟨hi, q1⟩ | ⟨hi, q1⟩
    · rcases old q2 with ⟨hj, q2⟩ | ⟨hj, q2⟩
      · rw [oldS hi] at r1
        rw [oldS hj] at r2
        exact s.inj i j c e a q1 q2 r1 r2
      · cases q2
    · cases q1
/-- one slot more, with a new object of its own -/
theorem StOk.addCe (s : StOk K F H ρ σ) {p : Addr} {o : HO} {c : Cn} (hp : H p = none) (h : ∀ F', Same F F' → CnOk K F' (upd H p o) p c) : StOk K F (upd H p o) (ρ ++ [.ce c]) (σ ++ [some (.ref p)]) := by
  have t := s.side hp o
  have old : ∀ {i : Nat} {x : Sl}, (ρ ++ [Sl.ce c])[i]? = some x → (i < ρ.length ∧ ρ[i]? = some x) ∨ (i = ρ.length ∧ x = .ce c) := fun {i x} q => by
    by_cases hi : i < ρ.length
    · rw [List.getElem?_append_left hi] at q; exact .inl ⟨hi, q⟩
    · have : i = ρ.length := by
        have := (List.getElem?_eq_some_iff.mp q).1
        simp at this; omega
      subst this
      rw [List.getElem?_append_right (Nat.le_refl _)] at q
      simp at q; exact .inr ⟨rfl, q.symm⟩
  have oldS : ∀ {i : Nat}, i < ρ.length → (σ ++ [some (V.ref p)])[i]? = σ[i]? := fun {i} hi => List.getElem?_append_left (by rw [← s.len]; exact hi)
  have newS : (σ ++ [some (V.ref p)])[ρ.length]? = some (some (.ref p)) := by
    rw [s.len, List.getElem?_append_right (Nat.le_refl _)]
    simp
  have ne : ∀ {i : Nat} {x : Cn}, ρ[i]? = some (.ce x) → σ[i]? ≠ some (some (.ref p)) := fun {i x} q z => by
    obtain ⟨a, h1, h2, h3⟩ := s.ce i x q
    rw [h1] at z
    cases z
    obtain ⟨u, hu⟩ := h3.some
    rw [hp] at hu; cases hu
  refine ⟨t.sub, by simp [s.len], fun i e q => ?_, fun i x q => ?_, fun i j x e a q1 q2 r1 r2 => ?_⟩
  · rcases old q with ⟨hi, q⟩ | ⟨hi, q⟩
    · rw [oldS hi]; exact t.va i e q
    · cases q
  · rcases old q with ⟨hi, q⟩ | ⟨hi, q⟩
    · rw [oldS hi]; exact t.ce i x q
    · cases q
      exact ⟨p, by rw [hi]; exact newS, s.sub.free hp, h F (Same.refl F)⟩
  · rcases old q1 with ⟨hi, q1⟩ | ⟨hi, q1⟩
    · rcases old q2 with ⟨hj, q2⟩ | ⟨hj, q2⟩
      · rw [oldS hi] at r1
        rw [oldS hj] at r2
        exact s.inj i j x e a q1 q2 r1 r2
      · rw [oldS hi] at r1
        rw [hj, newS] at r2
        cases r2
        exact absurd r1 (ne q1)
    · rcases old q2 with ⟨hj, q2⟩ | ⟨hj, q2⟩
      · rw [oldS hj] at r2
        rw [hi, newS] at r1
        cases r1
        exact absurd r2 (ne q2)
      · omega
/-- a local object changes -/
theorem StOk.setCe (s : StOk K F H ρ σ) {i : Nat} {c c' : Cn} {a : Addr} {o : HO} (hi : ρ[i]? = some (.ce c)) (ha : σ[i]? = some (some (.ref a))) (h : CnOk K F (upd H a o) a c') :
    StOk K F (upd H a o) (ρ.set i (.ce c')) σ := by
  obtain ⟨a', h1, h2, h3⟩ := s.ce i c hi
  rw [ha] at h1
  cases h1
  have hlt : i < ρ.length := (List.getElem?_eq_some_iff.mp hi).1
  have sub : Same F (upd H a o) := fun b x q => by
    rw [upd_ne (ne_of_none q h2)]
    exact s.sub b x q
  have ce_back : ∀ {j : Nat} {x : Cn}, (ρ.set i (.ce c'))[j]? = some (.ce x) → ∃ y, ρ[j]? = some (.ce y) := fun {j x} q => by
    by_cases hj : i = j
    · subst hj; exact ⟨c, hi⟩
    · rw [List.getElem?_set_ne hj] at q; exact ⟨x, q⟩
  refine ⟨sub, by rw [List.length_set]; exact s.len, fun j d q => ?_, fun j x q => ?_, fun j k x e b q1 q2 r1 r2 => ?_⟩
  · by_cases hj : i = j
    · subst hj; rw [List.getElem?_set_self hlt] at q; cases q
    · rw [List.getElem?_set_ne hj] at q; exact s.va j d q
  · by_cases hj : i = j
    · subst hj; rw [List.getElem?_set_self hlt] at q; cases q; exact ⟨a, ha, h2, h⟩
    · rw [List.getElem?_set_ne hj] at q
      obtain ⟨b, g1, g2, g3⟩ := s.ce j x q
      have ne : b ≠ a := fun z => by
        subst z
        exact hj (s.inj i j c x b hi q ha g1)
      exact ⟨b, g1, g2, g3.mono (Same.refl F) (upd_ne ne)⟩
  · obtain ⟨y, q1⟩ := ce_back q1
    obtain ⟨z, q2⟩ := ce_back q2
    exact s.inj j k y z b q1 q2 r1 r2
/-- a list of one's own is frozen -/
theorem StOk.freeze (s : StOk K F H ρ σ) {i : Nat} {ds : List D} (hi : ρ[i]? = some (.ce (.lst ds))) : ∃ F', Same F F' ∧ StOk K F' H (ρ.set i (.va (.list ds))) σ := by
  obtain ⟨a, h1, h2, vs, h3, h4⟩ := s.ce i _ hi
  have hlt : i < ρ.length := (List.getElem?_eq_some_iff.mp hi).1
  have eF : Same F (upd F a (.lst vs)) := same_new h2
  refine ⟨upd F a (.lst vs), eF, fun b x q => ?_, by rw [List.length_set]; exact s.len, fun j d q => ?_, fun j x q => ?_, fun j k x e b q1 q2 r1 r2 => ?_⟩
  · by_cases hb : b = a
    · subst hb; rw [upd_same] at q; cases q; exact h3
    · rw [upd_ne hb] at q; exact s.sub b x q
  · by_cases hj : i = j
    · subst hj; rw [List.getElem?_set_self hlt] at q; cases q
      exact ⟨.ref a, h1, .lst upd_same (dpAll_mono eF _ _ h4)⟩
    · rw [List.getElem?_set_ne hj] at q
      obtain ⟨v, g1, g2⟩ := s.va j d q
      exact ⟨v, g1, dp_mono eF _ _ g2⟩
  · by_cases hj : i = j
    · subst hj; rw [List.getElem?_set_self hlt] at q; cases q
    · rw [List.getElem?_set_ne hj] at q
      obtain ⟨b, g1, g2, g3⟩ := s.ce j x q
      have ne : b ≠ a := fun z => by
        subst z
        exact hj (s.inj i j _ x b hi q h1 g1)
      exact ⟨b, g1, by rw [upd_ne ne]; exact g2, g3.mono eF rfl⟩
  · by_cases hj : i = j
    · subst hj; rw [List.getElem?_set_self hlt] at q1; cases q1
    · by_cases hk : i = k
      · subst hk; rw [List.getElem?_set_self hlt] at q2; cases q2
      · rw [List.getElem?_set_ne hj] at q1
        rw [List.getElem?_set_ne hk] at q2
        exact s.inj j k x e b q1 q2 r1 r2
end base
end Ab
namespace Ab
open PySem PySem.Spec PyProof.Rows L2

/-- what an expression gives: data, a new object of its own, what stands in a slot -/
inductive Rs where
  | v (d : D)
  | c (c : Cn)
  | al (i : Nat)
def rsSl (ρ : List Sl) : Rs → Sl
  | .v d => .va d
  | .c c => .ce c
  | .al i => ρ.getD i .no
def SlOk (K : PySem.W.Frag) (F H : Hp) (v : V) : Sl → Prop
  | .no => True
  | .va d => Rp K F v d
  | .ce c => ∃ a, v = .ref a ∧ F a = none ∧ CnOk K F H a c
def ROk (K : PySem.W.Frag) (F H : Hp) (ρ ρτ : List Sl) (σ στ : L2.St) (v : V) : Rs → Prop
  | .v d => StOk K F H (ρ ++ ρτ) (σ ++ στ) ∧ Rp K F v d
  | .c c => StOk K F H (ρ ++ (ρτ ++ [.ce c])) (σ ++ (στ ++ [some v]))
  | .al i => StOk K F H (ρ ++ ρτ) (σ ++ στ) ∧ i < σ.length ∧ σ[i]? = some (some v)

inductive SetAt : List Sl → Nat → Sl → List Sl → Prop
  | zero {x s : Sl} {xs : List Sl} : SetAt (x :: xs) 0 s (s :: xs)
  | succ {x s : Sl} {xs ys : List Sl} {i : Nat} : SetAt xs i s ys → SetAt (x :: xs) (i + 1) s (x :: ys)
theorem SetAt.eq {ρ ρ' : List Sl} {i : Nat} {s : Sl} (h : SetAt ρ i s ρ') : ρ' = ρ.set i s ∧ i < ρ.length := by
  induction h with
  | zero => exact ⟨rfl, Nat.succ_pos _⟩
  | succ _ ih => exact ⟨by rw [ih.1]; rfl, Nat.succ_lt_succ ih.2⟩

section
variable {K : PySem.W.Frag} {F H : Hp} {ρ ρτ : List Sl} {σ στ : L2.St} {v : V}
theorem StOk.left (s : StOk K F H (ρ ++ ρτ) (σ ++ στ)) (hl : ρ.length = σ.length) : StOk K F H ρ σ := by
  refine s.sel id hl (fun j d q => ?_) (fun j c q => ?_) fun j k c e q1 q2 z => z
  · have hj := (List.getElem?_eq_some_iff.mp q).1
    show (ρ ++ ρτ)[j]? = _ ∧ _ = (σ ++ στ)[j]?
    rw [List.getElem?_append_left hj, List.getElem?_append_left (by omega)]
    exact ⟨q, rfl⟩
  · have hj := (List.getElem?_eq_some_iff.mp q).1
    show (ρ ++ ρτ)[j]? = _ ∧ _ = (σ ++ στ)[j]?
    rw [List.getElem?_append_left hj, List.getElem?_append_left (by omega)]
    exact ⟨q, rfl⟩
/-- the last slot falls away -/
theorem StOk.drop {s1 : Sl} {v1 : Option V} (s : StOk K F H (ρ ++ (ρτ ++ [s1])) (σ ++ (στ ++ [v1]))) (hl : ρ.length = σ.length) : StOk K F H (ρ ++ ρτ) (σ ++ στ) := by
  rw [← List.append_assoc, ← List.append_assoc] at s
  have h := s.len
  simp only [List.length_append, List.length_cons, List.length_nil] at h
  exact s.left (by simp only [List.length_append]; omega)
theorem ROk.st {R : Rs} (h : ROk K F H ρ ρτ σ στ v R) (hl : ρ.length = σ.length) : StOk K F H (ρ ++ ρτ) (σ ++ στ) := by
  cases R with
  | v d => exact h.1
  | c c => exact StOk.drop h hl
  | al i => exact h.1
theorem getD_of {i : Nat} {s : Sl} (h : ρ[i]? = some s) : ρ.getD i .no = s := by
  rw [List.getD_eq_getElem?_getD, h]; rfl
theorem get_left {α : Type} {l m : List α} {i : Nat} (h : i < l.length) : (l ++ m)[i]? = l[i]? := List.getElem?_append_left h
theorem StOk.slot (s : StOk K F H ρ σ) {i : Nat} (hi : i < ρ.length) (hv : σ[i]? = some (some v)) : SlOk K F H v (ρ.getD i .no) := by
  have e : ρ[i]? = some ρ[i] := List.getElem?_eq_getElem hi
  rw [getD_of e]
  cases q : ρ[i] with
  | no => trivial
  | va d =>
    rw [q] at e
    obtain ⟨u, h1, h2⟩ := s.va i d e
    rw [hv] at h1
    cases h1
    exact h2
  | ce c =>
    rw [q] at e
    obtain ⟨a, h1, h2, h3⟩ := s.ce i c e
    rw [hv] at h1
    cases h1
    exact ⟨a, rfl, h2, h3⟩
/-- the last one of the frame -/
theorem StOk.last {c : Cn} (s : StOk K F H (ρ ++ (ρτ ++ [.ce c])) (σ ++ (στ ++ [some v]))) : SlOk K F H v (.ce c) := by
  have h := s.len
  simp only [List.length_append, List.length_cons, List.length_nil] at h
  have e1 : (ρ ++ (ρτ ++ [Sl.ce c]))[ρ.length + ρτ.length]? = some (.ce c) := by
    rw [← List.append_assoc, List.getElem?_append_right (by simp)]
    simp
  have e2 : (σ ++ (στ ++ [some v]))[ρ.length + ρτ.length]? = some (some v) := by
    rw [← List.append_assoc, List.getElem?_append_right (by simp; omega)]
    have : ρ.length + ρτ.length - (σ ++ στ).length = 0 := by simp; omega
    rw [this]; rfl
  have := s.slot (i := ρ.length + ρτ.length) (by simp) e2
  rwa [getD_of e1] at this
theorem ROk.slOk {R : Rs} (h : ROk K F H ρ ρτ σ στ v R) (hl : ρ.length = σ.length) : SlOk K F H v (rsSl ρ R) := by
  cases R with
  | v d => exact h.2
  | c c => exact StOk.last h
  | al i =>
    obtain ⟨s, hi, hv⟩ := h
    exact (s.left hl).slot (by omega) hv
theorem SlOk.up {F' H' : Hp} {d : D} (e : Same F F') (h : SlOk K F H v (.va d)) : SlOk K F' H' v (.va d) := dp_mono e _ _ h
end

/-- the reading of an expression by slots -/
def tA (K : PySem.W.Frag) (ρ : List Sl) (Φ : Rs → List Sl → Prop) : TE := fun σ H Q => ∃ (F : Hp) (ρτ : List Sl) (στ : L2.St), ρ.length = σ.length ∧ StOk K F H (ρ ++ ρτ) (σ ++ στ) ∧
  ∀ (v : V) (H' F' : Hp) (R : Rs) (ρ' : List Sl), Same F F' → ρ'.length = σ.length → ROk K F' H' ρ' ρτ σ στ v R → Φ R ρ' → Q v H'
structure AE (X : Cx) (e : Expr) (ρ : List Sl) (Φ : Rs → List Sl → Prop) : Prop where
  pe : PE X e (tA X.K ρ Φ)
/-- .. any of them -/
def AnyA (X : Cx) (e : Expr) : TE := fun σ H Q => ∃ (ρ : List Sl) (Φ : Rs → List Sl → Prop), AE X e ρ Φ ∧ tA X.K ρ Φ σ H Q
def tT (K : PySem.W.Frag) (ρ : List Sl) (Φ : Bool → List Sl → Prop) : TT := fun σ H Q => ∃ (F : Hp) (ρτ : List Sl) (στ : L2.St), ρ.length = σ.length ∧ StOk K F H (ρ ++ ρτ) (σ ++ στ) ∧
  ∀ (b : Bool) (H' F' : Hp) (ρ' : List Sl), Same F F' → ρ'.length = σ.length → StOk K F' H' (ρ' ++ ρτ) (σ ++ στ) → Φ b ρ' → Q b H'
structure AT (X : Cx) (e : Expr) (ρ : List Sl) (Φ : Bool → List Sl → Prop) : Prop where
  pt : PT X e (tT X.K ρ Φ)
def AnyT (X : Cx) (e : Expr) : TT := fun σ H Q => ∃ (ρ : List Sl) (Φ : Bool → List Sl → Prop), AT X e ρ Φ ∧ tT X.K ρ Φ σ H Q
structure AW (X : Cx) (e : Expr) (ρ : List Sl) (Φ : Bool → List Sl → Prop) : Prop where
  pw : PW X e (tT X.K ρ Φ)
def AnyW (X : Cx) (e : Expr) : TT := fun σ H Q => ∃ (ρ : List Sl) (Φ : Bool → List Sl → Prop), AW X e ρ Φ ∧ tT X.K ρ Φ σ H Q

section
variable {X : Cx} {e a b : Expr} {ρ : List Sl} {Φ Ψ : Rs → List Sl → Prop}
theorem pe_any : PE X e (AnyA X e) := ⟨fun pins s σ H Q I ⟨_, _, h, t⟩ => h.pe.run pins s σ H Q I t⟩
theorem pt_any : PT X e (AnyT X e) := ⟨fun pins s σ H Q I ⟨_, _, h, t⟩ => h.pt.run pins s σ H Q I t⟩
theorem pw_any : PW X e (AnyW X e) := ⟨fun wh pins s σ H Q I ⟨_, _, h, t⟩ => h.pw.run wh pins s σ H Q I t⟩
theorem AE.of {t : TE} (p : PE X e t) (m : ∀ σ H Q, tA X.K ρ Φ σ H Q → t σ H Q) : AE X e ρ Φ := ⟨⟨fun pins s σ H Q I h => p.run pins s σ H Q I (m _ _ _ h)⟩⟩
theorem AT.of {t : TT} {Φ : Bool → List Sl → Prop} (p : PT X e t) (m : ∀ σ H Q, tT X.K ρ Φ σ H Q → t σ H Q) : AT X e ρ Φ := ⟨⟨fun pins s σ H Q I h => p.run pins s σ H Q I (m _ _ _ h)⟩⟩
theorem AW.of {t : TT} {Φ : Bool → List Sl → Prop} (p : PW X e t) (m : ∀ σ H Q, tT X.K ρ Φ σ H Q → t σ H Q) : AW X e ρ Φ := ⟨⟨fun wh pins s σ H Q I h => p.run wh pins s σ H Q I (m _ _ _ h)⟩⟩
theorem AW.at {Φ : Bool → List Sl → Prop} (h : AW X e ρ Φ) : AT X e ρ Φ := ⟨h.pw.pt⟩
theorem AE.mono (h : AE X e ρ Φ) (m : ∀ R ρ', Φ R ρ' → Ψ R ρ') : AE X e ρ Ψ :=
  .of h.pe fun σ H Q ⟨F, ρτ, στ, hl, st, k⟩ => ⟨F, ρτ, στ, hl, st, fun v H' F' R ρ' s l r q => k v H' F' R ρ' s l r (m _ _ q)⟩
theorem AT.mono {Φ Ψ : Bool → List Sl → Prop} (h : AT X e ρ Φ) (m : ∀ b ρ', Φ b ρ' → Ψ b ρ') : AT X e ρ Ψ :=
  .of h.pt fun σ H Q ⟨F, ρτ, στ, hl, st, k⟩ => ⟨F, ρτ, στ, hl, st, fun v H' F' ρ' s l r q => k v H' F' ρ' s l r (m _ _ q)⟩

/-! ### leaves -/
theorem ae_int {i : Int} {j pos} (h : Φ (.v (.int i)) ρ) : AE X (.Constant (.int i) j pos) ρ Φ :=
  .of pe_int fun σ H Q ⟨F, ρτ, στ, hl, st, k⟩ => k _ H F (.v (.int i)) ρ (Same.refl F) hl ⟨st, .int i⟩ h
theorem ae_bl {c : Bool} {j pos} (h : Φ (.v (.bool c)) ρ) : AE X (.Constant (.bool c) j pos) ρ Φ :=
  .of pe_bl fun σ H Q ⟨F, ρτ, στ, hl, st, k⟩ => k _ H F (.v (.bool c)) ρ (Same.refl F) hl ⟨st, .bl c⟩ h
theorem ae_non {j pos} (h : Φ (.v .none) ρ) : AE X (.Constant .none j pos) ρ Φ :=
  .of pe_non fun σ H Q ⟨F, ρτ, στ, hl, st, k⟩ => k _ H F (.v .none) ρ (Same.refl F) hl ⟨st, .non⟩ h
theorem ae_str {x : Str} {j pos} (h : Φ (.v (.str x)) ρ) : AE X (.Constant (.str x) j pos) ρ Φ :=
  .of pe_str fun σ H Q ⟨F, ρτ, στ, hl, st, k⟩ => k _ H F (.v (.str x)) ρ (Same.refl F) hl ⟨st, .str x⟩ h
def live : Sl → Bool
  | .no => false
  | _ => true
theorem StOk.val {K : PySem.W.Frag} {F H : Hp} {ρ : List Sl} {σ : L2.St} (s : StOk K F H ρ σ) {i : Nat} (h : live (ρ.getD i .no) = true) : i < ρ.length ∧ ∃ v, σ[i]? = some (some v) := by
  cases q : ρ[i]? with
  | none => rw [List.getD_eq_getElem?_getD, q] at h; cases h
  | some x =>
    refine ⟨(List.getElem?_eq_some_iff.mp q).1, ?_⟩
    rw [getD_of q] at h
    cases x with
    | no => cases h
    | va d => obtain ⟨v, h1, _⟩ := s.va i d q; exact ⟨v, h1⟩
    | ce c => obtain ⟨a, h1, _⟩ := s.ce i c q; exact ⟨_, h1⟩
theorem ae_name (i : Nat) {x : Str} {pos : Pos} (h : Φ (.al i) ρ) (hs : live (ρ.getD i .no) = true := by rfl) (hN : X.N[i]? = some x := by rfl)
    (hv : Vis X.env.scope x := by first | exact Or.inl rfl | exact Or.inr (Or.inl rfl) | exact Or.inr (Or.inr rfl)) (hd : (x == ("__debug__" : Str)) = false := by decide) (hcd : (x == ("__classdict__" : Str)) = false := by decide) :
    AE X (.Name x pos) ρ Φ :=
  .of (pe_var hN hv hd hcd) fun σ H Q ⟨F, ρτ, στ, hl, st, k⟩ => by
    obtain ⟨hi, v, hv⟩ := (st.left hl).val hs
    exact ⟨v, hv, k v H F (.al i) ρ (Same.refl F) hl ⟨st, by omega, hv⟩ h⟩
end

/-! ### two operands -/
/-- an operation on values whose answer is data; C what it answers -/
def OpOk (X : Cx) (r : R2) (C : Sl → Sl → D → Prop) : Prop :=
  ∀ (F H : Hp) (ρ : List Sl) (σ : L2.St) (v1 v2 : V) (s1 s2 : Sl) (d : D) (Q : VK), StOk X.K F H ρ σ → SlOk X.K F H v1 s1 → SlOk X.K F H v2 s2 → C s1 s2 d →
    (∀ v H' F', Same F F' → (∀ ρ' σ', StOk X.K F H ρ' σ' → StOk X.K F' H' ρ' σ') → Rp X.K F' v d → Q v H') → r v1 v2 H Q
/-- .. a new list -/
def LOpOk (X : Cx) (r : R2) (C : Sl → Sl → List D → Prop) : Prop :=
  ∀ (F H : Hp) (ρ : List Sl) (σ : L2.St) (v1 v2 : V) (s1 s2 : Sl) (ds : List D) (Q : VK), StOk X.K F H ρ σ → SlOk X.K F H v1 s1 → SlOk X.K F H v2 s2 → C s1 s2 ds →
    (∀ p vs, H p = none → RpAll X.K F vs ds → Q (.ref p) (upd H p (.lst vs))) → r v1 v2 H Q
section
variable {X : Cx} {e a b : Expr} {ρ : List Sl} {Φ : Rs → List Sl → Prop}
/-- an operand, then the other one: what is known of both -/
theorem two {Ga : Sl → Sl → List Sl → Prop} {σ : L2.St} {H : Hp} {Q : VK} {r : R2} {F : Hp} {ρτ : List Sl} {στ : L2.St} (hl : ρ.length = σ.length) (st : StOk X.K F H (ρ ++ ρτ) (σ ++ στ))
    (ha : AE X a ρ fun R1 ρ1 => AE X b ρ1 fun R2 ρ2 => Ga (rsSl ρ2 R1) (rsSl ρ2 R2) ρ2)
    (k : ∀ (s1 s2 : Sl) (ρ2 : List Sl) (F2 H2 : Hp) (v1 v2 : V), Ga s1 s2 ρ2 → Same F F2 → ρ2.length = σ.length → StOk X.K F2 H2 (ρ2 ++ ρτ) (σ ++ στ) → SlOk X.K F2 H2 v1 s1 → SlOk X.K F2 H2 v2 s2 → r v1 v2 H2 Q) :
    tOp r (AnyA X a) (AnyA X b) σ H Q := by
  refine ⟨ρ, _, ha, F, ρτ, στ, hl, st, fun v1 H1 F1 R1 ρ1 s1 l1 r1 q1 => ?_⟩
  cases R1 with
  | v d =>
    refine ⟨ρ1, _, q1, F1, ρτ, στ, l1, r1.1, fun v2 H2 F2 R2 ρ2 s2 l2 r2 q2 => ?_⟩
    exact k _ _ ρ2 F2 H2 v1 v2 q2 (s1.trans s2) l2 (r2.st l2) (dp_mono s2 _ _ r1.2) (r2.slOk l2)
  | c c =>
    have r1' : StOk X.K F1 H1 (ρ1 ++ (ρτ ++ [.ce c])) (σ ++ (στ ++ [some v1])) := r1
    refine ⟨ρ1, _, q1, F1, ρτ ++ [.ce c], στ ++ [some v1], l1, r1', fun v2 H2 F2 R2 ρ2 s2 l2 r2 q2 => ?_⟩
    have t := r2.st l2
    exact k _ _ ρ2 F2 H2 v1 v2 q2 (s1.trans s2) l2 (t.drop l2) t.last (r2.slOk l2)
  | al i =>
    refine ⟨ρ1, _, q1, F1, ρτ, στ, l1, r1.1, fun v2 H2 F2 R2 ρ2 s2 l2 r2 q2 => ?_⟩
    have t := r2.st l2
    exact k _ _ ρ2 F2 H2 v1 v2 q2 (s1.trans s2) l2 t ((t.left l2).slot (by have := r1.2.1; omega) r1.2.2) (r2.slOk l2)
theorem ae_bin {op : Operator} {r : R2} {C : Sl → Sl → D → Prop} {pos : Pos} (ho : OpR X (binaryOp op) r) (hC : OpOk X r C)
    (h : AE X a ρ fun R1 ρ1 => AE X b ρ1 fun R2 ρ2 => ∃ d, C (rsSl ρ2 R1) (rsSl ρ2 R2) d ∧ Φ (.v d) ρ2) : AE X (.BinOp a op b pos) ρ Φ :=
  .of (pe_op ho pe_any pe_any) fun σ H Q ⟨F, ρτ, στ, hl, st, k⟩ => two (Ga := fun s1 s2 ρ2 => ∃ d, C s1 s2 d ∧ Φ (.v d) ρ2) hl st h fun s1 s2 ρ2 F2 H2 v1 v2 ⟨d, hd, q⟩ e l t o1 o2 =>
    hC F2 H2 _ _ v1 v2 s1 s2 d Q t o1 o2 hd fun v H3 F3 e3 up dv => k v H3 F3 (.v d) ρ2 (e.trans e3) l ⟨up _ _ t, dv⟩ q
theorem ae_cmp {op : CmpOp} {r : R2} {C : Sl → Sl → D → Prop} {pos : Pos} (ho : OpR X (compareOp op) r) (hC : OpOk X r C) (hm : behindInMarks op b = false)
    (h : AE X a ρ fun R1 ρ1 => AE X b ρ1 fun R2 ρ2 => ∃ d, C (rsSl ρ2 R1) (rsSl ρ2 R2) d ∧ Φ (.v d) ρ2) : AE X (.Compare a [op] [b] pos) ρ Φ :=
  .of (pe_cmpR ho pe_any pe_any hm) fun σ H Q ⟨F, ρτ, στ, hl, st, k⟩ => two (Ga := fun s1 s2 ρ2 => ∃ d, C s1 s2 d ∧ Φ (.v d) ρ2) hl st h fun s1 s2 ρ2 F2 H2 v1 v2 ⟨d, hd, q⟩ e l t o1 o2 =>
    hC F2 H2 _ _ v1 v2 s1 s2 d Q t o1 o2 hd fun v H3 F3 e3 up dv => k v H3 F3 (.v d) ρ2 (e.trans e3) l ⟨up _ _ t, dv⟩ q
theorem at_cmp {Φ : Bool → List Sl → Prop} {op : CmpOp} {r : R2} {C : Sl → Sl → D → Prop} {pos : Pos} (ho : OpR X (compareOp op) r) (hC : OpOk X r C) (hm : behindInMarks op b = false)
    (h : AE X a ρ fun R1 ρ1 => AE X b ρ1 fun R2 ρ2 => ∃ k, C (rsSl ρ2 R1) (rsSl ρ2 R2) (.bool k) ∧ Φ k ρ2) : AT X (.Compare a [op] [b] pos) ρ Φ :=
  .of (pt_cmpR ho pe_any pe_any hm) fun σ H Q ⟨F, ρτ, στ, hl, st, k⟩ => two (Ga := fun s1 s2 ρ2 => ∃ k, C s1 s2 (.bool k) ∧ Φ k ρ2) hl st h fun s1 s2 ρ2 F2 H2 v1 v2 ⟨d, hd, q⟩ e l t o1 o2 =>
    hC F2 H2 _ _ v1 v2 s1 s2 (.bool d) _ t o1 o2 hd fun v H3 F3 e3 up dv => by
      cases dv
      exact ⟨d, rfl, k d H3 F3 ρ2 (e.trans e3) l (up _ _ t) q⟩
theorem ae_binL {op : Operator} {r : R2} {C : Sl → Sl → List D → Prop} {pos : Pos} (ho : OpR X (binaryOp op) r) (hC : LOpOk X r C)
    (h : AE X a ρ fun R1 ρ1 => AE X b ρ1 fun R2 ρ2 => ∃ ds, C (rsSl ρ2 R1) (rsSl ρ2 R2) ds ∧ Φ (.c (.lst ds)) ρ2) : AE X (.BinOp a op b pos) ρ Φ :=
  .of (pe_op ho pe_any pe_any) fun σ H Q ⟨F, ρτ, στ, hl, st, k⟩ => two (Ga := fun s1 s2 ρ2 => ∃ ds, C s1 s2 ds ∧ Φ (.c (.lst ds)) ρ2) hl st h fun s1 s2 ρ2 F2 H2 v1 v2 ⟨ds, hd, q⟩ e l t o1 o2 =>
    hC F2 H2 _ _ v1 v2 s1 s2 ds Q t o1 o2 hd fun p vs hp dv => k _ _ F2 (.c (.lst ds)) ρ2 e l (by
      show StOk _ _ _ _ _
      rw [← List.append_assoc, ← List.append_assoc]
      exact t.addCe hp fun F' e' => ⟨vs, upd_same, dpAll_mono e' _ _ dv⟩) q
end

/-! ### operations on data -/
inductive cII (f : Int → Int → D) (s1 : Sl) (s2 : Sl) (d : D) : Prop
  | mk (i : Int) (j : Int) : s1 = .va (.int i) → s2 = .va (.int j) → d = f i j → cII f s1 s2 d
inductive cIIc (P : Int → Int → Prop) (f : Int → Int → D) (s1 : Sl) (s2 : Sl) (d : D) : Prop
  | mk (i : Int) (j : Int) : s1 = .va (.int i) → s2 = .va (.int j) → P i j → d = f i j → cIIc P f s1 s2 d
section
variable {X : Cx}
theorem dp_int {K : PySem.W.Frag} {F : Hp} {v : V} {i : Int} (h : Rp K F v (.int i)) : v = .int i := by cases h; rfl
theorem dp_bool {K : PySem.W.Frag} {F : Hp} {v : V} {i : Bool} (h : Rp K F v (.bool i)) : v = .bl i := by cases h; rfl
theorem dp_none {K : PySem.W.Frag} {F : Hp} {v : V} (h : Rp K F v .none) : v = .non := by cases h; rfl
theorem dp_str {K : PySem.W.Frag} {F : Hp} {v : V} {i : Str} (h : Rp K F v (.str i)) : v = .str i := by cases h; rfl
theorem ok_I0 {g : Int → Int → Int} : OpOk X (rI0 fun i j => .int (g i j)) (cII fun i j => .int (g i j)) := fun F H ρ σ v1 v2 s1 s2 d Q st o1 o2 ⟨i, j, e1, e2, e3⟩ k => by
  subst e1; subst e2; subst e3
  exact ⟨i, j, dp_int o1, dp_int o2, k _ H F (Same.refl F) (fun _ _ q => q) (.int _)⟩
theorem ok_B0 {g : Int → Int → Bool} : OpOk X (rI0 fun i j => .bl (g i j)) (cII fun i j => .bool (g i j)) := fun F H ρ σ v1 v2 s1 s2 d Q st o1 o2 ⟨i, j, e1, e2, e3⟩ k => by
  subst e1; subst e2; subst e3
  exact ⟨i, j, dp_int o1, dp_int o2, k _ H F (Same.refl F) (fun _ _ q => q) (.bl _)⟩
theorem ok_I {P : Int → Int → Prop} {g : Int → Int → Int} : OpOk X (rI P fun i j => .int (g i j)) (cIIc P fun i j => .int (g i j)) := fun F H ρ σ v1 v2 s1 s2 d Q st o1 o2 ⟨i, j, e1, e2, e3, e4⟩ k => by
  subst e1; subst e2; subst e4
  exact ⟨i, j, dp_int o1, dp_int o2, e3, k _ H F (Same.refl F) (fun _ _ q => q) (.int _)⟩
/-- data, wherever it stands -/
def slD : Sl → Option D
  | .va d => some d
  | .ce (.lst ds) => some (.list ds)
  | _ => none
theorem slD_dp {K : PySem.W.Frag} {F H : Hp} {v : V} {s : Sl} {d : D} (sub : Same F H) (h : SlOk K F H v s) (e : slD s = some d) (c : SeqAt.shaped d = true) : Dp K H v d := by
  refine rp_dp _ _ (SeqAt.canLay_of_shaped c) ?_
  cases s with
  | no => cases e
  | va x => cases e; exact dp_mono sub _ _ h
  | ce c =>
    cases c with
    | lst ds =>
      cases e
      obtain ⟨a, rfl, _, vs, h1, h2⟩ := h
      exact .lst h1 (dpAll_mono sub _ _ h2)
    | box => cases e
    | dT _ => cases e
    | dK _ => cases e
inductive cEq (s1 : Sl) (s2 : Sl) (d : D) : Prop
  | mk (x : D) (y : D) : slD s1 = some x → slD s2 = some y → SeqAt.shaped x = true → SeqAt.shaped y = true → d = .bool (PyData.eqv x y) → cEq s1 s2 d
inductive cNe (s1 : Sl) (s2 : Sl) (d : D) : Prop
  | mk (x : D) (y : D) : slD s1 = some x → slD s2 = some y → SeqAt.shaped x = true → SeqAt.shaped y = true → d = .bool (!PyData.eqv x y) → cNe s1 s2 d
theorem ok_eqD : OpOk X (rEqD X.K) cEq := fun F H ρ σ v1 v2 s1 s2 d Q st o1 o2 ⟨x, y, e1, e2, h1, h2, e⟩ k => by
  subst e
  exact ⟨x, y, slD_dp st.sub o1 e1 h1, slD_dp st.sub o2 e2 h2, h1, h2, k _ H F (Same.refl F) (fun _ _ q => q) (.bl _)⟩
theorem ok_neD : OpOk X (rNeD X.K) cNe := fun F H ρ σ v1 v2 s1 s2 d Q st o1 o2 ⟨x, y, e1, e2, h1, h2, e⟩ k => by
  subst e
  exact ⟨x, y, slD_dp st.sub o1 e1 h1, slD_dp st.sub o2 e2 h2, h1, h2, k _ H F (Same.refl F) (fun _ _ q => q) (.bl _)⟩
/-- x in a list, of any depth -/
inductive cInL (s1 : Sl) (s2 : Sl) (d : D) : Prop
  | mk (x : D) (ds : List D) : slD s1 = some x → slD s2 = some (.list ds) → SeqAt.shaped x = true → SeqAt.shaped (.list ds) = true → d = .bool (ds.any fun z => PyData.eqv z x) → cInL s1 s2 d
inductive cNotInL (s1 : Sl) (s2 : Sl) (d : D) : Prop
  | mk (x : D) (ds : List D) : slD s1 = some x → slD s2 = some (.list ds) → SeqAt.shaped x = true → SeqAt.shaped (.list ds) = true → d = .bool (!ds.any fun z => PyData.eqv z x) → cNotInL s1 s2 d
theorem ok_inL : OpOk X (rInD X.K) cInL := fun F H ρ σ v1 v2 s1 s2 d Q st o1 o2 ⟨x, y, e1, e2, h1, h2, e⟩ k => by
  subst e
  exact ⟨x, y, slD_dp st.sub o1 e1 h1, slD_dp st.sub o2 e2 h2, h1, h2, k _ H F (Same.refl F) (fun _ _ q => q) (.bl _)⟩
theorem ok_notInL : OpOk X (rNotInD X.K) cNotInL := fun F H ρ σ v1 v2 s1 s2 d Q st o1 o2 ⟨x, y, e1, e2, h1, h2, e⟩ k => by
  subst e
  exact ⟨x, y, slD_dp st.sub o1 e1 h1, slD_dp st.sub o2 e2 h2, h1, h2, k _ H F (Same.refl F) (fun _ _ q => q) (.bl _)⟩
/-- a number in a list or a tuple of numbers -/
def slInts : Sl → Option (List D)
  | .va (.list ds) => some ds
  | .va (.dict [(.list ds, .none)]) => some ds
  | .va (.tuple ds) => some ds
  | .ce (.lst ds) => some ds
  | _ => none
theorem slInts_F {K : PySem.W.Frag} {F H : Hp} {v : V} {s : Sl} {ds : List D} (sub : Same F H) (h : SlOk K F H v s) (e : slInts s = some ds) : ∃ a vs, v = .ref a ∧ (SqL K H a vs ∨ H a = some (.tup vs)) ∧ RpAll K F vs ds := by
  unfold slInts at e
  split at e
  · cases e
    have h : Rp K F v (.list ds) := h
    cases h with
    | lst hs ha => exact ⟨_, _, rfl, .inl (SqL.of (sub _ _ hs)), ha⟩
  · cases e
    have h : Rp K F v (.dict [(.list ds, .none)]) := h
    cases h with
    | lok hs ha => exact ⟨_, _, rfl, .inl (sub.seq hs), ha⟩
  · cases e
    have h : Rp K F v (.tuple ds) := h
    cases h with
    | tup hs ha => exact ⟨_, _, rfl, .inr (sub _ _ hs), ha⟩
  · cases e
    obtain ⟨a, rfl, _, vs, h1, h2⟩ := h
    exact ⟨a, vs, rfl, .inl (SqL.of h1), h2⟩
  · cases e
theorem sq_or {K : PySem.W.Frag} {H : Hp} {a : Addr} {vs : List V} (h : SqL K H a vs ∨ H a = some (.tup vs)) : SqL K H a vs ∨ SqT K H a vs := h.imp id SqT.of
/-- the items of a list or a tuple, plain ones too -/
def slSq : Sl → Option (List D)
  | .va (.dict [(.tuple ds, .none)]) => some ds
  | s => slInts s
theorem slSq_F {K : PySem.W.Frag} {F H : Hp} {v : V} {s : Sl} {ds : List D} (sub : Same F H) (h : SlOk K F H v s) (e : slSq s = some ds) : ∃ a vs, v = .ref a ∧ (SqL K H a vs ∨ SqT K H a vs) ∧ RpAll K F vs ds := by
  unfold slSq at e
  split at e
  · cases e
    have h : Rp K F v (.dict [(.tuple ds, .none)]) := h
    cases h with
    | plt hs ho ha => exact ⟨_, _, rfl, .inr (.inl (.inr ⟨_, sub _ _ hs⟩)), ha⟩
  · obtain ⟨a, vs, e1, e2, e3⟩ := slInts_F sub h e
    exact ⟨a, vs, e1, sq_or e2, e3⟩
/-- a list's items, as list -/
def slLst : Sl → Option (List D)
  | .va (.list ds) => some ds
  | .ce (.lst ds) => some ds
  | _ => none
theorem slLst_F {K : PySem.W.Frag} {F H : Hp} {v : V} {s : Sl} {ds : List D} (sub : Same F H) (h : SlOk K F H v s) (e : slLst s = some ds) : ∃ a vs, v = .ref a ∧ H a = some (.lst vs) ∧ RpAll K F vs ds := by
  unfold slLst at e
  split at e
  · cases e
    have h : Rp K F v (.list ds) := h
    cases h with
    | lst hs ha => exact ⟨_, _, rfl, sub _ _ hs, ha⟩
  · cases e
    obtain ⟨a, rfl, _, vs, h1, h2⟩ := h
    exact ⟨a, vs, rfl, h1, h2⟩
  · cases e
theorem inV_ints (n : Int) : ∀ ns : List Int, inV (.int n) (ns.map V.int) = decide (n ∈ ns)
  | [] => by simp [inV]
  | m :: ns => by
    have ih := inV_ints n ns
    unfold inV at ih ⊢
    rw [List.map_cons, List.any_cons, ih]
    have : eqV (.int m) (.int n) = decide (m = n) := by
      simp only [eqV]
      exact Bool.beq_eq_decide_eq m n
    rw [this]
    by_cases h : m = n
    · subst h; simp
    · have h' : ¬ n = m := fun z => h z.symm
      simp [h, h']
theorem flat_ints : ∀ ns : List Int, (ns.map V.int).all flatV = true
  | [] => rfl
  | n :: ns => by rw [List.map_cons, List.all_cons, flat_ints ns]; rfl
inductive cInI (s1 : Sl) (s2 : Sl) (d : D) : Prop
  | mk (n : Int) (ns : List Int) : s1 = .va (.int n) → slSq s2 = some (ns.map PyData.int) → d = .bool (decide (n ∈ ns)) → cInI s1 s2 d
inductive cNotInI (s1 : Sl) (s2 : Sl) (d : D) : Prop
  | mk (n : Int) (ns : List Int) : s1 = .va (.int n) → slSq s2 = some (ns.map PyData.int) → d = .bool (!decide (n ∈ ns)) → cNotInI s1 s2 d
theorem ok_inI : OpOk X (rIn X.K false) cInI := fun F H ρ σ v1 v2 s1 s2 d Q st o1 o2 ⟨n, ns, e1, e2, e⟩ k => by
  subst e1; subst e
  obtain rfl := dp_int o1
  obtain ⟨a, vs, rfl, hs, ha⟩ := slSq_F st.sub o2 e2
  obtain rfl := dpAll_ints ha
  refine ⟨a, _, rfl, hs, rfl, flat_ints ns, ?_⟩
  rw [inV_ints]
  exact k _ H F (Same.refl F) (fun _ _ q => q) (.bl _)
theorem ok_notInI : OpOk X (rIn X.K true) cNotInI := fun F H ρ σ v1 v2 s1 s2 d Q st o1 o2 ⟨n, ns, e1, e2, e⟩ k => by
  subst e1; subst e
  obtain rfl := dp_int o1
  obtain ⟨a, vs, rfl, hs, ha⟩ := slSq_F st.sub o2 e2
  obtain rfl := dpAll_ints ha
  refine ⟨a, _, rfl, hs, rfl, flat_ints ns, ?_⟩
  rw [inV_ints]
  exact k _ H F (Same.refl F) (fun _ _ q => q) (.bl _)
/-- two lists glued -/
inductive cCat (s1 : Sl) (s2 : Sl) (ds : List D) : Prop
  | mk (xs : List D) (ys : List D) : slLst s1 = some xs → slLst s2 = some ys → xs.length + ys.length ≤ 1000000 → ds = xs ++ ys → cCat s1 s2 ds
theorem line_of {n : Nat} (h : n ≤ 1000000) : n ≤ sizeLine := by rw [sizeLine_eq]; omega
theorem ok_cat : LOpOk X rCat cCat := fun F H ρ σ v1 v2 s1 s2 ds Q st o1 o2 ⟨xs, ys, e1, e2, hz, e⟩ k => by
  subst e
  obtain ⟨a, vs, rfl, h1, h2⟩ := slLst_F st.sub o1 e1
  obtain ⟨b, us, rfl, g1, g2⟩ := slLst_F st.sub o2 e2
  refine ⟨a, b, vs, us, rfl, rfl, h1, g1, ?_, fun p hp => k p _ hp (dpAll_app h2 g2)⟩
  rw [dpAll_len h2, dpAll_len g2]
  exact line_of hz
/-- two tuples glued -/
inductive cCatT (s1 : Sl) (s2 : Sl) (d : D) : Prop
  | mk (xs : List D) (ys : List D) : s1 = .va (.tuple xs) → s2 = .va (.tuple ys) → xs.length + ys.length ≤ 1000000 → d = .tuple (xs ++ ys) → cCatT s1 s2 d
theorem dpAll_nil {K : PySem.W.Frag} {F : Hp} {vs : List V} {ds : List D} (h : RpAll K F vs ds) (e : vs = []) : ds = [] := by subst e; cases h; rfl
theorem dpAll_nil' {K : PySem.W.Frag} {F : Hp} {vs : List V} {ds : List D} (h : RpAll K F vs ds) (e : ds = []) : vs = [] := by subst e; cases h; rfl
theorem ok_catT : OpOk X (rCatA X.K) cCatT := fun F H ρ σ v1 v2 s1 s2 d Q st o1 o2 ⟨xs, ys, e1, e2, hz, e⟩ k => by
  subst e1; subst e2; subst e
  have o1 : Rp X.K F v1 (.tuple xs) := o1
  have o2 : Rp X.K F v2 (.tuple ys) := o2
  cases o1 with
  | tup hs ha =>
    cases o2 with
    | tup gs ga =>
      rename_i a vs b us
      refine ⟨a, b, vs, us, rfl, rfl, SqT.of (st.sub _ _ hs), SqT.of (st.sub _ _ gs), by rw [dpAll_len ha, dpAll_len ga]; exact line_of hz, fun e => ?_, fun _ e => ?_, fun _ _ p hp => ?_⟩
      · refine k _ H F (Same.refl F) (fun _ _ q => q) ?_
        rw [dpAll_nil ha e, List.nil_append]
        exact .tup gs ga
      · refine k _ H F (Same.refl F) (fun _ _ q => q) ?_
        rw [dpAll_nil ga e, List.append_nil]
        exact .tup hs ha
      · have hF : F p = none := st.sub.free hp
        have eF : Same F (upd F p (.tup (vs ++ us))) := same_new hF
        exact k _ _ _ eF (fun _ _ q => q.grow hp _) (.tup upd_same (dpAll_mono eF _ _ (dpAll_app ha ga)))
end
end Ab
namespace Ab
open PySem PySem.Spec PyProof.Rows L2

/-! ### statements -/
def outSl : Rs → Sl
  | .v d => .va d
  | .c c => .ce c
  | .al _ => .no
structure Ks where
  nx : List Sl → Prop
  rt : Rs → List Sl → Prop
  bk : List Sl → Prop
  ct : List Sl → Prop
/-- the slots at κ are never stored to -/
def Kept (κ : Nat → Bool) (σ σ' : L2.St) : Prop := ∀ i, κ i = true → σ'[i]? = σ[i]?
theorem Kept.refl (κ : Nat → Bool) (σ : L2.St) : Kept κ σ σ := fun _ _ => rfl
theorem Kept.trans {κ : Nat → Bool} {a b c : L2.St} (h : Kept κ a b) (g : Kept κ b c) : Kept κ a c := fun i hi => (g i hi).trans (h i hi)
def WNx (K : PySem.W.Frag) (κ : Nat → Bool) (F : Hp) (ρτ : List Sl) (στ σ : L2.St) (k : List Sl → Prop) (D : L2.St → Hp → Prop) : Prop :=
  ∀ (σ' : L2.St) (H' F' : Hp) (ρ' : List Sl), Same F F' → σ'.length = σ.length → ρ'.length = σ.length → Kept κ σ σ' → StOk K F' H' (ρ' ++ ρτ) (σ' ++ στ) → k ρ' → D σ' H'
def WRt (K : PySem.W.Frag) (κ : Nat → Bool) (F : Hp) (ρτ : List Sl) (στ σ : L2.St) (k : Rs → List Sl → Prop) (D : VK) : Prop :=
  ∀ (v : V) (σ' : L2.St) (H' F' : Hp) (ρ' : List Sl) (r : Rs), (∀ i, r ≠ .al i) → Same F F' → σ'.length = σ.length → ρ'.length = σ.length → Kept κ σ σ' → StOk K F' H' (ρ' ++ (ρτ ++ [outSl r])) (σ' ++ (στ ++ [some v])) → k r ρ' → D v H'
def tS (K : PySem.W.Frag) (κ : Nat → Bool) (ρ : List Sl) (k : Ks) : TS := fun D σ H => ∃ (F : Hp) (ρτ : List Sl) (στ : L2.St), ρ.length = σ.length ∧ StOk K F H (ρ ++ ρτ) (σ ++ στ) ∧
  WNx K κ F ρτ στ σ k.nx D.nx ∧ WRt K κ F ρτ στ σ k.rt D.rt ∧ WNx K κ F ρτ στ σ k.bk D.bk ∧ WNx K κ F ρτ στ σ k.ct D.ct
structure AS (X : Cx) (κ : Nat → Bool) (st : Stmt) (ρ : List Sl) (k : Ks) : Prop where
  ps : PS X st (tS X.K κ ρ k)
structure ASs (X : Cx) (κ : Nat → Bool) (sts : List Stmt) (ρ : List Sl) (k : Ks) : Prop where
  ps : PSs X sts (tS X.K κ ρ k)
def AnyS (X : Cx) (κ : Nat → Bool) (sts : List Stmt) : TS := fun D σ H => ∃ (ρ : List Sl) (k : Ks), ASs X κ sts ρ k ∧ tS X.K κ ρ k D σ H
section
variable {K : PySem.W.Frag} {κ : Nat → Bool} {F F' : Hp} {ρτ : List Sl} {στ σ σ' : L2.St}
theorem WNx.up {k : List Sl → Prop} {D : L2.St → Hp → Prop} (h : WNx K κ F ρτ στ σ k D) (e : Same F F') (l : σ'.length = σ.length) (kp : Kept κ σ σ') : WNx K κ F' ρτ στ σ' k D :=
  fun σ2 H2 F2 ρ2 e2 l2 l3 kp2 s q => h σ2 H2 F2 ρ2 (e.trans e2) (l2.trans l) (l3.trans l) (kp.trans kp2) s q
theorem WRt.up {k : Rs → List Sl → Prop} {D : VK} (h : WRt K κ F ρτ στ σ k D) (e : Same F F') (l : σ'.length = σ.length) (kp : Kept κ σ σ') : WRt K κ F' ρτ στ σ' k D :=
  fun v σ2 H2 F2 ρ2 r na e2 l2 l3 kp2 s q => h v σ2 H2 F2 ρ2 r na (e.trans e2) (l2.trans l) (l3.trans l) (kp.trans kp2) s q
end
section
variable {X : Cx} {κ : Nat → Bool} {st : Stmt} {rest a b : List Stmt} {ρ : List Sl} {k : Ks} {e : Expr} {pos : Pos}
theorem pss_any : PSs X rest (AnyS X κ rest) := ⟨fun pins s σ H D I ⟨_, _, h, t⟩ => h.ps.run pins s σ H D I t⟩
theorem AS.of {t : TS} (p : PS X st t) (m : ∀ D σ H, tS X.K κ ρ k D σ H → t D σ H) : AS X κ st ρ k := ⟨⟨fun pins s σ H D I h => p.run pins s σ H D I (m _ _ _ h)⟩⟩
theorem ASs.of {t : TS} (p : PSs X rest t) (m : ∀ D σ H, tS X.K κ ρ k D σ H → t D σ H) : ASs X κ rest ρ k := ⟨⟨fun pins s σ H D I h => p.run pins s σ H D I (m _ _ _ h)⟩⟩
theorem as_nil (h : k.nx ρ) : ASs X κ [] ρ k := .of pss_nil fun D σ H ⟨F, ρτ, στ, hl, s, n, _⟩ => n σ H F ρ (Same.refl F) rfl hl (Kept.refl κ σ) s h
theorem as_cons (h : AS X κ st ρ { k with nx := fun ρ' => ASs X κ rest ρ' k }) : ASs X κ (st :: rest) ρ k := by
  refine .of (pss_cons h.ps (pss_any (κ := κ))) fun D σ H ⟨F, ρτ, στ, hl, s, n, r, bk, ct⟩ => ?_
  refine ⟨F, ρτ, στ, hl, s, fun σ' H' F' ρ' e l1 l2 kp s' q => ?_, r, bk, ct⟩
  exact ⟨ρ', k, q, F', ρτ, στ, l2.trans l1.symm, s', n.up e l1 kp, r.up e l1 kp, bk.up e l1 kp, ct.up e l1 kp⟩
/-- the last statement -/
theorem as_one (h : AS X κ st ρ k) : ASs X κ [st] ρ k := .of (pss_one h.ps) fun D σ H q => q
theorem as_pass (h : k.nx ρ) : AS X κ (.Pass pos) ρ k := .of ps_pass fun D σ H ⟨F, ρτ, στ, hl, s, n, _⟩ => n σ H F ρ (Same.refl F) rfl hl (Kept.refl κ σ) s h
theorem as_break (h : k.bk ρ) : AS X κ (.Break pos) ρ k := .of ps_break fun D σ H ⟨F, ρτ, στ, hl, s, _, _, n, _⟩ => n σ H F ρ (Same.refl F) rfl hl (Kept.refl κ σ) s h
theorem as_continue (h : k.ct ρ) : AS X κ (.Continue pos) ρ k := .of ps_continue fun D σ H ⟨F, ρτ, στ, hl, s, _, _, _, n⟩ => n σ H F ρ (Same.refl F) rfl hl (Kept.refl κ σ) s h
theorem as_if {c : Expr} (h : AT X c ρ fun bb ρ' => (bb = true → ASs X κ a ρ' k) ∧ (bb = false → ASs X κ b ρ' k)) : AS X κ (.If c a b pos) ρ k := by
  refine .of (ps_if h.pt (pss_any (κ := κ)) (pss_any (κ := κ))) fun D σ H ⟨F, ρτ, στ, hl, s, n, r, bk, ct⟩ => ?_
  refine ⟨F, ρτ, στ, hl, s, fun bb H' F' ρ' e l s' q => ?_⟩
  have t : tS X.K κ ρ' k D σ H' := ⟨F', ρτ, στ, l, s', n.up e rfl (Kept.refl _ _), r.up e rfl (Kept.refl _ _), bk.up e rfl (Kept.refl _ _), ct.up e rfl (Kept.refl _ _)⟩
  cases bb with
  | true => exact ⟨ρ', k, q.1 rfl, t⟩
  | false => exact ⟨ρ', k, q.2 rfl, t⟩
/-- what a return hands out: r; ρ'' is left -/
inductive Rets : List Sl → Rs → Rs → List Sl → Prop
  | v {ρ : List Sl} {d : D} : Rets ρ (.v d) (.v d) ρ
  | c {ρ : List Sl} {c : Cn} : Rets ρ (.c c) (.c c) ρ
  | alv {ρ : List Sl} {i : Nat} {d : D} : ρ[i]? = some (.va d) → Rets ρ (.al i) (.v d) ρ
  | alc {ρ ρ' : List Sl} {i : Nat} {c : Cn} : ρ[i]? = some (.ce c) → SetAt ρ i .no ρ' → Rets ρ (.al i) (.c c) ρ'
theorem StOk.moved {K : PySem.W.Frag} {F H : Hp} {ρ ρτ : List Sl} {σ στ : L2.St} {i : Nat} {c : Cn} {v : V} (s : StOk K F H (ρ ++ ρτ) (σ ++ στ)) (hl : ρ.length = σ.length) (hi : ρ[i]? = some (.ce c)) (hv : σ[i]? = some (some v)) :
    StOk K F H (ρ.set i .no ++ (ρτ ++ [.ce c])) (σ ++ (στ ++ [some v])) := by
  have hil : i < ρ.length := (List.getElem?_eq_some_iff.mp hi).1
  have hτ : ρτ.length = στ.length := by
    have := s.len
    simp only [List.length_append] at this
    omega
  have key : ∀ (j : Nat) (x : Sl), x ≠ .no → (ρ.set i .no ++ (ρτ ++ [Sl.ce c]))[j]? = some x →
      (ρ ++ ρτ)[if j = ρ.length + ρτ.length then i else j]? = some x ∧ (σ ++ (στ ++ [some v]))[j]? = (σ ++ στ)[if j = ρ.length + ρτ.length then i else j]? ∧ (j = ρ.length + ρτ.length → True) ∧ (j ≠ ρ.length + ρτ.length → j ≠ i) := by
    intro j x hx q
    have hj := (List.getElem?_eq_some_iff.mp q).1
    simp only [List.length_append, List.length_set, List.length_cons, List.length_nil] at hj
    by_cases e : j = ρ.length + ρτ.length
    · subst e
      rw [if_pos rfl]
      rw [List.getElem?_append_right (by simp), List.getElem?_append_right (by simp)] at q
      simp at q
      subst q
      refine ⟨by rw [get_left hil]; exact hi, ?_, fun _ => trivial, fun z => absurd rfl z⟩
      rw [List.getElem?_append_right (by omega), List.getElem?_append_right (by omega), get_left (by omega), hv]
      have : ρ.length + ρτ.length - σ.length - στ.length = 0 := by omega
      rw [this]; rfl
    · rw [if_neg e]
      have ne : j ≠ i := by
        intro z
        subst z
        rw [get_left (by simpa using hil), List.getElem?_set_self hil] at q
        exact hx (Option.some.inj q).symm
      have hlt : j < ρ.length + ρτ.length := by omega
      refine ⟨?_, ?_, fun z => absurd z e, fun _ => ne⟩
      · by_cases h1 : j < ρ.length
        · rw [get_left (by simpa using h1), List.getElem?_set_ne (Ne.symm ne)] at q
          rw [get_left h1]; exact q
        · rw [List.getElem?_append_right (by simpa using Nat.not_lt.mp h1)] at q
          simp only [List.length_set] at q
          rw [get_left (by omega)] at q
          rw [List.getElem?_append_right (Nat.not_lt.mp h1)]
          exact q
      · rw [← List.append_assoc, get_left (by simp only [List.length_append]; omega)]
  refine s.sel (fun j => if j = ρ.length + ρτ.length then i else j) (by simp only [List.length_append, List.length_set, List.length_cons, List.length_nil]; omega) (fun j d q => ?_) (fun j x q => ?_) fun j l x y q1 q2 z => ?_
  · obtain ⟨h1, h2, _⟩ := key j _ (by intro z; cases z) q
    exact ⟨h1, h2⟩
  · obtain ⟨h1, h2, _⟩ := key j _ (by intro z; cases z) q
    exact ⟨h1, h2⟩
  · obtain ⟨_, _, _, n1⟩ := key j _ (by intro z; cases z) q1
    obtain ⟨_, _, _, n2⟩ := key l _ (by intro z; cases z) q2
    by_cases e1 : j = ρ.length + ρτ.length
    · by_cases e2 : l = ρ.length + ρτ.length
      · omega
      · simp only [if_pos e1, if_neg e2] at z
        exact absurd z.symm (n2 e2)
    · by_cases e2 : l = ρ.length + ρτ.length
      · simp only [if_neg e1, if_pos e2] at z
        exact absurd z (n1 e1)
      · simpa only [if_neg e1, if_neg e2] using z
theorem SetAt.len {ρ ρ' : List Sl} {i : Nat} {s : Sl} (h : SetAt ρ i s ρ') : ρ'.length = ρ.length := by rw [h.eq.1, List.length_set]
theorem StOk.addVa' {K : PySem.W.Frag} {F H : Hp} {ρ ρτ : List Sl} {σ στ : L2.St} {v : V} {d : D} (s : StOk K F H (ρ ++ ρτ) (σ ++ στ)) (h : Rp K F v d) : StOk K F H (ρ ++ (ρτ ++ [.va d])) (σ ++ (στ ++ [some v])) := by
  rw [← List.append_assoc, ← List.append_assoc]
  exact s.addVa h
theorem Rets.ok {K : PySem.W.Frag} {F H : Hp} {ρ ρ' ρτ : List Sl} {σ στ : L2.St} {v : V} {R r : Rs} (h : ROk K F H ρ ρτ σ στ v R) (hl : ρ.length = σ.length) (q : Rets ρ R r ρ') :
    ρ'.length = σ.length ∧ StOk K F H (ρ' ++ (ρτ ++ [outSl r])) (σ ++ (στ ++ [some v])) := by
  cases q with
  | v => exact ⟨hl, StOk.addVa' h.1 h.2⟩
  | c => exact ⟨hl, h⟩
  | alv e =>
    obtain ⟨s, hi, hv⟩ := h
    obtain ⟨u, h1, h2⟩ := (s.left hl).va _ _ e
    rw [hv] at h1
    cases h1
    exact ⟨hl, StOk.addVa' s h2⟩
  | alc e t =>
    obtain ⟨s, hi, hv⟩ := h
    refine ⟨t.len.trans hl, ?_⟩
    rw [t.eq.1]
    exact s.moved hl e hv
theorem Rets.na {ρ ρ' : List Sl} {R r : Rs} (q : Rets ρ R r ρ') : ∀ i, r ≠ .al i := by
  intro i z
  subst z
  cases q
theorem as_ret (h : AE X e ρ fun R ρ' => ∃ r ρ'', Rets ρ' R r ρ'' ∧ k.rt r ρ'') : AS X κ (.Return (some e) pos) ρ k := by
  refine .of (ps_ret h.pe) fun D σ H ⟨F, ρτ, στ, hl, s, n, r, bk, ct⟩ => ?_
  refine ⟨F, ρτ, στ, hl, s, fun v H' F' R ρ' e l ro ⟨q, ρ'', hr, hq⟩ => ?_⟩
  obtain ⟨l2, s2⟩ := hr.ok ro l
  exact r v σ H' F' ρ'' q hr.na e rfl l2 (Kept.refl κ σ) s2 hq
/-- a store to slot i: what R gives stands there behind -/
inductive Puts : List Sl → Nat → Rs → List Sl → Prop
  | v {ρ ρ' : List Sl} {i : Nat} {d : D} : SetAt ρ i (.va d) ρ' → Puts ρ i (.v d) ρ'
  | c {ρ ρ' : List Sl} {i : Nat} {c : Cn} : SetAt ρ i (.ce c) ρ' → Puts ρ i (.c c) ρ'
  | alv {ρ ρ' : List Sl} {i j : Nat} {d : D} : ρ[j]? = some (.va d) → SetAt ρ i (.va d) ρ' → Puts ρ i (.al j) ρ'
  | alc {ρ ρ1 ρ2 : List Sl} {i j : Nat} {c : Cn} : ρ[j]? = some (.ce c) → SetAt ρ j .no ρ1 → SetAt ρ1 i (.ce c) ρ2 → Puts ρ i (.al j) ρ2
theorem app_set_left {α : Type} {l m : List α} {i : Nat} {x : α} (h : i < l.length) : (l ++ m).set i x = l.set i x ++ m := List.set_append_left _ _ h
/-- a slot of the frame comes to slot i -/
theorem StOk.put2 {K : PySem.W.Frag} {F H : Hp} {ρ ρτ ρu : List Sl} {σ στ σu : L2.St} {i : Nat} {x : Sl} {v : V} (s : StOk K F H (ρ ++ (ρτ ++ x :: ρu)) (σ ++ (στ ++ some v :: σu))) (hl : ρ.length = σ.length) (hτ : ρτ.length = στ.length) (hi : i < ρ.length) :
    StOk K F H (ρ.set i x ++ (ρτ ++ ρu)) (σ.set i (some v) ++ (στ ++ σu)) := by
  have hu : ρu.length = σu.length := by
    have := s.len
    simp only [List.length_append, List.length_cons] at this
    omega
  have get3 : ∀ {α : Type} (a b c : List α) (y : α) (j : Nat), (j < a.length + b.length → (a ++ (b ++ y :: c))[j]? = (a ++ (b ++ c))[j]?) ∧ (a ++ (b ++ y :: c))[a.length + b.length]? = some y ∧ (a.length + b.length ≤ j → (a ++ (b ++ y :: c))[j + 1]? = (a ++ (b ++ c))[j]?) := by
    intro α a b c y j
    rw [show a ++ (b ++ y :: c) = (a ++ b) ++ y :: c from (List.append_assoc a b (y :: c)).symm, show a ++ (b ++ c) = (a ++ b) ++ c from (List.append_assoc a b c).symm]
    have e : (a ++ b).length = a.length + b.length := List.length_append
    refine ⟨fun h => ?_, ?_, fun h => ?_⟩
    · exact (get_left (l := a ++ b) (m := y :: c) (by omega)).trans (get_left (l := a ++ b) (m := c) (by omega)).symm
    · rw [List.getElem?_append_right (by omega), e, Nat.sub_self]; rfl
    · rw [List.getElem?_append_right (by omega), List.getElem?_append_right (by omega)]
      have : j + 1 - (a ++ b).length = (j - (a ++ b).length) + 1 := by omega
      rw [this]; rfl
  have key : ∀ (j : Nat) (y : Sl), (ρ.set i x ++ (ρτ ++ ρu))[j]? = some y → (ρ ++ (ρτ ++ x :: ρu))[if j = i then ρ.length + ρτ.length else if j < ρ.length + ρτ.length then j else j + 1]? = some y ∧
      (σ.set i (some v) ++ (στ ++ σu))[j]? = (σ ++ (στ ++ some v :: σu))[if j = i then ρ.length + ρτ.length else if j < ρ.length + ρτ.length then j else j + 1]? := by
    intro j y q
    by_cases e : j = i
    · subst e
      rw [if_pos rfl]
      rw [get_left (by simpa using hi), List.getElem?_set_self hi] at q
      refine ⟨(get3 ρ ρτ ρu x 0).2.1.trans q, ?_⟩
      rw [get_left (by simp; omega), List.getElem?_set_self (by omega), hl, hτ]
      exact (get3 σ στ σu (some v) 0).2.1.symm
    · have q' : (ρ ++ (ρτ ++ ρu))[j]? = some y := by
        by_cases h1 : j < ρ.length
        · rw [get_left (by simpa using h1), List.getElem?_set_ne (Ne.symm e)] at q
          rw [get_left h1]; exact q
        · rw [List.getElem?_append_right (by simpa using Nat.not_lt.mp h1)] at q
          rw [List.getElem?_append_right (by simpa using Nat.not_lt.mp h1)]
          simpa using q
      have r' : (σ.set i (some v) ++ (στ ++ σu))[j]? = (σ ++ (στ ++ σu))[j]? := by
        by_cases h1 : j < σ.length
        · rw [get_left (by simpa using h1), List.getElem?_set_ne (Ne.symm e), get_left h1]
        · rw [List.getElem?_append_right (by simpa using Nat.not_lt.mp h1), List.getElem?_append_right (Nat.not_lt.mp h1), List.length_set]
      rw [if_neg e, r']
      by_cases h2 : j < ρ.length + ρτ.length
      · rw [if_pos h2]
        exact ⟨((get3 ρ ρτ ρu x j).1 h2).trans q', ((get3 σ στ σu (some v) j).1 (by omega)).symm⟩
      · rw [if_neg h2]
        exact ⟨((get3 ρ ρτ ρu x j).2.2 (by omega)).trans q', ((get3 σ στ σu (some v) j).2.2 (by omega)).symm⟩
  refine s.sel (fun j => if j = i then ρ.length + ρτ.length else if j < ρ.length + ρτ.length then j else j + 1) (by simp only [List.length_append, List.length_set]; omega) (fun j d q => key j _ q) (fun j c q => key j _ q) fun j l c y q1 q2 z => ?_
  have z : (if j = i then ρ.length + ρτ.length else if j < ρ.length + ρτ.length then j else j + 1) = (if l = i then ρ.length + ρτ.length else if l < ρ.length + ρτ.length then l else l + 1) := z
  split at z <;> split at z <;> (try split at z) <;> (try split at z) <;> omega
theorem StOk.put {K : PySem.W.Frag} {F H : Hp} {ρ ρτ : List Sl} {σ στ : L2.St} {i : Nat} {x : Sl} {v : V} (s : StOk K F H (ρ ++ (ρτ ++ [x])) (σ ++ (στ ++ [some v]))) (hl : ρ.length = σ.length) (hi : i < ρ.length) :
    StOk K F H (ρ.set i x ++ ρτ) (σ.set i (some v) ++ στ) := by
  have hτ : ρτ.length = στ.length := by
    have := s.len
    simp only [List.length_append, List.length_cons, List.length_nil] at this
    omega
  have := StOk.put2 (ρu := []) (σu := []) s hl hτ hi
  simpa using this
theorem Puts.ok {K : PySem.W.Frag} {F H : Hp} {ρ ρ' ρτ : List Sl} {σ στ : L2.St} {v : V} {R : Rs} {i : Nat} (h : ROk K F H ρ ρτ σ στ v R) (hl : ρ.length = σ.length) (q : Puts ρ i R ρ') :
    ρ'.length = σ.length ∧ StOk K F H (ρ' ++ ρτ) (σ.set i (some v) ++ στ) := by
  cases q with
  | v t =>
    refine ⟨t.len.trans hl, ?_⟩
    rw [t.eq.1]
    exact (StOk.addVa' h.1 h.2).put hl t.eq.2
  | c t =>
    refine ⟨t.len.trans hl, ?_⟩
    rw [t.eq.1]
    exact StOk.put h hl t.eq.2
  | alv e t =>
    obtain ⟨s, hi, hv⟩ := h
    obtain ⟨u, h1, h2⟩ := (s.left hl).va _ _ e
    rw [hv] at h1
    cases h1
    refine ⟨t.len.trans hl, ?_⟩
    rw [t.eq.1]
    exact (StOk.addVa' s h2).put hl t.eq.2
  | alc e t1 t2 =>
    obtain ⟨s, hi, hv⟩ := h
    refine ⟨(t2.len.trans t1.len).trans hl, ?_⟩
    have s2 := s.moved hl e hv
    rw [← t1.eq.1] at s2
    rw [t2.eq.1]
    exact s2.put (t1.len.trans hl) t2.eq.2
theorem kept_set {κ : Nat → Bool} {σ : L2.St} {i : Nat} {v : Option V} (h : κ i = false) : Kept κ σ (σ.set i v) := fun j hj => List.getElem?_set_ne (fun e : i = j => by rw [e, hj] at h; cases h)
structure XOk (X : Cx) : Prop where
  calm : X.calm = true
  nd : X.N.Nodup
  units : X.A.units + 100 < cLine
theorem as_set (xo : XOk X) (i : Nat) {x : Str} {pos' : Pos} (h : AE X e ρ fun R ρ' => ∃ ρ'', Puts ρ' i R ρ'' ∧ k.nx ρ'') (hk : κ i = false := by rfl) (hi : X.N[i]? = some x := by rfl) (hx : Loc X.env.scope x := by first | exact Or.inl rfl | exact Or.inr rfl)
    (hs : swapsWith e (some (.Name x pos')) pos.line X.env = pure false := by rfl) (hf : X.fn x = true ∨ X.env.scope.names.lookup x = some .local := by first | exact .inl rfl | exact .inr rfl) : AS X κ (.Assign [.Name x pos'] e pos) ρ k := by
  refine .of (ps_set xo.nd hi hx h.pe hs hf) fun D σ H ⟨F, ρτ, στ, hl, s, n, r, bk, ct⟩ => ?_
  refine ⟨F, ρτ, στ, hl, s, fun v H' F' R ρ' e l ro ⟨ρ'', hp, hq⟩ => ?_⟩
  obtain ⟨l2, s2⟩ := hp.ok ro l
  exact n (σ.set i (some v)) H' F' ρ'' e (by rw [List.length_set]) l2 (kept_set hk) s2 hq
theorem as_expr (h : AE X e ρ fun _ ρ' => k.nx ρ') (hs : swapsWith e none pos.line X.env = pure false := by rfl) : AS X κ (.Expr e pos) ρ k := by
  refine .of (ps_expr h.pe hs) fun D σ H ⟨F, ρτ, στ, hl, s, n, r, bk, ct⟩ => ?_
  exact ⟨F, ρτ, στ, hl, s, fun v H' F' R ρ' e l ro q => n σ H' F' ρ' e rfl l (Kept.refl κ σ) (ro.st l) q⟩
end
end Ab
namespace Ab
open PySem PySem.Spec PyProof.Rows L2

/-! ### slots ahead -/
section
variable {K : PySem.W.Frag} {F H : Hp} {ρ ρτ : List Sl} {σ στ : L2.St}
theorem StOk.consNo (s : StOk K F H ρ σ) (x : Option V) : StOk K F H (.no :: ρ) (x :: σ) := by
  refine s.sel (fun j => j - 1) (by simp [s.len]) (fun j d q => ?_) (fun j d q => ?_) fun j l c e q1 q2 z => ?_
  · cases j with
    | zero => cases q
    | succ j => exact ⟨q, rfl⟩
  · cases j with
    | zero => cases q
    | succ j => exact ⟨q, rfl⟩
  · cases j with
    | zero => cases q1
    | succ j =>
      cases l with
      | zero => cases q2
      | succ l => simp at z; omega
theorem StOk.rot {x : Sl} {v : Option V} (s : StOk K F H (ρ ++ [x]) (σ ++ [v])) : StOk K F H (x :: ρ) (v :: σ) := by
  have hl : ρ.length = σ.length := by
    have := s.len
    simp only [List.length_append, List.length_cons, List.length_nil] at this
    omega
  have key : ∀ (j : Nat) (y : Sl), (x :: ρ)[j]? = some y → (ρ ++ [x])[if j = 0 then ρ.length else j - 1]? = some y ∧ (v :: σ)[j]? = (σ ++ [v])[if j = 0 then ρ.length else j - 1]? ∧ j ≤ ρ.length := by
    intro j y q
    cases j with
    | zero =>
      rw [if_pos rfl]
      refine ⟨?_, ?_, Nat.zero_le _⟩
      · rw [List.getElem?_append_right (Nat.le_refl _), Nat.sub_self]; exact q
      · rw [hl, List.getElem?_append_right (Nat.le_refl _), Nat.sub_self]; rfl
    | succ j =>
      have h : j < ρ.length := (List.getElem?_eq_some_iff.mp (show ρ[j]? = some y from q)).1
      rw [if_neg (by omega)]
      exact ⟨(get_left (by simpa using h)).trans q, (get_left (by simp; omega)).symm, h⟩
  refine s.sel (fun j => if j = 0 then ρ.length else j - 1) (by simp [hl]) (fun j d q => ⟨(key j _ q).1, (key j _ q).2.1⟩) (fun j c q => ⟨(key j _ q).1, (key j _ q).2.1⟩) fun j l c e q1 q2 z => ?_
  have h1 := (key j _ q1).2.2
  have h2 := (key l _ q2).2.2
  have z : (if j = 0 then ρ.length else j - 1) = (if l = 0 then ρ.length else l - 1) := z
  split at z <;> split at z <;> omega
theorem StOk.consVa (s : StOk K F H ρ σ) {v : V} {d : D} (h : Rp K F v d) : StOk K F H (.va d :: ρ) (some v :: σ) := (s.addVa h).rot
theorem StOk.preNo (s : StOk K F H ρ σ) : ∀ n : Nat, StOk K F H (List.replicate n .no ++ ρ) (List.replicate n none ++ σ)
  | 0 => s
  | n + 1 => by
    rw [List.replicate_succ, List.replicate_succ]
    exact (s.preNo n).consNo none
theorem StOk.preVa (s : StOk K F H ρ σ) : ∀ {vs : List V} {ds : List D}, RpAll K F vs ds → StOk K F H (ds.map .va ++ ρ) (vs.map some ++ σ)
  | _, [], h => by cases h; exact s
  | _, d :: ds, h => by
    cases h with
    | cons h1 h2 => exact (s.preVa h2).consVa h1
/-- the slots at a def's entry -/
def entry (ds : List D) (n : Nat) : List Sl := ds.map .va ++ List.replicate n .no
theorem StOk.enter (s : StOk K F H ρ σ) {vs : List V} {ds : List D} (h : RpAll K F vs ds) (n : Nat) : StOk K F H (entry ds n ++ ρ) ((vs.map some ++ List.replicate n none) ++ σ) := by
  unfold entry
  rw [List.append_assoc, List.append_assoc]
  exact (s.preNo n).preVa h
/-- only the frame and what is handed out stay -/
theorem StOk.leave {r : Sl} {v : Option V} (s : StOk K F H (ρ ++ (ρτ ++ [r])) (σ ++ (στ ++ [v]))) (hl : ρ.length = σ.length) : StOk K F H (ρτ ++ [r]) (στ ++ [v]) := by
  have hτ : ρτ.length = στ.length := by
    have := s.len
    simp only [List.length_append, List.length_cons, List.length_nil] at this
    omega
  refine s.sel (fun j => ρ.length + j) (by simp [hτ]) (fun j d q => ?_) (fun j d q => ?_) fun j l c e q1 q2 z => by simpa using z
  · refine ⟨?_, ?_⟩
    · rw [List.getElem?_append_right (by omega), Nat.add_sub_cancel_left]; exact q
    · rw [hl]
      exact ((List.getElem?_append_right (by omega)).trans (by rw [Nat.add_sub_cancel_left])).symm
  · refine ⟨?_, ?_⟩
    · rw [List.getElem?_append_right (by omega), Nat.add_sub_cancel_left]; exact q
    · rw [hl]
      exact ((List.getElem?_append_right (by omega)).trans (by rw [Nat.add_sub_cancel_left])).symm
end

/-! ### promises -/
/-- what comes out of a call: data, or a new object -/
def ROut (K : PySem.W.Frag) (F H : Hp) (ρτ : List Sl) (στ : L2.St) (v : V) : Rs → Prop
  | .v d => StOk K F H ρτ στ ∧ Rp K F v d
  | .c c => StOk K F H (ρτ ++ [.ce c]) (στ ++ [some v])
  | .al _ => False
/-- a def of data: S tells what it gives -/
abbrev Spc := List D → (Rs → Prop) → Prop
def spP (K : PySem.W.Frag) (n : Nat) (S : Spc) : Sp := fun vs H Q _ => vs.length = n ∧ ∃ (F : Hp) (ρτ : List Sl) (στ : L2.St) (ds : List D) (Φ : Rs → Prop), StOk K F H ρτ στ ∧ RpAll K F vs ds ∧ S ds Φ ∧
  ∀ (v : V) (H' F' : Hp) (R : Rs), Same F F' → ROut K F' H' ρτ στ v R → Φ R → Q v H'
/-- .. whose first argument is a box of draws, which it may change -/
def spB (K : PySem.W.Frag) (n : Nat) (S : Spc) : Sp := fun vs H Q _ => vs.length = n ∧ ∃ (b : V) (vs' : List V), vs = b :: vs' ∧ ∃ (F : Hp) (ρτ : List Sl) (στ : L2.St) (ds : List D) (Φ : Rs → Prop), ρτ.length = στ.length ∧
  StOk K F H (ρτ ++ [.ce .box]) (στ ++ [some b]) ∧ RpAll K F vs' ds ∧ S ds Φ ∧
  ∀ (v : V) (H' F' : Hp) (R : Rs), Same F F' → ROut K F' H' (ρτ ++ [.ce .box]) (στ ++ [some b]) v R → Φ R → Q v H'
structure FnX (P : Program) (w : World) (K : PySem.W.Frag) (mg : Str → Option Value) (base : Heap) (x : Str) (ps : List Str) (k : Nat) (sp : Sp) : Prop where
  ex : ∃ (f : Addr) (fd : FuncData), FnOk P w K mg base CX0 k f fd ps sp ∧ mg x = some (.ref f) ∧ PySem.W.keepIn K (.ref f) = true ∧ Binds K fd ps []
abbrev FnP (P : Program) (w : World) (K : PySem.W.Frag) (mg : Str → Option Value) (base : Heap) (x : Str) (ps : List Str) (k : Nat) (S : Spc) : Prop := FnX P w K mg base x ps k (spP K ps.length S)
abbrev FnB (P : Program) (w : World) (K : PySem.W.Frag) (mg : Str → Option Value) (base : Heap) (x : Str) (ps : List Str) (k : Nat) (S : Spc) : Prop := FnX P w K mg base x ps k (spB K ps.length S)

/-! ### a def -/
def k0 : Nat → Bool := fun _ => false
def k1 : Nat → Bool := fun i => i == 0
def noBk : List Sl → Prop := fun _ => False
/-- the ends of a def of data -/
def kP (Φ : Rs → Prop) : Ks := { nx := fun _ => Φ (.v .none), rt := fun r _ => Φ r, bk := noBk, ct := noBk }
def kB (Φ : Rs → Prop) : Ks := { nx := fun ρ => ρ[0]? = some (.ce .box) ∧ Φ (.v .none), rt := fun r ρ => ρ[0]? = some (.ce .box) ∧ Φ r, bk := noBk, ct := noBk }
/-- a def's own context, as Fun.ok makes it -/
structure InDef (P : Program) (w : World) (K : PySem.W.Frag) (mg : Str → Option Value) (base : Heap) (N : List Str) (sc : Scope) (k : Nat) (X : Cx) : Prop where
  prog : X.prog = P
  w : X.w = w
  K : X.K = K
  mg : X.mg = mg
  base : X.base = base
  N : X.N = N
  sc : X.env.scope = sc
  ok : XOk X
  room : Room k X.A
section
variable {P : Program} {w : World} {K : PySem.W.Frag} {mg : Str → Option Value} {base : Heap}
theorem units_of {A : Around} {k : Nat} (hr : Room k A) : A.units + 100 < cLine := by
  have := hr.un
  omega
theorem fnP_of {x : Str} {st : Stmt} {f : Addr} {fd : FuncData} {N ps : List Str} {k : Nat} {S : Spc} (Fn : Fun K x x st f fd) (Sc : FnScope N ps (defScope st)) (hm : mg x = some (.ref f)) (hb : Binds K fd ps []) (hl : ps.length ≤ N.length)
    (body : ∀ (cdv : Value) (A : Around) (outer : List Env) (s : Shared) (H : Hp) (E : XK) (ds : List D) (Φ : Rs → Prop), Room k (A.deeper (envOfC x (defScope st) s.heap.objs.size f cdv)) → XOk (cxOf CX0 P w K mg base N x (defScope st) f cdv A outer s H E).nox →
      S ds Φ → ds.length = ps.length → ASs (cxOf CX0 P w K mg base N x (defScope st) f cdv A outer s H E).nox k0 (defBody st) (entry ds (N.length - ps.length)) (kP Φ)) :
    FnP P w K mg base x ps (k + 1) S := by
  refine ⟨f, fd, Fn.ok Sc (fun vs H Q E h => h.1) (fun cdv A outer s H vs Q E hr h => ?_), hm, Fn.kp, hb⟩
  obtain ⟨hlen, F, ρτ, στ, ds, Φ, s0, hd, hS, kk⟩ := h
  have hdl : ds.length = ps.length := (dpAll_len hd).symm.trans hlen
  refine ⟨_, (body cdv A outer s H E ds Φ hr ⟨rfl, Sc.nd, units_of hr⟩ hS hdl).ps, ?_⟩
  have e1 : (entry ds (N.length - ps.length)).length = (L2.start N vs).length := by
    unfold entry L2.start
    simp only [List.length_append, List.length_map, List.length_replicate]
    omega
  have fin : ∀ {σ' : L2.St} {H' F' : Hp} {ρ' : List Sl} {r : Rs} {v : V}, Same F F' → ρ'.length = σ'.length → StOk K F' H' (ρ' ++ (ρτ ++ [outSl r])) (σ' ++ (στ ++ [some v])) → (∀ i, r ≠ .al i) → Φ r → Q v H' := by
    intro σ' H' F' ρ' r v e l s' nal hΦ
    refine kk v H' F' r e ?_ hΦ
    have s2 := s'.leave l
    cases r with
    | v d =>
      have h3 : StOk K F' H' ρτ στ := s2.left s0.len
      refine ⟨h3, ?_⟩
      obtain ⟨u, g1, g2⟩ := s2.va ρτ.length d (by rw [List.getElem?_append_right (Nat.le_refl _), Nat.sub_self]; rfl)
      rw [s0.len, List.getElem?_append_right (Nat.le_refl _), Nat.sub_self] at g1
      cases g1
      exact g2
    | c c => exact s2
    | al i => exact absurd rfl (nal i)
  have nosp : ∀ (σ : L2.St) (D' : L2.St → Hp → Prop), WNx K k0 F ρτ στ σ noBk D' := fun σ D' σ' H' F' ρ' _ _ _ _ _ q => q.elim
  refine ⟨F, ρτ, στ, e1, ?_, fun σ' H' F' ρ' e l1 l2 _ s' q => ?_, fun v σ' H' F' ρ' r na e l1 l2 _ s' q => ?_, nosp _ _, nosp _ _⟩
  · have := s0.enter hd (N.length - ps.length)
    rw [← hlen] at this ⊢
    exact this
  · exact fin (r := .v .none) e (l2.trans l1.symm) (StOk.addVa' s' .non) (fun i z => nomatch z) q
  · exact fin e (l2.trans l1.symm) s' na q
/-- .. its first argument a box -/
theorem StOk.frontBox {K : PySem.W.Frag} {F H : Hp} {ρ ρτ : List Sl} {σ στ : L2.St} {r : Rs} {v : V} {b : Option V} (s : StOk K F H (ρ ++ (ρτ ++ [outSl r])) (σ ++ (στ ++ [some v]))) (hl : ρ.length = σ.length) (h0 : ρ[0]? = some (.ce .box)) (hb : σ[0]? = some b) :
    StOk K F H (ρτ ++ [.ce .box] ++ [outSl r]) (στ ++ [b] ++ [some v]) := by
  have hτ : ρτ.length = στ.length := by
    have := s.len
    simp only [List.length_append, List.length_cons, List.length_nil] at this
    omega
  have hρ : 0 < ρ.length := (List.getElem?_eq_some_iff.mp h0).1
  have key : ∀ (j : Nat) (y : Sl), (ρτ ++ [Sl.ce .box] ++ [outSl r])[j]? = some y → (ρ ++ (ρτ ++ [outSl r]))[if j < ρτ.length then ρ.length + j else if j = ρτ.length then 0 else ρ.length + ρτ.length]? = some y ∧
      (στ ++ [b] ++ [some v])[j]? = (σ ++ (στ ++ [some v]))[if j < ρτ.length then ρ.length + j else if j = ρτ.length then 0 else ρ.length + ρτ.length]? ∧ j < ρτ.length + 2 := by
    intro j y q
    have hj := (List.getElem?_eq_some_iff.mp q).1
    simp only [List.length_append, List.length_cons, List.length_nil] at hj
    rw [List.append_assoc] at q
    rw [List.append_assoc]
    by_cases h1 : j < ρτ.length
    · rw [if_pos h1]
      rw [get_left h1] at q
      refine ⟨?_, ?_, by omega⟩
      · rw [List.getElem?_append_right (by omega), Nat.add_sub_cancel_left, get_left h1]; exact q
      · rw [hl]
        refine Eq.trans ?_ ((List.getElem?_append_right (by omega)).trans (by rw [Nat.add_sub_cancel_left])).symm
        rw [get_left (by omega), get_left (by omega)]
    · rw [if_neg h1]
      rw [List.getElem?_append_right (by omega)] at q
      by_cases h2 : j = ρτ.length
      · rw [if_pos h2]
        rw [h2, Nat.sub_self] at q
        have q : some (Sl.ce .box) = some y := q
        refine ⟨?_, ?_, by omega⟩
        · rw [get_left hρ, h0]; exact q
        · have g : (σ ++ (στ ++ [some v]))[0]? = some b := (get_left (by omega)).trans hb
          rw [g, h2, hτ, List.getElem?_append_right (Nat.le_refl _), Nat.sub_self]; rfl
      · rw [if_neg h2]
        have e : j - ρτ.length = 1 := by omega
        rw [e] at q
        have q : some (outSl r) = some y := q
        refine ⟨?_, ?_, by omega⟩
        · rw [List.getElem?_append_right (by omega), Nat.add_sub_cancel_left, List.getElem?_append_right (Nat.le_refl _), Nat.sub_self]; exact q
        · have e2 : j - στ.length = 1 := by omega
          rw [List.getElem?_append_right (by omega), e2, hl, hτ]
          refine Eq.trans ?_ ((List.getElem?_append_right (by omega)).trans (by rw [Nat.add_sub_cancel_left])).symm
          rw [List.getElem?_append_right (Nat.le_refl _), Nat.sub_self]; rfl
  refine s.sel (fun j => if j < ρτ.length then ρ.length + j else if j = ρτ.length then 0 else ρ.length + ρτ.length) (by simp [hτ]) (fun j d q => ⟨(key j _ q).1, (key j _ q).2.1⟩) (fun j d q => ⟨(key j _ q).1, (key j _ q).2.1⟩) fun j l c e q1 q2 z => ?_
  have h1 := (key j _ q1).2.2
  have h2 := (key l _ q2).2.2
  have z : (if j < ρτ.length then ρ.length + j else if j = ρτ.length then 0 else ρ.length + ρτ.length) = (if l < ρτ.length then ρ.length + l else if l = ρτ.length then 0 else ρ.length + ρτ.length) := z
  split at z <;> split at z <;> (try split at z) <;> (try split at z) <;> omega
def entryB (ds : List D) (n : Nat) : List Sl := .ce .box :: entry ds n
theorem fnB_of {x : Str} {st : Stmt} {f : Addr} {fd : FuncData} {N ps : List Str} {k : Nat} {S : Spc} (Fn : Fun K x x st f fd) (Sc : FnScope N ps (defScope st)) (hm : mg x = some (.ref f)) (hb : Binds K fd ps []) (hl : ps.length ≤ N.length)
    (body : ∀ (cdv : Value) (A : Around) (outer : List Env) (s : Shared) (H : Hp) (E : XK) (ds : List D) (Φ : Rs → Prop), Room k (A.deeper (envOfC x (defScope st) s.heap.objs.size f cdv)) → XOk (cxOf CX0 P w K mg base N x (defScope st) f cdv A outer s H E).nox →
      S ds Φ → ds.length + 1 = ps.length → ASs (cxOf CX0 P w K mg base N x (defScope st) f cdv A outer s H E).nox k1 (defBody st) (entryB ds (N.length - ps.length)) (kB Φ)) :
    FnB P w K mg base x ps (k + 1) S := by
  refine ⟨f, fd, Fn.ok Sc (fun vs H Q E h => h.1) (fun cdv A outer s H vs Q E hr h => ?_), hm, Fn.kp, hb⟩
  obtain ⟨hlen, b, vs', rfl, F, ρτ, στ, ds, Φ, hτ, s0, hd, hS, kk⟩ := h
  have hdl : ds.length + 1 = ps.length := by
    rw [(dpAll_len hd).symm]; exact hlen
  refine ⟨_, (body cdv A outer s H E ds Φ hr ⟨rfl, Sc.nd, units_of hr⟩ hS hdl).ps, ?_⟩
  have sE : StOk K F H (entryB ds (N.length - ps.length) ++ ρτ) ((some b :: (vs'.map some ++ List.replicate (N.length - ps.length) none)) ++ στ) := by
    have h1 : StOk K F H (entry ds (N.length - ps.length) ++ (ρτ ++ [.ce .box])) ((vs'.map some ++ List.replicate (N.length - ps.length) none) ++ (στ ++ [some b])) := s0.enter hd _
    rw [← List.append_assoc, ← List.append_assoc] at h1
    exact h1.rot
  have es : L2.start N (b :: vs') = some b :: (vs'.map some ++ List.replicate (N.length - ps.length) none) := by
    unfold L2.start
    rw [List.map_cons, hlen]
    rfl
  rw [es]
  have e1 : (entryB ds (N.length - ps.length)).length = (some b :: (vs'.map some ++ List.replicate (N.length - ps.length) none)).length := by
    have := sE.len
    simp only [List.length_append] at this
    simp only [List.length_append, List.length_cons] at this ⊢
    omega
  have fin : ∀ {σ' : L2.St} {H' F' : Hp} {ρ' : List Sl} {r : Rs} {v : V}, Same F F' → ρ'.length = σ'.length → Kept k1 (some b :: (vs'.map some ++ List.replicate (N.length - ps.length) none)) σ' → StOk K F' H' (ρ' ++ (ρτ ++ [outSl r])) (σ' ++ (στ ++ [some v])) → (∀ i, r ≠ .al i) → ρ'[0]? = some (.ce .box) → Φ r → Q v H' := by
    intro σ' H' F' ρ' r v e l kp s' nal h0 hΦ
    refine kk v H' F' r e ?_ hΦ
    have hb : σ'[0]? = some (some b) := (kp 0 rfl).trans rfl
    have s2 := s'.frontBox l h0 hb
    cases r with
    | v d =>
      have h3 : StOk K F' H' (ρτ ++ [.ce .box]) (στ ++ [some b]) := s2.left (by simp [hτ])
      refine ⟨h3, ?_⟩
      obtain ⟨u, g1, g2⟩ := s2.va (ρτ ++ [Sl.ce .box]).length d (by rw [List.getElem?_append_right (Nat.le_refl _), Nat.sub_self]; rfl)
      rw [show (ρτ ++ [Sl.ce .box]).length = (στ ++ [some b]).length by simp [hτ], List.getElem?_append_right (Nat.le_refl _), Nat.sub_self] at g1
      cases g1
      exact g2
    | c c => exact s2
    | al i => exact absurd rfl (nal i)
  have nosp : ∀ (σ : L2.St) (D' : L2.St → Hp → Prop), WNx K k1 F ρτ στ σ noBk D' := fun σ D' σ' H' F' ρ' _ _ _ _ _ q => q.elim
  refine ⟨F, ρτ, στ, e1, sE, fun σ' H' F' ρ' e l1 l2 kp s' q => ?_, fun v σ' H' F' ρ' r na e l1 l2 kp s' q => ?_, nosp _ _, nosp _ _⟩
  · exact fin (r := .v .none) e (l2.trans l1.symm) kp (StOk.addVa' s' .non) (fun i z => nomatch z) q.1 q.2
  · exact fin e (l2.trans l1.symm) kp s' na q.1 q.2
end

/-! ### arguments -/
inductive Ar where
  | d (d : D)
  | bx (i : Nat)
/-- an argument is frozen: R gives a, ρ' is left -/
inductive Fz : List Sl → Rs → Ar → List Sl → Prop
  | v {ρ : List Sl} {d : D} : Fz ρ (.v d) (.d d) ρ
  | c {ρ : List Sl} {ds : List D} : Fz ρ (.c (.lst ds)) (.d (.list ds)) ρ
  | alv {ρ : List Sl} {i : Nat} {d : D} : ρ[i]? = some (.va d) → Fz ρ (.al i) (.d d) ρ
  | alc {ρ ρ' : List Sl} {i : Nat} {ds : List D} : ρ[i]? = some (.ce (.lst ds)) → SetAt ρ i (.va (.list ds)) ρ' → Fz ρ (.al i) (.d (.list ds)) ρ'
  | box {ρ : List Sl} {i : Nat} : ρ[i]? = some (.ce .box) → Fz ρ (.al i) (.bx i) ρ
def ArOk (K : PySem.W.Frag) (F : Hp) (σ : L2.St) (v : V) : Ar → Prop
  | .d d => Rp K F v d
  | .bx i => i < σ.length ∧ σ[i]? = some (some v)
theorem ArOk.mono {K : PySem.W.Frag} {F F' : Hp} {σ : L2.St} {v : V} {a : Ar} (e : Same F F') (h : ArOk K F σ v a) : ArOk K F' σ v a := by
  cases a with
  | d d => exact dp_mono e _ _ h
  | bx i => exact h
def tAA (K : PySem.W.Frag) (ρ : List Sl) (Φ : List Ar → List Sl → Prop) : TA := fun σ H Q => ∃ (F : Hp) (ρτ : List Sl) (στ : L2.St), ρ.length = σ.length ∧ StOk K F H (ρ ++ ρτ) (σ ++ στ) ∧
  ∀ (vs : List V) (H' F' : Hp) (as : List Ar) (ρ' : List Sl), Same F F' → ρ'.length = σ.length → StOk K F' H' (ρ' ++ ρτ) (σ ++ στ) → Paired (ArOk K F' σ) vs as → Φ as ρ' → Q vs H'
structure AAs (X : Cx) (es : List Expr) (ρ : List Sl) (Φ : List Ar → List Sl → Prop) : Prop where
  pa : PA X es (tAA X.K ρ Φ)
def AnyAA (X : Cx) (es : List Expr) : TA := fun σ H Q => ∃ (ρ : List Sl) (Φ : List Ar → List Sl → Prop), AAs X es ρ Φ ∧ tAA X.K ρ Φ σ H Q
theorem Fz.ok {K : PySem.W.Frag} {F H : Hp} {ρ ρ' ρτ : List Sl} {σ στ : L2.St} {v : V} {R : Rs} {a : Ar} (h : ROk K F H ρ ρτ σ στ v R) (hl : ρ.length = σ.length) (q : Fz ρ R a ρ') :
    ∃ F', Same F F' ∧ ρ'.length = σ.length ∧ StOk K F' H (ρ' ++ ρτ) (σ ++ στ) ∧ ArOk K F' σ v a := by
  cases q with
  | v => exact ⟨F, Same.refl F, hl, h.1, h.2⟩
  | c =>
    rename_i ds
    have h' : StOk K F H (ρ ++ (ρτ ++ [.ce (.lst ds)])) (σ ++ (στ ++ [some v])) := h
    rw [← List.append_assoc, ← List.append_assoc] at h'
    obtain ⟨F', e, s⟩ := h'.freeze (i := (ρ ++ ρτ).length) (ds := ds) (by rw [List.getElem?_append_right (Nat.le_refl _), Nat.sub_self]; rfl)
    have s2 : StOk K F' H (ρ ++ ρτ ++ [.va (.list ds)]) (σ ++ στ ++ [some v]) := by
      rw [List.set_append_right _ _ (Nat.le_refl _), Nat.sub_self] at s
      exact s
    have hlen : (ρ ++ ρτ).length = (σ ++ στ).length := by
      have := s2.len
      simp only [List.length_append, List.length_cons, List.length_nil] at this ⊢
      omega
    obtain ⟨u, g1, g2⟩ := s2.va (ρ ++ ρτ).length (.list ds) (by rw [List.getElem?_append_right (Nat.le_refl _), Nat.sub_self]; rfl)
    rw [hlen, List.getElem?_append_right (Nat.le_refl _), Nat.sub_self] at g1
    cases g1
    exact ⟨F', e, hl, s2.left hlen, g2⟩
  | alv e =>
    obtain ⟨s, hi, hv⟩ := h
    obtain ⟨u, h1, h2⟩ := (s.left hl).va _ _ e
    rw [hv] at h1
    cases h1
    exact ⟨F, Same.refl F, hl, s, h2⟩
  | alc e t =>
    obtain ⟨s, hi, hv⟩ := h
    rename_i i ds
    have hi' : i < ρ.length := by omega
    obtain ⟨F', e', s'⟩ := s.freeze (i := i) (ds := ds) (by rw [get_left hi']; exact e)
    rw [app_set_left hi', ← t.eq.1] at s'
    refine ⟨F', e', t.len.trans hl, s', ?_⟩
    obtain ⟨u, h1, h2⟩ := (s'.left (t.len.trans hl)).va i (.list ds) (by rw [t.eq.1, List.getElem?_set_self hi'])
    rw [hv] at h1
    cases h1
    exact h2
  | box e =>
    obtain ⟨s, hi, hv⟩ := h
    exact ⟨F, Same.refl F, hl, s, hi, hv⟩
section
variable {X : Cx} {e : Expr} {es : List Expr} {ρ : List Sl} {Φ : Rs → List Sl → Prop}
theorem pa_any : PA X es (AnyAA X es) := ⟨fun pos pins s σ H Q I ⟨_, _, h, t⟩ => h.pa.run pos pins s σ H Q I t⟩
theorem AAs.of {t : TA} {Φ : List Ar → List Sl → Prop} (p : PA X es t) (m : ∀ σ H Q, tAA X.K ρ Φ σ H Q → t σ H Q) : AAs X es ρ Φ := ⟨⟨fun pos pins s σ H Q I h => p.run pos pins s σ H Q I (m _ _ _ h)⟩⟩
theorem aa_nil {Φ : List Ar → List Sl → Prop} (h : Φ [] ρ) : AAs X [] ρ Φ := .of pa_nil fun σ H Q ⟨F, ρτ, στ, hl, st, k⟩ => k [] H F [] ρ (Same.refl F) hl st .nil h
theorem aa_cons {Φ : List Ar → List Sl → Prop} (h : AE X e ρ fun R ρ1 => ∃ a ρ1', Fz ρ1 R a ρ1' ∧ AAs X es ρ1' fun as ρ2 => Φ (a :: as) ρ2) (hs : starEach (e :: es) X.env = (false, eval e X.env) :: starEach es X.env := by rfl) : AAs X (e :: es) ρ Φ := by
  refine .of (pa_cons h.pe pa_any hs) fun σ H Q ⟨F, ρτ, στ, hl, st, k⟩ => ?_
  refine ⟨F, ρτ, στ, hl, st, fun v H1 F1 R ρ1 e1 l1 ro ⟨a, ρ1', fz, q⟩ => ?_⟩
  obtain ⟨F1', e1', l1', s1', ao⟩ := fz.ok ro l1
  exact ⟨ρ1', _, q, F1', ρτ, στ, l1', s1', fun vs H2 F2 as ρ2 e2 l2 s2 p q2 => k (v :: vs) H2 F2 (a :: as) ρ2 ((e1.trans e1').trans e2) l2 s2 (.cons (ao.mono e2) p) q2⟩
theorem paired_ds {K : PySem.W.Frag} {F : Hp} {σ : L2.St} : ∀ {ds : List D} {vs : List V}, Paired (ArOk K F σ) vs (ds.map .d) → RpAll K F vs ds
  | [], _, .nil => .nil
  | _ :: _, _, .cons h t => .cons h (paired_ds t)
/-- a call of a def of data -/
theorem ae_call {x : Str} {ps : List Str} {k : Nat} {S : Spc} {p pos : Pos} (G : FnP X.prog X.w X.K X.mg X.base x ps k S) (hr : Room k X.A)
    (h : AAs X (e :: es) ρ fun as ρ' => ∃ ds, as = ds.map .d ∧ ds.length = ps.length ∧ S ds fun R => Φ R ρ') (hg : Gl X x := by rfl)
    (hdb : (x == ("__debug__" : Str)) = false := by decide) (he : starEach (e :: es) X.env = (false, eval e X.env) :: starEach es X.env := by rfl) (hpl : (backTo pos (starEach es X.env)).any (·.1) = false := by rfl) :
    AE X (.Call (.Name x p) (e :: es) [] pos) ρ Φ := by
  obtain ⟨f, fd, Fn, hm, hk, hb⟩ := G.ex
  refine .of (pe_call Fn hr hg hm hk hb .nil pass0 h.pa hdb he hpl) fun σ H Q ⟨F, ρτ, στ, hl, st, kk⟩ => ?_
  refine ⟨F, ρτ, στ, hl, st, fun vs H1 F1 as ρ1 e1 l1 s1 pr ⟨ds, ea, hn, hS⟩ => ?_⟩
  subst ea
  have hd := paired_ds pr
  rw [List.append_nil]
  refine ⟨(dpAll_len hd).trans hn, F1, ρ1 ++ ρτ, σ ++ στ, ds, _, s1, hd, hS, fun v H2 F2 R e2 ro q => ?_⟩
  refine kk v H2 F2 R ρ1 (e1.trans e2) l1 ?_ q
  cases R with
  | v d => exact ro
  | c c =>
    have ro : StOk X.K F2 H2 ((ρ1 ++ ρτ) ++ [.ce c]) ((σ ++ στ) ++ [some v]) := ro
    rw [List.append_assoc, List.append_assoc] at ro
    exact ro
  | al i => exact ro.elim
/-- .. whose first argument is a box -/
theorem ae_callB {x : Str} {ps : List Str} {k : Nat} {S : Spc} {p pos : Pos} (G : FnB X.prog X.w X.K X.mg X.base x ps k S) (hr : Room k X.A)
    (h : AAs X (e :: es) ρ fun as ρ' => ∃ i ds, as = .bx i :: ds.map .d ∧ ρ'[i]? = some (.ce .box) ∧ ds.length + 1 = ps.length ∧ S ds fun R => Φ R ρ') (hg : Gl X x := by rfl)
    (hdb : (x == ("__debug__" : Str)) = false := by decide) (he : starEach (e :: es) X.env = (false, eval e X.env) :: starEach es X.env := by rfl) (hpl : (backTo pos (starEach es X.env)).any (·.1) = false := by rfl) :
    AE X (.Call (.Name x p) (e :: es) [] pos) ρ Φ := by
  obtain ⟨f, fd, Fn, hm, hk, hb⟩ := G.ex
  refine .of (pe_call Fn hr hg hm hk hb .nil pass0 h.pa hdb he hpl) fun σ H Q ⟨F, ρτ, στ, hl, st, kk⟩ => ?_
  refine ⟨F, ρτ, στ, hl, st, fun vs H1 F1 as ρ1 e1 l1 s1 pr ⟨i, ds, ea, hi, hn, hS⟩ => ?_⟩
  subst ea
  cases pr with
  | cons hb0 pr =>
    rename_i b vs'
    obtain ⟨hbl, hbv⟩ : i < σ.length ∧ σ[i]? = some (some b) := hb0
    have hd := paired_ds pr
    have hτ : ρτ.length = στ.length := by
      have := s1.len
      simp only [List.length_append] at this
      omega
    rw [List.append_nil]
    have s2 := s1.moved l1 hi hbv
    rw [← List.append_assoc, ← List.append_assoc] at s2
    refine ⟨by rw [List.length_cons, dpAll_len hd]; exact hn, b, vs', rfl, F1, ρ1.set i .no ++ ρτ, σ ++ στ, ds, _, by simp only [List.length_append, List.length_set]; omega, s2, hd, hS, fun v H2 F2 R e2 ro q => ?_⟩
    refine kk v H2 F2 R ρ1 (e1.trans e2) l1 ?_ q
    have back : ∀ (ρu : List Sl) (σu : L2.St), StOk X.K F2 H2 (ρ1.set i .no ++ (ρτ ++ .ce .box :: ρu)) (σ ++ (στ ++ some b :: σu)) → StOk X.K F2 H2 (ρ1 ++ (ρτ ++ ρu)) (σ ++ (στ ++ σu)) := fun ρu σu s3 => by
      have hil : i < ρ1.length := by omega
      have s4 := s3.put2 (i := i) (by rw [List.length_set]; exact l1) hτ (by rw [List.length_set]; exact hil)
      have g1 : (ρ1.set i .no).set i (.ce .box) = ρ1 := by
        rw [List.set_set]
        have := (List.getElem?_eq_some_iff.mp hi).2
        rw [← this]
        exact List.set_getElem_self hil
      have g2 : σ.set i (some b) = σ := by
        have := (List.getElem?_eq_some_iff.mp hbv).2
        rw [← this]
        exact List.set_getElem_self hbl
      rw [g1, g2] at s4
      exact s4
    cases R with
    | v d =>
      obtain ⟨ro, dv⟩ := ro
      rw [List.append_assoc, List.append_assoc] at ro
      have := back [] [] ro
      rw [List.append_nil, List.append_nil] at this
      exact ⟨this, dv⟩
    | c c =>
      have ro : StOk X.K F2 H2 (((ρ1.set i .no ++ ρτ) ++ [.ce .box]) ++ [.ce c]) (((σ ++ στ) ++ [some b]) ++ [some v]) := ro
      rw [List.append_assoc, List.append_assoc, List.append_assoc, List.append_assoc] at ro
      exact back [.ce c] [some v] ro
    | al i => exact ro.elim
end
end Ab
namespace Ab
open PySem PySem.Spec PyProof.Rows L2

/-! ### targets -/
def tG (K : PySem.W.Frag) (κ : Nat → Bool) (d : D) (ρ ρ' : List Sl) : TG := fun v σ H Q => ∃ (F : Hp) (ρτ : List Sl) (στ : L2.St), ρ.length = σ.length ∧ StOk K F H (ρ ++ ρτ) (σ ++ στ) ∧ Rp K F v d ∧
  ∀ σ' : L2.St, σ'.length = σ.length → ρ'.length = σ.length → Kept κ σ σ' → StOk K F H (ρ' ++ ρτ) (σ' ++ στ) → Q σ' H
structure AG (X : Cx) (κ : Nat → Bool) (tg : Expr) (d : D) (ρ ρ' : List Sl) : Prop where
  pg : PG X tg (tG X.K κ d ρ ρ')
def tGs (K : PySem.W.Frag) (κ : Nat → Bool) (ds : List D) (ρ ρ' : List Sl) : TGs := fun vs σ H Q => ∃ (F : Hp) (ρτ : List Sl) (στ : L2.St), ρ.length = σ.length ∧ StOk K F H (ρ ++ ρτ) (σ ++ στ) ∧ RpAll K F vs ds ∧
  ∀ σ' : L2.St, σ'.length = σ.length → ρ'.length = σ.length → Kept κ σ σ' → StOk K F H (ρ' ++ ρτ) (σ' ++ στ) → Q σ' H
structure AGs (X : Cx) (κ : Nat → Bool) (tgs : List Expr) (ds : List D) (ρ ρ' : List Sl) : Prop where
  pg : PGs X tgs (tGs X.K κ ds ρ ρ')
def AnyG (X : Cx) (κ : Nat → Bool) (tg : Expr) : TG := fun v σ H Q => ∃ (d : D) (ρ ρ' : List Sl), AG X κ tg d ρ ρ' ∧ tG X.K κ d ρ ρ' v σ H Q
def AnyGs (X : Cx) (κ : Nat → Bool) (tgs : List Expr) : TGs := fun v σ H Q => ∃ (ds : List D) (ρ ρ' : List Sl), AGs X κ tgs ds ρ ρ' ∧ tGs X.K κ ds ρ ρ' v σ H Q
section
variable {X : Cx} {κ : Nat → Bool} {tg : Expr} {tgs : List Expr} {d : D} {ds : List D} {ρ ρ1 ρ' : List Sl} {pos : Pos}
theorem pg_any : PG X tg (AnyG X κ tg) := ⟨fun pins s σ H v u Q I r ⟨_, _, _, h, t⟩ => h.pg.run pins s σ H v u Q I r t⟩
theorem pgs_any : PGs X tgs (AnyGs X κ tgs) := ⟨fun pins s σ H v u Q I r ⟨_, _, _, h, t⟩ => h.pg.run pins s σ H v u Q I r t⟩
theorem AG.of {t : TG} (p : PG X tg t) (m : ∀ v σ H Q, tG X.K κ d ρ ρ' v σ H Q → t v σ H Q) : AG X κ tg d ρ ρ' := ⟨⟨fun pins s σ H v u Q I r h => p.run pins s σ H v u Q I r (m _ _ _ _ h)⟩⟩
theorem AGs.of {t : TGs} (p : PGs X tgs t) (m : ∀ v σ H Q, tGs X.K κ ds ρ ρ' v σ H Q → t v σ H Q) : AGs X κ tgs ds ρ ρ' := ⟨⟨fun pins s σ H v u Q I r h => p.run pins s σ H v u Q I r (m _ _ _ _ h)⟩⟩
theorem ag_name (i : Nat) {x : Str} (hp : SetAt ρ i (.va d) ρ') (xo : XOk X) (hk : κ i = false := by rfl) (hi : X.N[i]? = some x := by rfl) (hx : Loc X.env.scope x := by first | exact Or.inl rfl | exact Or.inr rfl)
    (hf : X.fn x = true ∨ X.env.scope.names.lookup x = some .local := by first | exact .inl rfl | exact .inr rfl) : AG X κ (.Name x pos) d ρ ρ' := by
  refine .of (pg_name xo.nd hi hx hf) fun v σ H Q ⟨F, ρτ, στ, hl, s, dv, k⟩ => ?_
  have s2 := (StOk.addVa' s dv).put hl hp.eq.2
  rw [← hp.eq.1] at s2
  exact k (σ.set i (some v)) (by rw [List.length_set]) (hp.len.trans hl) (kept_set hk) s2
theorem ags_nil : AGs X κ [] [] ρ ρ := by
  refine .of pgs_nil fun v σ H Q ⟨F, ρτ, στ, hl, s, dv, k⟩ => ?_
  cases dv
  exact ⟨rfl, k σ rfl hl (Kept.refl _ _) s⟩
theorem ags_cons (h1 : AG X κ tg d ρ ρ1) (h2 : AGs X κ tgs ds ρ1 ρ') (hs : (assignEach (tg :: tgs) X.env).map (·.2) = assign tg X.env :: (assignEach tgs X.env).map (·.2) := by rfl) : AGs X κ (tg :: tgs) (d :: ds) ρ ρ' := by
  refine .of (pgs_cons (pg_any (κ := κ)) (pgs_any (κ := κ)) hs) fun v σ H Q ⟨F, ρτ, στ, hl, s, dv, k⟩ => ?_
  cases dv with
  | cons a b =>
    refine ⟨_, _, rfl, d, ρ, ρ1, h1, F, ρτ, στ, hl, s, a, fun σ1 l1 l1' k1 s1 => ?_⟩
    exact ⟨ds, ρ1, ρ', h2, F, ρτ, στ, l1'.trans l1.symm, s1, b, fun σ2 l2 l2' k2 s2 => k σ2 (l2.trans l1) (l2'.trans l1) (k1.trans k2) s2⟩
theorem ag_tup {es : List Expr} {kk : Nat} {n : Nat} (h : AGs X κ es ds ρ ρ') (xo : XOk X) (hl0 : ds.length = n := by rfl) (hn : (assignEach es X.env).length = n := by rfl) (hst : (assignEach es X.env).findIdx? (·.1) = none := by rfl) :
    AG X κ (.Tuple es kk pos) (.tuple ds) ρ ρ' := by
  refine .of (pg_tup xo.calm (pgs_any (κ := κ)) hn hst) fun v σ H Q ⟨F, ρτ, στ, hl, s, dv, k⟩ => ?_
  cases dv with
  | tup hs ha => exact ⟨_, _, rfl, SqT.of (s.sub _ _ hs), (dpAll_len ha).trans hl0, ds, ρ, ρ', h, F, ρτ, στ, hl, s, ha, k⟩
end

/-! ### keys -/
def keyD : Key → D
  | .inl i => .int i
  | .inr x => .str x
def tupK (k : List Key) : D := .tuple (k.map keyD)
theorem key_rp {K : PySem.W.Frag} {F : Hp} : ∀ {k : Key} {v : V}, Rp K F v (keyD k) → v = kV k
  | .inl _, _, h => dp_int h
  | .inr _, _, h => dp_str h
theorem keys_rp {K : PySem.W.Frag} {F : Hp} : ∀ {ks : List Key} {vs : List V}, RpAll K F vs (ks.map keyD) → vs = ks.map kV
  | [], _, h => by cases h; rfl
  | k :: ks, _, h => by
    cases h with
    | cons h1 h2 => rw [key_rp h1, keys_rp h2]; rfl
theorem rp_keys {K : PySem.W.Frag} {F : Hp} : ∀ (ks : List Key), RpAll K F (ks.map kV) (ks.map keyD)
  | [] => .nil
  | .inl i :: ks => .cons (.int i) (rp_keys ks)
  | .inr x :: ks => .cons (.str x) (rp_keys ks)
theorem tupK_rp {K : PySem.W.Frag} {F : Hp} {k : List Key} {v : V} (h : Rp K F v (tupK k)) : ∃ b, v = .ref b ∧ F b = some (.tup (k.map kV)) := by
  unfold tupK at h
  cases h with
  | tup hs ha => exact ⟨_, rfl, by rw [hs, keys_rp ha]⟩
/-- a tuple that stands in the heap may be frozen -/
theorem StOk.adopt {K : PySem.W.Frag} {F H : Hp} {ρ : List Sl} {σ : L2.St} (s : StOk K F H ρ σ) {q : Addr} {xs : List V} (h : H q = some (.tup xs)) : ∃ F', Same F F' ∧ StOk K F' H ρ σ ∧ F' q = some (.tup xs) := by
  cases hF : F q with
  | some o =>
    have := s.sub q o hF
    rw [h] at this
    cases this
    exact ⟨F, Same.refl _, s, hF⟩
  | none =>
    have eF : Same F (upd F q (.tup xs)) := same_new hF
    refine ⟨_, eF, ⟨fun b x e => ?_, s.len, fun i d e => ?_, fun i c e => ?_, s.inj⟩, upd_same⟩
    · by_cases hb : b = q
      · subst hb; rw [upd_same] at e; cases e; exact h
      · rw [upd_ne hb] at e; exact s.sub b x e
    · obtain ⟨v, h1, h2⟩ := s.va i d e
      exact ⟨v, h1, dp_mono eF _ _ h2⟩
    · obtain ⟨a, h1, h2, h3⟩ := s.ce i c e
      have ne : a ≠ q := fun z => by
        subst z
        cases c with
        | lst ds => obtain ⟨vs, g, _⟩ := h3; rw [h] at g; cases g
        | box => obtain ⟨_, _, g, _⟩ := h3; rw [h] at g; cases g
        | dT kvs => obtain ⟨ks, g, _⟩ := h3; rw [h] at g; cases g
        | dK kvs => obtain ⟨ks, g, _⟩ := h3; rw [h] at g; cases g
      exact ⟨a, h1, by rw [upd_ne ne]; exact h2, h3.mono eF rfl⟩
/-! ### what is walked -/
/-- the i-th datum comes: as it stands, or as a new pair -/
def YD (K : PySem.W.Frag) (F : Hp) (ds : List D) : Nat → Hp → V → Hp → Prop := fun i H x H' =>
  (H' = H ∧ ∃ d, ds[i]? = some d ∧ Rp K F x d) ∨ (∃ (T : Addr) (y z : V) (d e : D), x = .ref T ∧ H T = none ∧ H' = upd H T (.tup [y, z]) ∧ ds[i]? = some (.tuple [d, e]) ∧ Rp K F y d ∧ Rp K F z e) ∨
    ∃ (T q : Addr) (k : List Key) (z : V) (e : D), x = .ref T ∧ H T = none ∧ H q = some (.tup (k.map kV)) ∧ H' = upd H T (.tup [.ref q, z]) ∧ ds[i]? = some (.tuple [tupK k, e]) ∧ Rp K F z e
abbrev WalkD (K : PySem.W.Frag) (F : Hp) (J : It) (ds : List D) : Prop := Walk J ds.length (fun H => Same F H) (YD K F ds)
def tI (K : PySem.W.Frag) (ρ : List Sl) (Φ : List D → List Sl → Prop) : TI := fun σ H R => ∃ (F : Hp) (ρτ : List Sl) (στ : L2.St), ρ.length = σ.length ∧ StOk K F H (ρ ++ ρτ) (σ ++ στ) ∧
  ∀ (J : It) (H' F' : Hp) (ds : List D) (ρ' : List Sl), Same F F' → ρ'.length = σ.length → StOk K F' H' (ρ' ++ ρτ) (σ ++ στ) → WalkD K F' J ds → Φ ds ρ' → R J H'
structure AI (X : Cx) (tg iter : Expr) (ρ : List Sl) (Φ : List D → List Sl → Prop) : Prop where
  pi : PI X tg iter (tI X.K ρ Φ)
def AnyI (X : Cx) (tg iter : Expr) : TI := fun σ H R => ∃ (ρ : List Sl) (Φ : List D → List Sl → Prop), AI X tg iter ρ Φ ∧ tI X.K ρ Φ σ H R
/-- what YD gives to a state -/
theorem YD.st {K : PySem.W.Frag} {F F1 : Hp} {ds : List D} {i : Nat} {H H' : Hp} {x : V} (h : YD K F ds i H x H') (e : Same F F1) {ρ : List Sl} {σ : L2.St} (s : StOk K F1 H ρ σ) :
    ∃ F2 d, Same F1 F2 ∧ StOk K F2 H' ρ σ ∧ ds[i]? = some d ∧ Rp K F2 x d := by
  rcases h with ⟨rfl, d, h1, h2⟩ | ⟨T, y, z, d, e', rfl, hT, rfl, h1, h2, h3⟩ | ⟨T, q, k, z, e', rfl, hT, hq, rfl, h1, h3⟩
  · exact ⟨F1, d, Same.refl _, s, h1, dp_mono e _ _ h2⟩
  · have hF : F1 T = none := s.sub.free hT
    have eF : Same F1 (upd F1 T (.tup [y, z])) := same_new hF
    exact ⟨_, _, eF, s.grow hT _, h1, .tup upd_same (.cons (dp_mono (e.trans eF) _ _ h2) (.cons (dp_mono (e.trans eF) _ _ h3) .nil))⟩
  · obtain ⟨F2, e2, s2, g2⟩ := s.adopt hq
    have hF : F2 T = none := s2.sub.free hT
    have eF : Same F2 (upd F2 T (.tup [.ref q, z])) := same_new hF
    exact ⟨_, _, e2.trans eF, s2.grow hT _, h1, .tup upd_same (.cons (.tup (eF _ _ g2) (rp_keys k)) (.cons (dp_mono ((e.trans e2).trans eF) _ _ h3) .nil))⟩
section
variable {X : Cx} {tg iter e : Expr} {ρ : List Sl} {Φ : List D → List Sl → Prop} {pos p : Pos}
theorem pi_any : PI X tg iter (AnyI X tg iter) := ⟨fun pins s σ H R I ⟨_, _, h, t⟩ => h.pi.run pins s σ H R I t⟩
theorem AI.of {t : TI} (p : PI X tg iter t) (m : ∀ σ H R, tI X.K ρ Φ σ H R → t σ H R) : AI X tg iter ρ Φ := ⟨⟨fun pins s σ H R I h => p.run pins s σ H R I (m _ _ _ h)⟩⟩
theorem walkD_list {K : PySem.W.Frag} {F : Hp} {a : Addr} {vs : List V} {ds : List D} (hs : F a = some (.lst vs)) (hd : RpAll K F vs ds) : WalkD K F (Itl K a) ds := by
  have w := walk_list (K := K) (a := a) (xs := vs)
  rw [dpAll_len hd] at w
  exact w.mono (fun H e => SqL.of (e _ _ hs)) fun i H x H' _ _ ⟨h1, h2⟩ => .inl ⟨h1, dpAll_get' hd h2⟩
theorem walkD_tup {K : PySem.W.Frag} {F : Hp} {a : Addr} {vs : List V} {ds : List D} (hs : F a = some (.tup vs)) (hd : RpAll K F vs ds) : WalkD K F (Itt K a) ds := by
  have w := walk_tup (K := K) (a := a) (xs := vs)
  rw [dpAll_len hd] at w
  exact w.mono (fun H e => SqT.of (e _ _ hs)) fun i H x H' _ _ ⟨h1, h2⟩ => .inl ⟨h1, dpAll_get' hd h2⟩
/-- over a list -/
theorem ai_list (h : AE X iter ρ fun R ρ1 => ∃ ds ρ2, Fz ρ1 R (.d (.list ds)) ρ2 ∧ Φ ds ρ2) : AI X tg iter ρ Φ := by
  refine .of (pi_list h.pe) fun σ H R ⟨F, ρτ, στ, hl, s, k⟩ => ?_
  refine ⟨F, ρτ, στ, hl, s, fun v H1 F1 R1 ρ1 e1 l1 ro ⟨ds, ρ2, fz, q⟩ => ?_⟩
  obtain ⟨F2, e2, l2, s2, dv⟩ := fz.ok ro l1
  have dv : Rp X.K F2 v (.list ds) := dv
  cases dv with
  | lst hs ha => exact ⟨_, rfl, ⟨_, SqL.of (s2.sub _ _ hs)⟩, k _ H1 F2 ds ρ2 (e1.trans e2) l2 s2 (walkD_list hs ha) q⟩
/-- over a tuple -/
theorem ai_tup (h : AE X iter ρ fun R ρ1 => ∃ ds ρ2, Fz ρ1 R (.d (.tuple ds)) ρ2 ∧ Φ ds ρ2) : AI X tg iter ρ Φ := by
  refine .of (pi_tup h.pe) fun σ H R ⟨F, ρτ, στ, hl, s, k⟩ => ?_
  refine ⟨F, ρτ, στ, hl, s, fun v H1 F1 R1 ρ1 e1 l1 ro ⟨ds, ρ2, fz, q⟩ => ?_⟩
  obtain ⟨F2, e2, l2, s2, dv⟩ := fz.ok ro l1
  have dv : Rp X.K F2 v (.tuple ds) := dv
  cases dv with
  | tup hs ha => exact ⟨_, rfl, ⟨_, SqT.of (s2.sub _ _ hs)⟩, k _ H1 F2 ds ρ2 (e1.trans e2) l2 s2 (walkD_tup hs ha) q⟩
/-- the ints from lo on -/
def intsFrom (lo : Int) (n : Nat) : List D := (List.range n).map fun i : Nat => .int (lo + i)
theorem intsFrom_len (lo : Int) (n : Nat) : (intsFrom lo n).length = n := by simp [intsFrom]
theorem intsFrom_get {lo : Int} {n i : Nat} (h : i < n) : (intsFrom lo n)[i]? = some (.int (lo + i)) := by
  unfold intsFrom
  rw [List.getElem?_map, List.getElem?_range h]
  rfl
theorem walkD_range {K : PySem.W.Frag} {F : Hp} {lo : Int} {n : Nat} : WalkD K F (Itr lo n) (intsFrom lo n) := by
  have w := walk_range (lo := lo) (n := n)
  show Walk _ (intsFrom lo n).length _ _
  rw [intsFrom_len]
  exact w.mono (fun H _ => trivial) fun i H x H' hi _ ⟨h1, h2⟩ => .inl ⟨h1, _, intsFrom_get hi, by rw [h2]; exact .int _⟩
theorem ai_range1 {a : Expr} (h : AAs X [a] ρ fun as ρ1 => ∃ n : Int, as = [.d (.int n)] ∧ (-(2 ^ 62) ≤ n ∧ n < 2 ^ 62) ∧ Φ (intsFrom 0 n.toNat) ρ1) (hm : X.mg "range" = none) (hg : Gl X "range" := by rfl) (hs : starEach [a] X.env = [(false, eval a X.env)] := by rfl) :
    AI X tg (.Call (.Name "range" p) [a] [] pos) ρ Φ := by
  refine .of (pi_range1 hg hm h.pa hs) fun σ H R ⟨F, ρτ, στ, hl, s, k⟩ => ?_
  refine ⟨F, ρτ, στ, hl, s, fun vs H1 F1 as ρ1 e1 l1 s1 pr ⟨n, ea, ⟨b1, b2⟩, q⟩ => ?_⟩
  subst ea
  cases pr with
  | cons h1 h2 =>
    cases h2
    obtain rfl := dp_int h1
    exact ⟨n, rfl, b1, b2, k _ H1 F1 _ ρ1 e1 l1 s1 walkD_range q⟩
theorem ai_range2 {a b : Expr} (h : AAs X [a, b] ρ fun as ρ1 => ∃ m n : Int, as = [.d (.int m), .d (.int n)] ∧ (-(2 ^ 62) ≤ m ∧ m < 2 ^ 62 ∧ -(2 ^ 62) ≤ n ∧ n < 2 ^ 62) ∧ Φ (intsFrom m (n - m).toNat) ρ1) (hm : X.mg "range" = none) (hg : Gl X "range" := by rfl)
    (hs : starEach [a, b] X.env = [(false, eval a X.env), (false, eval b X.env)] := by rfl) (hs2 : starEach [b] X.env = [(false, eval b X.env)] := by rfl) :
    AI X tg (.Call (.Name "range" p) [a, b] [] pos) ρ Φ := by
  refine .of (pi_range2 hg hm h.pa hs hs2) fun σ H R ⟨F, ρτ, στ, hl, s, k⟩ => ?_
  refine ⟨F, ρτ, στ, hl, s, fun vs H1 F1 as ρ1 e1 l1 s1 pr ⟨m, n, ea, b, q⟩ => ?_⟩
  subst ea
  cases pr with
  | cons h1 h2 =>
    cases h2 with
    | cons h2 h3 =>
      cases h3
      obtain rfl := dp_int h1
      obtain rfl := dp_int h2
      exact ⟨m, n, rfl, b, k _ H1 F1 _ ρ1 e1 l1 s1 walkD_range q⟩
/-- enumerate of a list -/
def enumD (ds : List D) : List D := (List.range ds.length).map fun i : Nat => .tuple [.int i, ds.getD i .none]
theorem enumD_len (ds : List D) : (enumD ds).length = ds.length := by simp [enumD]
theorem enumD_get {ds : List D} {i : Nat} {d : D} (h : ds[i]? = some d) : (enumD ds)[i]? = some (.tuple [.int i, d]) := by
  unfold enumD
  rw [List.getElem?_map, List.getElem?_range (List.getElem?_eq_some_iff.mp h).1]
  show some (PyData.tuple [.int (i : Int), ds.getD i .none]) = _
  rw [List.getD_eq_getElem?_getD, h]; rfl
theorem ai_enum {elts : List Expr} {kk : Nat} {tpos : Pos} (h : AAs X [e] ρ fun as ρ1 => ∃ ds, as = [.d (.list ds)] ∧ Φ (enumD ds) ρ1) (hm : X.mg "enumerate" = none) (hg : Gl X "enumerate" := by rfl) (hs : starEach [e] X.env = [(false, eval e X.env)] := by rfl) :
    AI X (.Tuple elts kk tpos) (.Call (.Name "enumerate" p) [e] [] pos) ρ Φ := by
  refine .of (pi_enum hg hm h.pa hs) fun σ H R ⟨F, ρτ, στ, hl, s, k⟩ => ?_
  refine ⟨F, ρτ, στ, hl, s, fun vs H1 F1 as ρ1 e1 l1 s1 pr ⟨ds, ea, q⟩ => ?_⟩
  subst ea
  cases pr with
  | cons h1 h2 =>
    cases h2
    have h1 : Rp X.K F1 _ (.list ds) := h1
    cases h1 with
    | lst hs ha =>
      rename_i a vs
      refine ⟨a, vs, rfl, SqL.of (s1.sub _ _ hs), k _ H1 F1 _ ρ1 e1 l1 s1 ?_ q⟩
      have w := walk_enum (K := X.K) (a := a) (xs := vs)
      show Walk _ (enumD ds).length _ _
      rw [enumD_len, ← dpAll_len ha]
      refine w.mono (fun H e => SqL.of (e _ _ hs)) fun i H x H' _ _ ⟨T, y, z, h1, h2, h3, h4, h5⟩ => ?_
      obtain ⟨d, g1, g2⟩ := dpAll_get' ha h5
      exact .inr (.inl ⟨T, y, z, .int i, d, h1, h2, h3, enumD_get g1, by cases h4; exact .int _, g2⟩)
/-- zip of two tuples or two lists -/
def zipD (ds es : List D) : List D := ds.zipWith (fun a b => .tuple [a, b]) es
theorem zipD_get {ds es : List D} {i : Nat} {d e : D} (h : ds[i]? = some d) (g : es[i]? = some e) : (zipD ds es)[i]? = some (.tuple [d, e]) := by
  unfold zipD
  rw [List.getElem?_zipWith, h, g]
end

/-! ### for -/
section
variable {X : Cx} {κ : Nat → Bool} {tg iter : Expr} {body : List Stmt} {ρ : List Sl} {k : Ks} {pos : Pos}
theorem as_for (xo : XOk X) (h : AI X tg iter ρ fun ds ρ1 => ∃ I : Nat → List Sl → Prop, I 0 ρ1 ∧ (∀ (i : Nat) (d : D) (ρ2 : List Sl), ds[i]? = some d → I i ρ2 → ∃ ρ3, AG X κ tg d ρ2 ρ3 ∧ ASs X κ body ρ3 { nx := I (i + 1), rt := k.rt, bk := k.nx, ct := I (i + 1) }) ∧ ∀ ρ2, I ds.length ρ2 → k.nx ρ2)
    (hp : PassesOwn (model X.prog X.w) X.A X.env X.xe := by exact PassesOwn.never) (hs : ∀ x, foldedSetIterable iter X.env x = pure x := by intro _; rfl) : AS X κ (.For tg iter body [] pos) ρ k := by
  refine .of (ps_for hp xo.calm h.pi (pg_any (κ := κ)) (pss_any (κ := κ)) hs) fun D σ H ⟨F, ρτ, στ, hl, s, n, r, bk, ct⟩ => ?_
  refine ⟨F, ρτ, στ, hl, s, fun J H1 F1 ds ρ1 e1 l1 s1 w ⟨I, i0, turn, done⟩ => ?_⟩
  refine for_it w (fun i σ' H' => ∃ F' ρ', Same F1 F' ∧ σ'.length = σ.length ∧ ρ'.length = σ.length ∧ Kept κ σ σ' ∧ StOk X.K F' H' (ρ' ++ ρτ) (σ' ++ στ) ∧ I i ρ') ⟨F1, ρ1, Same.refl _, rfl, l1, Kept.refl _ _, s1, i0⟩
    (fun i σ' H' _ ⟨F', ρ', e', _, _, _, s', _⟩ => e'.trans s'.sub) ?_ ?_
  · rintro i x σ2 H2 H3 hi ⟨F2, ρ2, e2, l2, l2', k2, s2, i2⟩ y
    obtain ⟨F3, d, e3, s3, hd, dv⟩ := y.st e2 s2
    obtain ⟨ρ3, ag, bo⟩ := turn i d ρ2 hd i2
    refine ⟨d, ρ2, ρ3, ag, F3, ρτ, στ, l2'.trans l2.symm, s3, dv, fun σ4 l4 l4' k4 s4 => ?_⟩
    have e4 : Same F F3 := (e1.trans e2).trans e3
    have kk := k2.trans k4
    have nx : WNx X.K κ F3 ρτ στ σ4 (I (i + 1)) fun σ' H' => ∃ F' ρ', Same F1 F' ∧ σ'.length = σ.length ∧ ρ'.length = σ.length ∧ Kept κ σ σ' ∧ StOk X.K F' H' (ρ' ++ ρτ) (σ' ++ στ) ∧ I (i + 1) ρ' :=
      fun σ5 H5 F5 ρ5 e5 l5 l5' k5 s5 q5 => ⟨F5, ρ5, (e2.trans e3).trans e5, (l5.trans l4).trans l2, (l5'.trans l4).trans l2, kk.trans k5, s5, q5⟩
    exact ⟨ρ3, _, bo, F3, ρτ, στ, l4'.trans l4.symm, s4, nx, r.up e4 (l4.trans l2) kk, n.up e4 (l4.trans l2) kk, nx⟩
  · rintro σ2 H2 ⟨F2, ρ2, e2, l2, l2', k2, s2, i2⟩
    exact n σ2 H2 F2 ρ2 (e1.trans e2) l2 l2' k2 s2 (done ρ2 i2)
/-- while, by a word and a measure of the slots -/
theorem as_while {c : Expr} (h : ∃ W : Nat → List Sl → Prop, (∃ m, W m ρ) ∧ ∀ m ρ1, W m ρ1 → AT X c ρ1 fun b ρ2 => (b = true → ASs X κ body ρ2 { nx := fun ρ3 => ∃ m', m' < m ∧ W m' ρ3, rt := k.rt, bk := k.nx, ct := fun ρ3 => ∃ m', m' < m ∧ W m' ρ3 }) ∧ (b = false → k.nx ρ2))
    (hp : PassesOwn (model X.prog X.w) X.A X.env X.xe := by exact PassesOwn.never) : AS X κ (.While c body [] pos) ρ k := by
  obtain ⟨W, ⟨m0, w0⟩, turn⟩ := h
  refine .of (ps_while hp pt_any (pss_any (κ := κ))) fun D σ H ⟨F, ρτ, στ, hl, s, n, r, bk, ct⟩ => ?_
  refine ⟨fun m σ' H' => ∃ F' ρ', Same F F' ∧ σ'.length = σ.length ∧ ρ'.length = σ.length ∧ Kept κ σ σ' ∧ StOk X.K F' H' (ρ' ++ ρτ) (σ' ++ στ) ∧ W m ρ', ⟨m0, F, ρ, Same.refl _, rfl, hl, Kept.refl _ _, s, w0⟩, ?_⟩
  rintro m σ1 H1 ⟨F1, ρ1, e1, l1, l1', k1, s1, w1⟩
  refine ⟨ρ1, _, turn m ρ1 w1, F1, ρτ, στ, l1'.trans l1.symm, s1, fun b H2 F2 ρ2 e2 l2 s2 ⟨q1, q2⟩ => ?_⟩
  cases b with
  | true =>
    rw [if_pos rfl]
    refine ⟨fun σ' H' => ∃ m', m' < m ∧ ∃ F' ρ', Same F F' ∧ σ'.length = σ.length ∧ ρ'.length = σ.length ∧ Kept κ σ σ' ∧ StOk X.K F' H' (ρ' ++ ρτ) (σ' ++ στ) ∧ W m' ρ', fun σ' H' ⟨m', hm, q⟩ => ⟨m', hm, q⟩, ?_⟩
    have nx : WNx X.K κ F2 ρτ στ σ1 (fun ρ3 => ∃ m', m' < m ∧ W m' ρ3) fun σ' H' => ∃ m', m' < m ∧ ∃ F' ρ', Same F F' ∧ σ'.length = σ.length ∧ ρ'.length = σ.length ∧ Kept κ σ σ' ∧ StOk X.K F' H' (ρ' ++ ρτ) (σ' ++ στ) ∧ W m' ρ' :=
      fun σ5 H5 F5 ρ5 e5 l5 l5' k5 s5 ⟨m', hm, q5⟩ => ⟨m', hm, F5, ρ5, (e1.trans e2).trans e5, l5.trans l1, l5'.trans l1, k1.trans k5, s5, q5⟩
    exact ⟨ρ2, _, q1 rfl, F2, ρτ, στ, l2, s2, nx, r.up (e1.trans e2) l1 k1, n.up (e1.trans e2) l1 k1, nx⟩
  | false =>
    rw [if_neg Bool.false_ne_true]
    exact n σ1 H2 F2 ρ2 (e1.trans e2) l1 (l2.trans l1) k1 s2 (q2 rfl)
end
end Ab
namespace Ab
open PySem PySem.Spec PyProof.Rows L2

/-! ### comprehensions -/
inductive Wipes : List Sl → List Nat → List Sl → Prop
  | nil {ρ : List Sl} : Wipes ρ [] ρ
  | cons {ρ ρ1 ρ2 : List Sl} {i : Nat} {vs : List Nat} : Wipes ρ vs ρ1 → SetAt ρ1 i .no ρ2 → Wipes ρ (i :: vs) ρ2
theorem Wipes.spec {ρ ρw : List Sl} {vs : List Nat} (h : Wipes ρ vs ρw) : ρw.length = ρ.length ∧ (∀ (j : Nat) (s : Sl), ρw[j]? = some s → s ≠ .no → j ∉ vs ∧ ρ[j]? = some s) ∧ ∀ (j : Nat) (s : Sl), j ∉ vs → ρ[j]? = some s → ρw[j]? = some s := by
  induction h with
  | nil => exact ⟨rfl, fun j s q _ => ⟨by simp, q⟩, fun j s _ q => q⟩
  | @cons _ _ i vs _ t ih =>
    obtain ⟨h1, h2, h3⟩ := ih
    refine ⟨t.len.trans h1, fun j s q ns => ?_, fun j s nj q => ?_⟩
    · rw [t.eq.1] at q
      by_cases e : i = j
      · subst e
        rw [List.getElem?_set_self t.eq.2] at q
        exact absurd (Option.some.inj q).symm ns
      · rw [List.getElem?_set_ne e] at q
        obtain ⟨g1, g2⟩ := h2 j s q ns
        exact ⟨by simp only [List.mem_cons, not_or]; exact ⟨Ne.symm e, g1⟩, g2⟩
    · simp only [List.mem_cons, not_or] at nj
      rw [t.eq.1, List.getElem?_set_ne (Ne.symm nj.1)]
      exact h3 j s nj.2 q
section
variable {K : PySem.W.Frag} {F F' H H' : Hp} {ρ ρw ρτ : List Sl} {σ στ : L2.St} {vs : List Nat}
theorem wipe_at {i : Nat} : ∀ {vs : List Nat}, i ∉ vs → (wipe σ vs)[i]? = σ[i]?
  | [], _ => rfl
  | v :: vs, h => by
    simp only [List.mem_cons, not_or] at h
    show ((wipe σ vs).set v none)[i]? = σ[i]?
    rw [List.getElem?_set_ne (Ne.symm h.1)]
    exact wipe_at h.2
theorem wipe_in {i : Nat} : ∀ {vs : List Nat}, i ∈ vs → i < σ.length → (wipe σ vs)[i]? = some none
  | [], h, _ => by simp at h
  | v :: vs, h, hl => by
    show ((wipe σ vs).set v none)[i]? = some none
    by_cases e : v = i
    · subst e
      rw [List.getElem?_set_self (by rw [wipe_length]; exact hl)]
    · rw [List.getElem?_set_ne e]
      simp only [List.mem_cons] at h
      exact wipe_in (h.resolve_left (Ne.symm e)) hl
theorem StOk.wiped (s : StOk K F H (ρ ++ ρτ) (σ ++ στ)) (hl : ρ.length = σ.length) (w : Wipes ρ vs ρw) : StOk K F H (ρw ++ ρτ) (wipe σ vs ++ στ) := by
  obtain ⟨h1, h2, _⟩ := w.spec
  have hw := wipe_length σ vs
  have key : ∀ (j : Nat) (y : Sl), y ≠ .no → (ρw ++ ρτ)[j]? = some y → (ρ ++ ρτ)[j]? = some y ∧ (wipe σ vs ++ στ)[j]? = (σ ++ στ)[j]? := by
    intro j y ny q
    by_cases hj : j < ρw.length
    · rw [get_left hj] at q
      obtain ⟨g1, g2⟩ := h2 j y q ny
      refine ⟨by rw [get_left (by omega)]; exact g2, ?_⟩
      rw [get_left (by omega), get_left (by omega)]
      exact wipe_at g1
    · rw [List.getElem?_append_right (by omega)] at q
      refine ⟨by rw [List.getElem?_append_right (by omega), ← h1]; exact q, ?_⟩
      rw [List.getElem?_append_right (by omega), List.getElem?_append_right (by omega), hw]
  have := s.len
  simp only [List.length_append] at this
  exact s.sel id (by simp only [List.length_append]; omega) (fun j d q => key j _ (by intro z; cases z) q) (fun j d q => key j _ (by intro z; cases z) q) fun j l c e _ _ z => z
def notCe : Sl → Bool
  | .ce _ => false
  | _ => true
/-- behind the block: the slots as they were -/
theorem StOk.unwiped {ρu : List Sl} {σu : L2.St} (s : StOk K F' H' (ρw ++ ρu) (wipe σ vs ++ σu)) (old : StOk K F H (ρ ++ ρτ) (σ ++ στ)) (e : Same F F') (hl : ρ.length = σ.length) (w : Wipes ρ vs ρw) (nc : ∀ j ∈ vs, notCe (ρ.getD j .no) = true) :
    StOk K F' H' (ρ ++ ρu) (σ ++ σu) := by
  obtain ⟨h1, h2, h3⟩ := w.spec
  have hw := wipe_length σ vs
  have hlen := s.len
  simp only [List.length_append] at hlen
  have left : ∀ (j : Nat) (y : Sl), j ∉ vs ∨ ρ.length ≤ j → (ρ ++ ρu)[j]? = some y → (ρw ++ ρu)[j]? = some y ∧ (σ ++ σu)[j]? = (wipe σ vs ++ σu)[j]? := by
    intro j y nj q
    by_cases hj : j < ρ.length
    · have nj : j ∉ vs := nj.resolve_right (by omega)
      rw [get_left hj] at q
      refine ⟨by rw [get_left (by omega)]; exact h3 j y nj q, ?_⟩
      have a1 : j < σ.length := by omega
      have a2 : j < (wipe σ vs).length := by omega
      exact (get_left a1).trans ((wipe_at nj).symm.trans (get_left a2).symm)
    · rw [List.getElem?_append_right (by omega)] at q
      have a0 : ρw.length ≤ j := by omega
      have a1 : σ.length ≤ j := by omega
      have a2 : (wipe σ vs).length ≤ j := by omega
      refine ⟨by rw [List.getElem?_append_right a0, h1]; exact q, ?_⟩
      rw [List.getElem?_append_right a1, List.getElem?_append_right a2, hw]
  have ceOut : ∀ (j : Nat) (c : Cn), (ρ ++ ρu)[j]? = some (.ce c) → j ∉ vs ∨ ρ.length ≤ j := by
    intro j c q
    by_cases hj : j < ρ.length
    · refine .inl fun hm => ?_
      rw [get_left hj] at q
      have := nc j hm
      rw [getD_of q] at this
      cases this
    · exact .inr (by omega)
  refine ⟨s.sub, by simp only [List.length_append]; omega, fun j d q => ?_, fun j c q => ?_, fun i j c e' a q1 q2 r1 r2 => ?_⟩
  · by_cases hj : j ∈ vs ∧ j < ρ.length
    · rw [get_left hj.2] at q
      obtain ⟨v, g1, g2⟩ := (old.left hl).va j d q
      exact ⟨v, by rw [get_left (by omega)]; exact g1, dp_mono e _ _ g2⟩
    · obtain ⟨g1, g2⟩ := left j _ (by rcases Classical.em (j ∈ vs) with h | h; exact .inr (Nat.not_lt.mp fun z => hj ⟨h, z⟩); exact .inl h) q
      rw [g2]
      exact s.va j d g1
  · obtain ⟨g1, g2⟩ := left j _ (ceOut j c q) q
    rw [g2]
    exact s.ce j c g1
  · obtain ⟨g1, g2⟩ := left i _ (ceOut i c q1) q1
    obtain ⟨g3, g4⟩ := left j _ (ceOut j e' q2) q2
    rw [g2] at r1
    rw [g4] at r2
    exact s.inj i j c e' a g1 g3 r1 r2
/-- the last one of the frame: what it is, and how it changes -/
theorem StOk.lastLst {D : Addr} {ds : List PyData} (s : StOk K F H (ρ ++ (ρτ ++ [.ce (.lst ds)])) (σ ++ (στ ++ [some (.ref D)]))) : F D = none ∧ ∃ vs, H D = some (.lst vs) ∧ RpAll K F vs ds := by
  obtain ⟨a, e, h1, vs, h2, h3⟩ := s.last
  cases e
  exact ⟨h1, vs, h2, h3⟩
theorem StOk.setLast {D : Addr} {c c' : Cn} {o : HO} (s : StOk K F H (ρ ++ (ρτ ++ [.ce c])) (σ ++ (στ ++ [some (.ref D)]))) (h : CnOk K F (upd H D o) D c') : StOk K F (upd H D o) (ρ ++ (ρτ ++ [.ce c'])) (σ ++ (στ ++ [some (.ref D)])) := by
  rw [← List.append_assoc, ← List.append_assoc] at s ⊢
  have hl := s.len
  simp only [List.length_append, List.length_cons, List.length_nil] at hl
  have e1 : (ρ ++ ρτ ++ [Sl.ce c])[(ρ ++ ρτ).length]? = some (.ce c) := by rw [List.getElem?_append_right (Nat.le_refl _), Nat.sub_self]; rfl
  have e2 : (σ ++ στ ++ [some (V.ref D)])[(ρ ++ ρτ).length]? = some (some (.ref D)) := by
    rw [List.getElem?_append_right (by simp only [List.length_append]; omega)]
    have : (ρ ++ ρτ).length - (σ ++ στ).length = 0 := by simp only [List.length_append]; omega
    rw [this]; rfl
  have := s.setCe e1 e2 h
  rw [List.set_append_right _ _ (Nat.le_refl _), Nat.sub_self] at this
  exact this
end

abbrev Cx.blk' (X : Cx) (scope : Scope) (s : Shared) (H : Hp) (C : Addr) (cl : List (Str × Addr)) (fp : List Addr) : Cx := X.blk s H scope (compEnvC scope cl C X.env) fp
def AEb (X : Cx) (sc : Scope) (e : Expr) (ρ : List Sl) (Φ : Rs → List Sl → Prop) : Prop := ∀ (s : Shared) (H : Hp) (C : Addr) (cl : List (Str × Addr)) (fp : List Addr), AE (Cx.blk' X sc s H C cl fp) e ρ Φ
structure ATs (X : Cx) (ifs : List Expr) (ρ : List Sl) (Φ : Bool → List Sl → Prop) : Prop where
  pt : PTs X ifs (tT X.K ρ Φ)
def ATb (X : Cx) (sc : Scope) (ifs : List Expr) (ρ : List Sl) (Φ : Bool → List Sl → Prop) : Prop := ∀ (s : Shared) (H : Hp) (C : Addr) (cl : List (Str × Addr)) (fp : List Addr), ATs (Cx.blk' X sc s H C cl fp) ifs ρ Φ
def AGb (X : Cx) (sc : Scope) (κ : Nat → Bool) (tg : Expr) (d : D) (ρ ρ' : List Sl) : Prop := ∀ (s : Shared) (H : Hp) (C : Addr) (cl : List (Str × Addr)) (fp : List Addr), AG (Cx.blk' X sc s H C cl fp) κ tg d ρ ρ'
def AIb (X : Cx) (sc : Scope) (tg iter : Expr) (ρ : List Sl) (Φ : List D → List Sl → Prop) : Prop := ∀ (s : Shared) (H : Hp) (C : Addr) (cl : List (Str × Addr)) (fp : List Addr), AI (Cx.blk' X sc s H C cl fp) tg iter ρ Φ
/-- all slots but these -/
def kC (vs : List Nat) : Nat → Bool := fun i => !vs.contains i
theorem wipe_kept {σ σ2 : L2.St} {vs : List Nat} (k : Kept (kC vs) (wipe σ vs) σ2) (hl : σ2.length = (wipe σ vs).length) : wipe σ2 vs = wipe σ vs := by
  rw [wipe_length] at hl
  refine List.ext_getElem? fun i => ?_
  by_cases hi : i ∈ vs
  · by_cases hs : i < σ.length
    · rw [wipe_in hi (by omega), wipe_in hi hs]
    · rw [List.getElem?_eq_none (by rw [wipe_length]; omega), List.getElem?_eq_none (by rw [wipe_length]; omega)]
  · rw [wipe_at hi]
    exact k i (by unfold kC; simp [hi])
section
variable {X : Cx} {sc : Scope} {e elt tg iter tg1 iter1 : Expr} {ifs ifs1 : List Expr} {ρ : List Sl} {Φ : Rs → List Sl → Prop} {pos : Pos}
theorem XOk.blk (xo : XOk X) (s : Shared) (H : Hp) (C : Addr) (cl : List (Str × Addr)) (fp : List Addr) : XOk (Cx.blk' X sc s H C cl fp) := ⟨xo.calm, xo.nd, xo.units⟩
theorem ats_nil {Φ : Bool → List Sl → Prop} (h : Φ true ρ) : ATs X [] ρ Φ := ⟨⟨fun pins s σ H Q I ⟨F, ρτ, στ, hl, st, k⟩ => pts_nil.run pins s σ H Q I (k true H F ρ (Same.refl F) hl st h)⟩⟩
theorem ats_one {c : Expr} {Φ : Bool → List Sl → Prop} (h : AT X c ρ Φ) : ATs X [c] ρ Φ := ⟨pts_one h.pt⟩
def AnyAEb (X : Cx) (sc : Scope) (e : Expr) : TE := fun σ H Q => ∃ (ρ : List Sl) (Φ : Rs → List Sl → Prop), AEb X sc e ρ Φ ∧ tA X.K ρ Φ σ H Q
def AnyATb (X : Cx) (sc : Scope) (ifs : List Expr) : TT := fun σ H Q => ∃ (ρ : List Sl) (Φ : Bool → List Sl → Prop), ATb X sc ifs ρ Φ ∧ tT X.K ρ Φ σ H Q
def AnyAGb (X : Cx) (sc : Scope) (κ : Nat → Bool) (tg : Expr) : TG := fun v σ H Q => ∃ (d : D) (ρ ρ' : List Sl), AGb X sc κ tg d ρ ρ' ∧ tG X.K κ d ρ ρ' v σ H Q
def AnyAIb (X : Cx) (sc : Scope) (tg iter : Expr) : TI := fun σ H R => ∃ (ρ : List Sl) (Φ : List D → List Sl → Prop), AIb X sc tg iter ρ Φ ∧ tI X.K ρ Φ σ H R
theorem any_eb (s : Shared) (H : Hp) (C : Addr) (cl : List (Str × Addr)) (fp : List Addr) : PE (Cx.blk' X sc s H C cl fp) e (AnyAEb X sc e) := ⟨fun pins s' σ H' Q I ⟨_, _, h, t⟩ => (h s H C cl fp).pe.run pins s' σ H' Q I t⟩
theorem any_tb (s : Shared) (H : Hp) (C : Addr) (cl : List (Str × Addr)) (fp : List Addr) : PTs (Cx.blk' X sc s H C cl fp) ifs (AnyATb X sc ifs) := ⟨fun pins s' σ H' Q I ⟨_, _, h, t⟩ => (h s H C cl fp).pt.run pins s' σ H' Q I t⟩
theorem any_gb {κ : Nat → Bool} (s : Shared) (H : Hp) (C : Addr) (cl : List (Str × Addr)) (fp : List Addr) : PG (Cx.blk' X sc s H C cl fp) tg (AnyAGb X sc κ tg) := ⟨fun pins s' σ H' v u Q I r ⟨_, _, _, h, t⟩ => (h s H C cl fp).pg.run pins s' σ H' v u Q I r t⟩
theorem any_ib (s : Shared) (H : Hp) (C : Addr) (cl : List (Str × Addr)) (fp : List Addr) : PI (Cx.blk' X sc s H C cl fp) tg iter (AnyAIb X sc tg iter) := ⟨fun pins s' σ H' R I ⟨_, _, h, t⟩ => (h s H C cl fp).pi.run pins s' σ H' R I t⟩

/-- the heap's word between two turns of a comprehension -/
def LcW (K : PySem.W.Frag) (F1 : Hp) (ρw ρτ : List Sl) (σw στ : L2.St) (D : Addr) (P : List PyData → Prop) (H : Hp) : Prop :=
  ∃ (F : Hp) (acc : List PyData), Same F1 F ∧ StOk K F H (ρw ++ (ρτ ++ [.ce (.lst acc)])) (σw ++ (στ ++ [some (.ref D)])) ∧ P acc
/-- a walk's turns, whatever one turn does -/
theorem lc_it' {J : It} {n : Nat} {G : Hp → Prop} {Y : Nat → Hp → V → Hp → Prop} (w : Walk J n G Y) {T : (Hp → Prop) → V → Hp → Prop} {H1 : Hp} {Qd : Hp → Prop} (Pv : Nat → Hp → Prop) (h0 : Pv 0 H1) (hG : ∀ i H, i ≤ n → Pv i H → G H)
    (hs : ∀ i x H H', i < n → Pv i H → Y i H x H' → T (Pv (i + 1)) x H') (hd : ∀ H, Pv n H → Qd H) :
    ∃ W : Nat → Nat → Hp → Prop, (∃ m, W 0 m H1) ∧ ∀ i m H, W i m H → (J.stop i H ∧ Qd H) ∨ (J.go i H ∧ ∃ Nx : Hp → Prop, (∀ H', Nx H' → ∃ m', m' < m ∧ W (i + 1) m' H') ∧ ∀ x H', J.yld i H x H' → T Nx x H') := by
  refine ⟨fun i m H => m = n - i ∧ i ≤ n ∧ Pv i H, ⟨n, by simp, Nat.zero_le _, h0⟩, ?_⟩
  rintro i m H ⟨rfl, hi, p⟩
  have q := hG i H hi p
  by_cases hlt : i < n
  · exact .inr ⟨w.goes i H hlt q, Pv (i + 1), fun H' p' => ⟨n - (i + 1), by omega, rfl, hlt, p'⟩, fun x H' y => hs i x H H' hlt p (w.yields i H x H' hlt q y)⟩
  · have e : i = n := by omega
    subst e
    exact .inl ⟨w.stops H q, hd H p⟩
/-- an item comes to the list -/
theorem lc_push {K : PySem.W.Frag} {F1 F H : Hp} {ρ ρ6 ρw ρτ : List Sl} {σ σw στ : L2.St} {vs : List Nat} {D : Addr} {acc : List PyData} {v : V} {R : Rs} {y : PyData} {P : List PyData → Prop} (e : Same F1 F) (hl : ρ.length = σ.length)
    (r : ROk K F H ρ (ρτ ++ [.ce (.lst acc)]) σ (στ ++ [some (.ref D)]) v R) (fz : Fz ρ R (.d y) ρ6) (w : Wipes ρ6 vs ρw) (hw : wipe σ vs = σw) (hz : acc.length < 1000000) (q : P (acc ++ [y])) :
    ∃ xs, H D = some (.lst xs) ∧ xs.length < sizeLine ∧ LcW K F1 ρw ρτ σw στ D P (upd H D (.lst (xs ++ [v]))) := by
  obtain ⟨F', e', l', s', dv⟩ := fz.ok r hl
  have dv : Rp K F' v y := dv
  obtain ⟨fD, xs, hD, ha⟩ := s'.lastLst
  refine ⟨xs, hD, ?_, F', acc ++ [y], e.trans e', ?_, q⟩
  · rw [dpAll_len ha, sizeLine_eq]; omega
  · have s2 : StOk K F' (upd H D (.lst (xs ++ [v]))) (ρ6 ++ (ρτ ++ [.ce (.lst (acc ++ [y]))])) (σ ++ (στ ++ [some (.ref D)])) := s'.setLast ⟨_, upd_same, dpAll_app ha (.cons dv .nil)⟩
    have := s2.wiped l' w
    rwa [hw] at this
def LcP (X : Cx) (sc : Scope) (own : List (Str × Nat)) (tg : Expr) (ifs : List Expr) (elt : Expr) (Φ : Rs → List Sl → Prop) (ds : List D) (ρ1 : List Sl) : Prop := ∃ (I : Nat → List D → Prop) (ρw : List Sl), Wipes ρ1 (own.map (·.2)) ρw ∧ (∀ j ∈ own.map (·.2), notCe (ρ1.getD j .no) = true) ∧ I 0 [] ∧
      (∀ (i : Nat) (d : D) (acc : List D), ds[i]? = some d → I i acc → ∃ ρ3, AGb X sc (kC (own.map (·.2))) tg d ρw ρ3 ∧ ATb X sc ifs ρ3 fun b ρ4 =>
        (b = true → AEb X sc elt ρ4 fun R ρ5 => ∃ y ρ6, Fz ρ5 R (.d y) ρ6 ∧ Wipes ρ6 (own.map (·.2)) ρw ∧ acc.length < 1000000 ∧ I (i + 1) (acc ++ [y])) ∧ (b = false → Wipes ρ4 (own.map (·.2)) ρw ∧ I (i + 1) acc)) ∧
      ∀ acc, I ds.length acc → Φ (.c (.lst acc)) ρ1
theorem lc_t {own : List (Str × Nat)} {σ : L2.St} {H : Hp} {Q : VK} (q : tA X.K ρ Φ σ H Q) : tLc (tI X.K ρ (LcP X sc own tg ifs elt Φ)) (AnyAGb X sc (kC (own.map (·.2))) tg) (AnyATb X sc ifs) (AnyAEb X sc elt) (own.map (·.2)) σ H Q := by
  obtain ⟨F, ρτ, στ, hl, s, k⟩ := q
  refine ⟨F, ρτ, στ, hl, s, fun J H1 F1 ds ρ1 e1 l1 s1 w ⟨I, ρw, wi, nc, i0, turn, done⟩ => fun D hD => ?_⟩
  generalize hvs : own.map (·.2) = vs at *
  have hlw : ρw.length = (wipe σ vs).length := by rw [wi.spec.1, wipe_length]; exact l1
  have s0 : StOk X.K F1 (upd H1 D (.lst [])) (ρ1 ++ (ρτ ++ [.ce (.lst [])])) (σ ++ (στ ++ [some (.ref D)])) := by
    rw [← List.append_assoc, ← List.append_assoc]
    exact s1.addCe hD fun F' e' => ⟨[], upd_same, .nil⟩
  refine lc_it w (fun i H' => LcW X.K F1 ρw ρτ (wipe σ vs) στ D (I i) H') ⟨F1, [], Same.refl _, s0.wiped l1 wi, i0⟩ (fun i H' _ ⟨F', acc, e', s', _⟩ => e'.trans s'.sub) ?_ ?_
  · rintro i x H2 H3 hi ⟨F2, acc, e2, s2, i2⟩ y
    obtain ⟨F3, d, e3, s3, hd, dv⟩ := y.st e2 s2
    obtain ⟨ρ3, ag, tt⟩ := turn i d acc hd i2
    refine ⟨d, ρw, ρ3, ag, F3, ρτ ++ [.ce (.lst acc)], στ ++ [some (.ref D)], hlw, s3, dv, fun σ4 l4 l4' k4 s4 => ?_⟩
    have hw4 := wipe_kept k4 l4
    refine ⟨hw4, ρ3, _, tt, F3, _, _, l4'.trans l4.symm, s4, fun b H5 F5 ρ5 e5 l5 s5 ⟨q1, q2⟩ => ?_⟩
    cases b with
    | true =>
      rw [if_pos rfl]
      refine ⟨ρ5, _, q1 rfl, F5, _, _, l5, s5, fun v H6 F6 R ρ6 e6 l6 r6 ⟨y, ρ7, fz, w7, hz, q⟩ => ?_⟩
      exact lc_push (((e2.trans e3).trans e5).trans e6) l6 r6 fz w7 hw4 hz q
    | false =>
      rw [if_neg Bool.false_ne_true]
      obtain ⟨w5, q⟩ := q2 rfl
      have := s5.wiped l5 w5
      rw [hw4] at this
      exact ⟨F5, acc, (e2.trans e3).trans e5, this, q⟩
  · rintro H2 ⟨F2, acc, e2, s2, i2⟩
    exact k _ H2 F2 (.c (.lst acc)) ρ1 (e1.trans e2) l1 (s2.unwiped s1 e2 l1 wi nc) (done acc i2)
theorem ae_lc {own : List (Str × Nat)} (xo : XOk X) (h : AI X tg iter ρ (LcP X sc own tg ifs elt Φ))
    (ok : BlkOk X.N X.env.scope sc own) (hs : ∀ x, foldedSetIterable iter X.env x = pure x := by intro _; rfl) : AE X (.ListComp elt [⟨tg, iter, ifs, 0⟩] sc pos) ρ Φ :=
  .of (pe_lc xo.calm xo.nd h.pi ok (any_gb (κ := kC (own.map (·.2)))) any_tb any_eb hs) fun σ H Q q => lc_t q
/-- name = [..] on one line -/
theorem as_stLc {κ : Nat → Bool} {k : Ks} {N : List Str} {i : Nat} {x : Str} {px spos : Pos} {own : List (Str × Nat)} (xo : XOk X) (hX : X.N = N) (hA : N[i]? = some x)
    (h : AI X tg iter ρ (LcP X sc own tg ifs elt fun R ρ' => ∃ ρ'', Puts ρ' i R ρ'' ∧ k.nx ρ''))
    (ok : BlkOk X.N X.env.scope sc own) (hk : κ i = false := by rfl) (hx : X.env.scope.names.lookup x = some .local := by rfl)
    (hsw : swapsWith (.ListComp elt [⟨tg, iter, ifs, 0⟩] sc pos) (some (.Name x px)) spos.line X.env = pure true := by rfl)
    (hs : ∀ x, foldedSetIterable iter X.env x = pure x := by intro _; rfl) : AS X κ (.Assign [.Name x px] (.ListComp elt [⟨tg, iter, ifs, 0⟩] sc pos) spos) ρ k := by
  refine .of (ps_setLc xo.calm xo.nd (hX ▸ hA) hx hsw h.pi ok (any_gb (κ := kC (own.map (·.2)))) any_tb any_eb hs) fun D σ H ⟨F, ρτ, στ, hl, s, n, r, bk, ct⟩ => ?_
  refine lc_t ⟨F, ρτ, στ, hl, s, fun v H' F' R ρ' e l ro ⟨ρ'', hp, hq⟩ => ?_⟩
  obtain ⟨l2, s2⟩ := hp.ok ro l
  exact n (σ.set i (some v)) H' F' ρ'' e (by rw [List.length_set]) l2 (kept_set hk) s2 hq
def LcP2 (X : Cx) (sc : Scope) (own : List (Str × Nat)) (vs1 : List Nat) (tg : Expr) (ifs : List Expr) (tg1 iter1 : Expr) (ifs1 : List Expr) (elt : Expr) (Φ : Rs → List Sl → Prop) (ds : List D) (ρ1 : List Sl) : Prop := ∃ (I : Nat → List D → Prop) (ρw : List Sl), Wipes ρ1 (own.map (·.2)) ρw ∧ (∀ j ∈ own.map (·.2), notCe (ρ1.getD j .no) = true) ∧ I 0 [] ∧
      (∀ (i : Nat) (d : D) (acc : List D), ds[i]? = some d → I i acc → ∃ ρ3, AGb X sc (kC (own.map (·.2))) tg d ρw ρ3 ∧ ATb X sc ifs ρ3 fun b ρ4 =>
        (b = true → AIb X sc tg1 iter1 ρ4 fun es ρ5 => ∃ (J : Nat → List D → Prop) (ρv : List Sl), Wipes ρ5 vs1 ρv ∧ J 0 acc ∧
          (∀ (j : Nat) (e : D) (acc : List D), es[j]? = some e → J j acc → ∃ ρ6, AGb X sc (kC vs1) tg1 e ρv ρ6 ∧ ATb X sc ifs1 ρ6 fun b ρ7 =>
            (b = true → AEb X sc elt ρ7 fun R ρ8 => ∃ y ρ9, Fz ρ8 R (.d y) ρ9 ∧ Wipes ρ9 vs1 ρv ∧ acc.length < 1000000 ∧ J (j + 1) (acc ++ [y])) ∧ (b = false → Wipes ρ7 vs1 ρv ∧ J (j + 1) acc)) ∧
          Wipes ρv (own.map (·.2)) ρw ∧ ∀ acc, J es.length acc → I (i + 1) acc) ∧
        (b = false → Wipes ρ4 (own.map (·.2)) ρw ∧ I (i + 1) acc)) ∧
      ∀ acc, I ds.length acc → Φ (.c (.lst acc)) ρ1
theorem lc2_t {own : List (Str × Nat)} {vs1 : List Nat} {σ : L2.St} {H : Hp} {Q : VK} (hv : ∀ i ∈ vs1, i ∈ own.map (·.2)) (q : tA X.K ρ Φ σ H Q) : tLc2 (tI X.K ρ (LcP2 X sc own vs1 tg ifs tg1 iter1 ifs1 elt Φ)) (AnyAGb X sc (kC (own.map (·.2))) tg) (AnyATb X sc ifs) (AnyAIb X sc tg1 iter1) (AnyAGb X sc (kC vs1) tg1) (AnyATb X sc ifs1) (AnyAEb X sc elt) (own.map (·.2)) vs1 σ H Q := by
  obtain ⟨F, ρτ, στ, hl, s, k⟩ := q
  refine ⟨F, ρτ, στ, hl, s, fun J H1 F1 ds ρ1 e1 l1 s1 w ⟨I, ρw, wi, nc, i0, turn, done⟩ => fun D hD => ?_⟩
  generalize hvs : own.map (·.2) = vs at *
  have hlw : ρw.length = (wipe σ vs).length := by rw [wi.spec.1, wipe_length]; exact l1
  have s0 : StOk X.K F1 (upd H1 D (.lst [])) (ρ1 ++ (ρτ ++ [.ce (.lst [])])) (σ ++ (στ ++ [some (.ref D)])) := by
    rw [← List.append_assoc, ← List.append_assoc]
    exact s1.addCe hD fun F' e' => ⟨[], upd_same, .nil⟩
  refine lc_it' w (fun i H' => LcW X.K F1 ρw ρτ (wipe σ vs) στ D (I i) H') ⟨F1, [], Same.refl _, s0.wiped l1 wi, i0⟩ (fun i H' _ ⟨F', acc, e', s', _⟩ => e'.trans s'.sub) ?_ ?_
  · rintro i x H2 H3 hi ⟨F2, acc, e2, s2, i2⟩ y
    obtain ⟨F3, d, e3, s3, hd, dv⟩ := y.st e2 s2
    obtain ⟨ρ3, ag, tt⟩ := turn i d acc hd i2
    refine ⟨d, ρw, ρ3, ag, F3, ρτ ++ [.ce (.lst acc)], στ ++ [some (.ref D)], hlw, s3, dv, fun σ4 l4 l4' k4 s4 => ?_⟩
    have hw4 := wipe_kept k4 l4
    refine ⟨hw4, ρ3, _, tt, F3, _, _, l4'.trans l4.symm, s4, fun b H5 F5 ρ5 e5 l5 s5 ⟨q1, q2⟩ => ?_⟩
    cases b with
    | false =>
      rw [if_neg Bool.false_ne_true]
      obtain ⟨w5, q⟩ := q2 rfl
      have := s5.wiped l5 w5
      rw [hw4] at this
      exact ⟨F5, acc, (e2.trans e3).trans e5, this, q⟩
    | true =>
      rw [if_pos rfl]
      refine ⟨ρ5, _, q1 rfl, F5, _, _, l5, s5, fun J1 H6 F6 es ρ6 e6 l6 s6 w1 ⟨P, ρv, wv, p0, turn1, wb, done1⟩ => ?_⟩
      have hlv : ρv.length = (wipe σ4 vs1).length := by rw [wv.spec.1, wipe_length]; exact l6
      refine lc_it' w1 (fun j H' => LcW X.K F6 ρv ρτ (wipe σ4 vs1) στ D (P j) H') ⟨F6, acc, Same.refl _, s6.wiped l6 wv, p0⟩ (fun i H' _ ⟨F', acc, e', s', _⟩ => e'.trans s'.sub) ?_ ?_
      · rintro j x' H7 H8 hj ⟨F7, acc7, e7, s7, p7⟩ y'
        obtain ⟨F8, d8, e8, s8, hd8, dv8⟩ := y'.st e7 s7
        obtain ⟨ρ9, ag9, tt9⟩ := turn1 j d8 acc7 hd8 p7
        refine ⟨d8, ρv, ρ9, ag9, F8, ρτ ++ [.ce (.lst acc7)], στ ++ [some (.ref D)], hlv, s8, dv8, fun σa la la' ka sa => ?_⟩
        have hwa := wipe_kept ka la
        refine ⟨hwa, ρ9, _, tt9, F8, _, _, la'.trans la.symm, sa, fun b Hb Fb ρb eb lb sb ⟨qa, qb⟩ => ?_⟩
        cases b with
        | true =>
          rw [if_pos rfl]
          refine ⟨ρb, _, qa rfl, Fb, _, _, lb, sb, fun v Hc Fc R ρc ec lc rc ⟨y, ρd, fz, wd, hz, q⟩ => ?_⟩
          exact lc_push (((e7.trans e8).trans eb).trans ec) lc rc fz wd hwa hz q
        | false =>
          rw [if_neg Bool.false_ne_true]
          obtain ⟨w5, q⟩ := qb rfl
          have := sb.wiped lb w5
          rw [hwa] at this
          exact ⟨Fb, acc7, (e7.trans e8).trans eb, this, q⟩
      · rintro H7 ⟨F7, acc7, e7, s7, p7⟩
        have l7 : ρv.length = (wipe σ4 vs1).length := hlv
        have := s7.wiped l7 wb
        have hww : wipe (wipe σ4 vs1) vs = wipe σ vs := by
          refine wipe_kept (fun i hi => ?_) (by rw [wipe_length, l4])
          have ni : i ∉ vs := by unfold kC at hi; simpa using hi
          rw [wipe_at fun z => ni (hvs ▸ hv i z)]
          exact k4 i hi
        rw [hww] at this
        exact ⟨F7, acc7, (((e2.trans e3).trans e5).trans e6).trans e7, this, done1 acc7 p7⟩
  · rintro H2 ⟨F2, acc, e2, s2, i2⟩
    exact k _ H2 F2 (.c (.lst acc)) ρ1 (e1.trans e2) l1 (s2.unwiped s1 e2 l1 wi nc) (done acc i2)
theorem ae_lc2 {own : List (Str × Nat)} {vs1 : List Nat} (xo : XOk X) (h : AI X tg iter ρ (LcP2 X sc own vs1 tg ifs tg1 iter1 ifs1 elt Φ))
    (ok : BlkOk X.N X.env.scope sc own) (hv : ∀ i ∈ vs1, i ∈ own.map (·.2)) (hs : ∀ x, foldedSetIterable iter X.env x = pure x := by intro _; rfl) (hs1 : ∀ env x, foldedSetIterable iter1 env x = pure x := by intro _ _; rfl) :
    AE X (.ListComp elt [⟨tg, iter, ifs, 0⟩, ⟨tg1, iter1, ifs1, 0⟩] sc pos) ρ Φ :=
  .of (pe_lc2 xo.calm xo.nd h.pi ok hv (any_gb (κ := kC (own.map (·.2)))) any_tb any_ib (any_gb (κ := kC vs1)) any_tb any_eb hs hs1) fun σ H Q q => lc2_t hv q
theorem as_stLc2 {κ : Nat → Bool} {k : Ks} {N : List Str} {i : Nat} {x : Str} {px spos : Pos} {own : List (Str × Nat)} {vs1 : List Nat} (xo : XOk X) (hX : X.N = N) (hA : N[i]? = some x)
    (h : AI X tg iter ρ (LcP2 X sc own vs1 tg ifs tg1 iter1 ifs1 elt fun R ρ' => ∃ ρ'', Puts ρ' i R ρ'' ∧ k.nx ρ''))
    (ok : BlkOk X.N X.env.scope sc own) (hv : ∀ i ∈ vs1, i ∈ own.map (·.2)) (hk : κ i = false := by rfl) (hx : X.env.scope.names.lookup x = some .local := by rfl)
    (hsw : swapsWith (.ListComp elt [⟨tg, iter, ifs, 0⟩, ⟨tg1, iter1, ifs1, 0⟩] sc pos) (some (.Name x px)) spos.line X.env = pure true := by rfl)
    (hs : ∀ x, foldedSetIterable iter X.env x = pure x := by intro _; rfl) (hs1 : ∀ env x, foldedSetIterable iter1 env x = pure x := by intro _ _; rfl) :
    AS X κ (.Assign [.Name x px] (.ListComp elt [⟨tg, iter, ifs, 0⟩, ⟨tg1, iter1, ifs1, 0⟩] sc pos) spos) ρ k := by
  refine .of (ps_setLc2 xo.calm xo.nd (hX ▸ hA) hx hsw h.pi ok hv (any_gb (κ := kC (own.map (·.2)))) any_tb any_ib (any_gb (κ := kC vs1)) any_tb any_eb hs hs1) fun D σ H ⟨F, ρτ, στ, hl, s, n, r, bk, ct⟩ => ?_
  refine lc2_t hv ⟨F, ρτ, στ, hl, s, fun v H' F' R ρ' e l ro ⟨ρ'', hp, hq⟩ => ?_⟩
  obtain ⟨l2, s2⟩ := hp.ok ro l
  exact n (σ.set i (some v)) H' F' ρ'' e (by rw [List.length_set]) l2 (kept_set hk) s2 hq

end
end Ab
namespace Ab
open PySem PySem.Spec PyProof.Rows L2

section
variable {X : Cx} {e a b c : Expr} {es : List Expr} {ρ : List Sl} {Φ : Rs → List Sl → Prop} {pos p : Pos}
/-! ### displays -/
theorem ae_tup {kk : Nat} (h : AAs X es ρ fun as ρ1 => ∃ ds, as = ds.map .d ∧ ds.length ≤ 1000000 ∧ Φ (.v (.tuple ds)) ρ1) : AE X (.Tuple es kk pos) ρ Φ := by
  refine .of (pe_tup h.pa) fun σ H Q ⟨F, ρτ, στ, hl, s, k⟩ => ?_
  refine ⟨F, ρτ, στ, hl, s, fun vs H1 F1 as ρ1 e1 l1 s1 pr ⟨ds, ea, hz, q⟩ => ?_⟩
  subst ea
  have hd := paired_ds pr
  refine ⟨by rw [dpAll_len hd]; exact line_of hz, fun p hp => ?_⟩
  have hF : F1 p = none := s1.sub.free hp
  have eF : Same F1 (upd F1 p (.tup vs)) := same_new hF
  exact k _ _ _ (.v (.tuple ds)) ρ1 (e1.trans eF) l1 ⟨s1.grow hp _, .tup upd_same (dpAll_mono eF _ _ hd)⟩ q
theorem ae_lst (h : AAs X es ρ fun as ρ1 => ∃ ds, as = ds.map .d ∧ ds.length ≤ 1000000 ∧ Φ (.c (.lst ds)) ρ1) : AE X (.List es pos) ρ Φ := by
  refine .of (pe_lst h.pa) fun σ H Q ⟨F, ρτ, στ, hl, s, k⟩ => ?_
  refine ⟨F, ρτ, στ, hl, s, fun vs H1 F1 as ρ1 e1 l1 s1 pr ⟨ds, ea, hz, q⟩ => ?_⟩
  subst ea
  have hd := paired_ds pr
  refine ⟨by rw [dpAll_len hd]; exact line_of hz, fun p hp => ?_⟩
  refine k _ _ F1 (.c (.lst ds)) ρ1 e1 l1 ?_ q
  show StOk _ _ _ _ _
  rw [← List.append_assoc, ← List.append_assoc]
  exact s1.addCe hp fun F' e' => ⟨vs, upd_same, dpAll_mono e' _ _ hd⟩
/-- a list of two numbers is a box -/
theorem ae_box (h : AE X e ρ fun R ρ1 => ∃ g m : Int, R = .c (.lst [.int g, .int m]) ∧ 0 ≤ g ∧ 1 ≤ m ∧ m < 4294967296 ∧ Φ (.c .box) ρ1) : AE X e ρ Φ := by
  refine .of h.pe fun σ H Q ⟨F, ρτ, στ, hl, s, k⟩ => ?_
  refine ⟨F, ρτ, στ, hl, s, fun v H1 F1 R ρ1 e1 l1 ro ⟨g, m, eR, h1, h2, h3, q⟩ => ?_⟩
  subst eR
  have ro : StOk X.K F1 H1 (ρ1 ++ (ρτ ++ [.ce (.lst [.int g, .int m])])) (σ ++ (στ ++ [some v])) := ro
  refine k v H1 F1 (.c .box) ρ1 e1 l1 ?_ q
  obtain ⟨a, rfl, _, vs, hD, ha⟩ := ro.last
  obtain rfl : vs = [V.int g, V.int m] := dpAll_ints (ns := [g, m]) ha
  have e0 : upd H1 a (.lst [V.int g, V.int m]) = H1 := by
    funext x
    by_cases hx : x = a
    · subst hx; rw [upd_same, hD]
    · rw [upd_ne hx]
  have := ro.setLast (o := .lst [V.int g, V.int m]) (c' := .box) ⟨g, m, upd_same, h1, h2, h3⟩
  rwa [e0] at this

/-! ### tests -/
theorem ae_ifExp {t : Expr} (h : AT X t ρ fun k ρ1 => (k = true → AE X a ρ1 Φ) ∧ (k = false → AE X b ρ1 Φ)) : AE X (.IfExp t a b pos) ρ Φ := by
  refine .of (pe_ifExp h.pt pe_any pe_any) fun σ H Q ⟨F, ρτ, στ, hl, s, k⟩ => ?_
  refine ⟨F, ρτ, στ, hl, s, fun bb H1 F1 ρ1 e1 l1 s1 ⟨q1, q2⟩ => ?_⟩
  have t : tA X.K ρ1 Φ σ H1 Q := ⟨F1, ρτ, στ, l1, s1, fun v H' F' R ρ' e' l' r' q' => k v H' F' R ρ' (e1.trans e') l' r' q'⟩
  cases bb with
  | true => exact ⟨ρ1, Φ, q1 rfl, t⟩
  | false => exact ⟨ρ1, Φ, q2 rfl, t⟩
theorem at_val {Φ : Bool → List Sl → Prop} (h : AE X e ρ fun R ρ1 => ∃ k, rsSl ρ1 R = .va (.bool k) ∧ Φ k ρ1) (he : ∀ whole, isTrue e X.env whole = (do let v ← whole; standAt e.pos; holding [v] (truthy v)) := by intro _; rfl) : AT X e ρ Φ := by
  refine .of (pt_val h.pe he) fun σ H Q ⟨F, ρτ, στ, hl, s, k⟩ => ?_
  refine ⟨F, ρτ, στ, hl, s, fun v H1 F1 R ρ1 e1 l1 ro ⟨bb, hR, q⟩ => ?_⟩
  have o := ro.slOk l1
  rw [hR] at o
  exact ⟨bb, dp_bool o, k bb H1 F1 ρ1 e1 l1 (ro.st l1) q⟩
theorem at_bool {Φ : Bool → List Sl → Prop} (h : AW X e ρ Φ) : AT X e ρ Φ := h.at
theorem at_not {Φ : Bool → List Sl → Prop} (h : AT X a ρ fun k ρ1 => Φ (!k) ρ1) : AT X (.UnaryOp .Not a pos) ρ Φ :=
  .of (pt_not h.pt) fun σ H Q ⟨F, ρτ, στ, hl, s, k⟩ => ⟨F, ρτ, στ, hl, s, fun bb H1 F1 ρ1 e1 l1 s1 q => k (!bb) H1 F1 ρ1 e1 l1 s1 q⟩
theorem aw_and1 {Φ : Bool → List Sl → Prop} (h : AT X a ρ Φ) : AW X (.BoolOp .And [a] pos) ρ Φ := ⟨pw_and1 h.pt⟩
theorem aw_or1 {Φ : Bool → List Sl → Prop} (h : AT X a ρ Φ) : AW X (.BoolOp .Or [a] pos) ρ Φ := ⟨pw_or1 h.pt⟩
theorem aw_and {rest : List Expr} {Φ : Bool → List Sl → Prop} (h : AT X a ρ fun k ρ1 => (k = true → AW X (.BoolOp .And (b :: rest) pos) ρ1 Φ) ∧ (k = false → Φ false ρ1)) : AW X (.BoolOp .And (a :: b :: rest) pos) ρ Φ := by
  refine .of (pw_and h.pt pw_any) fun σ H Q ⟨F, ρτ, στ, hl, s, k⟩ => ?_
  refine ⟨F, ρτ, στ, hl, s, fun bb H1 F1 ρ1 e1 l1 s1 ⟨q1, q2⟩ => ?_⟩
  cases bb with
  | true => exact ⟨ρ1, Φ, q1 rfl, F1, ρτ, στ, l1, s1, fun v H' F' ρ' e' l' r' q' => k v H' F' ρ' (e1.trans e') l' r' q'⟩
  | false => exact k false H1 F1 ρ1 e1 l1 s1 (q2 rfl)
theorem aw_or {rest : List Expr} {Φ : Bool → List Sl → Prop} (h : AT X a ρ fun k ρ1 => (k = false → AW X (.BoolOp .Or (b :: rest) pos) ρ1 Φ) ∧ (k = true → Φ true ρ1)) : AW X (.BoolOp .Or (a :: b :: rest) pos) ρ Φ := by
  refine .of (pw_or h.pt pw_any) fun σ H Q ⟨F, ρτ, στ, hl, s, k⟩ => ?_
  refine ⟨F, ρτ, στ, hl, s, fun bb H1 F1 ρ1 e1 l1 s1 ⟨q1, q2⟩ => ?_⟩
  cases bb with
  | false => exact ⟨ρ1, Φ, q1 rfl, F1, ρτ, στ, l1, s1, fun v H' F' ρ' e' l' r' q' => k v H' F' ρ' (e1.trans e') l' r' q'⟩
  | true => exact k true H1 F1 ρ1 e1 l1 s1 (q2 rfl)
theorem ae_one {op : BoolOp} (h : AE X a ρ Φ) : AE X (.BoolOp op [a] pos) ρ Φ := ⟨pe_one h.pe⟩
theorem ae_and {rest : List Expr} (h : AE X a ρ fun R ρ1 => ∃ k, rsSl ρ1 R = .va (.bool k) ∧ (k = true → AE X (.BoolOp .And (b :: rest) pos) ρ1 Φ) ∧ (k = false → Φ (.v (.bool false)) ρ1)) : AE X (.BoolOp .And (a :: b :: rest) pos) ρ Φ := by
  refine .of (pe_and h.pe pe_any) fun σ H Q ⟨F, ρτ, στ, hl, s, k⟩ => ?_
  refine ⟨F, ρτ, στ, hl, s, fun v H1 F1 R ρ1 e1 l1 ro ⟨bb, hR, q1, q2⟩ => ?_⟩
  have o := ro.slOk l1
  rw [hR] at o
  refine ⟨bb, dp_bool o, ?_⟩
  cases bb with
  | true => exact ⟨ρ1, Φ, q1 rfl, F1, ρτ, στ, l1, ro.st l1, fun v H' F' R ρ' e' l' r' q' => k v H' F' R ρ' (e1.trans e') l' r' q'⟩
  | false => exact k _ H1 F1 (.v (.bool false)) ρ1 e1 l1 ⟨ro.st l1, .bl _⟩ (q2 rfl)
theorem ae_or {rest : List Expr} (h : AE X a ρ fun R ρ1 => ∃ k, rsSl ρ1 R = .va (.bool k) ∧ (k = false → AE X (.BoolOp .Or (b :: rest) pos) ρ1 Φ) ∧ (k = true → Φ (.v (.bool true)) ρ1)) : AE X (.BoolOp .Or (a :: b :: rest) pos) ρ Φ := by
  refine .of (pe_or h.pe pe_any) fun σ H Q ⟨F, ρτ, στ, hl, s, k⟩ => ?_
  refine ⟨F, ρτ, στ, hl, s, fun v H1 F1 R ρ1 e1 l1 ro ⟨bb, hR, q1, q2⟩ => ?_⟩
  have o := ro.slOk l1
  rw [hR] at o
  refine ⟨bb, dp_bool o, ?_⟩
  cases bb with
  | false => exact ⟨ρ1, Φ, q1 rfl, F1, ρτ, στ, l1, ro.st l1, fun v H' F' R ρ' e' l' r' q' => k v H' F' R ρ' (e1.trans e') l' r' q'⟩
  | true => exact k _ H1 F1 (.v (.bool true)) ρ1 e1 l1 ⟨ro.st l1, .bl _⟩ (q2 rfl)
theorem ae_not (h : AE X a ρ fun R ρ1 => ∃ k, rsSl ρ1 R = .va (.bool k) ∧ Φ (.v (.bool (!k))) ρ1) : AE X (.UnaryOp .Not a pos) ρ Φ := by
  refine .of (pe_not h.pe) fun σ H Q ⟨F, ρτ, στ, hl, s, k⟩ => ?_
  refine ⟨F, ρτ, στ, hl, s, fun v H1 F1 R ρ1 e1 l1 ro ⟨bb, hR, q⟩ => ?_⟩
  have o := ro.slOk l1
  rw [hR] at o
  exact ⟨bb, dp_bool o, k _ H1 F1 (.v (.bool (!bb))) ρ1 e1 l1 ⟨ro.st l1, .bl _⟩ q⟩
theorem ae_neg (h : AE X a ρ fun R ρ1 => ∃ i, rsSl ρ1 R = .va (.int i) ∧ Φ (.v (.int (-i))) ρ1) : AE X (.UnaryOp .USub a pos) ρ Φ := by
  refine .of (pe_un un_neg h.pe) fun σ H Q ⟨F, ρτ, στ, hl, s, k⟩ => ?_
  refine ⟨F, ρτ, στ, hl, s, fun v H1 F1 R ρ1 e1 l1 ro ⟨i, hR, q⟩ => ?_⟩
  have o := ro.slOk l1
  rw [hR] at o
  exact ⟨i, dp_int o, k _ H1 F1 (.v (.int (-i))) ρ1 e1 l1 ⟨ro.st l1, .int _⟩ q⟩
/-- a chain of two comparisons of numbers, b a plain operand -/
theorem tchain {op op' : CmpOp} {f f' : Int → Int → Bool} {σ : L2.St} {H : Hp} {Q : VK} {Φ : Bool → List Sl → Prop} {F : Hp} {ρτ : List Sl} {στ : L2.St} (hl : ρ.length = σ.length) (st : StOk X.K F H (ρ ++ ρτ) (σ ++ στ))
    (h : AE X a ρ fun R1 ρ1 => ∃ i, rsSl ρ1 R1 = .va (.int i) ∧ AE X b ρ1 fun R2 ρ2 => ∃ j, rsSl ρ2 R2 = .va (.int j) ∧ (f i j = true → AE X c ρ2 fun R3 ρ3 => ∃ l, rsSl ρ3 R3 = .va (.int l) ∧ Φ (f' j l) ρ3) ∧ (f i j = false → Φ false ρ2))
    (k : ∀ (bb : Bool) (H' F' : Hp) (ρ' : List Sl), Same F F' → ρ'.length = σ.length → StOk X.K F' H' (ρ' ++ ρτ) (σ ++ στ) → Φ bb ρ' → Q (.bl bb) H') :
    tChain (rI0 fun i j => .bl (f i j)) (rI0 fun i j => .bl (f' i j)) (AnyA X a) (AnyA X b) (AnyA X c) σ H Q := by
  refine ⟨ρ, _, h, F, ρτ, στ, hl, st, fun v1 H1 F1 R1 ρ1 e1 l1 r1 ⟨i, h1, q1⟩ => ?_⟩
  have o1 := r1.slOk l1
  rw [h1] at o1
  obtain rfl := dp_int o1
  refine ⟨ρ1, _, q1, F1, ρτ, στ, l1, r1.st l1, fun v2 H2 F2 R2 ρ2 e2 l2 r2 ⟨j, h2, q2, q2'⟩ => ?_⟩
  have o2 := r2.slOk l2
  rw [h2] at o2
  obtain rfl := dp_int o2
  refine ⟨i, j, rfl, rfl, f i j, rfl, ?_⟩
  cases hf : f i j with
  | true =>
    rw [if_pos rfl]
    refine ⟨ρ2, _, q2 hf, F2, ρτ, στ, l2, r2.st l2, fun v3 H3 F3 R3 ρ3 e3 l3 r3 ⟨l, h3, q3⟩ => ?_⟩
    have o3 := r3.slOk l3
    rw [h3] at o3
    obtain rfl := dp_int o3
    exact ⟨j, l, rfl, rfl, k _ H3 F3 ρ3 ((e1.trans e2).trans e3) l3 (r3.st l3) q3⟩
  | false =>
    rw [if_neg Bool.false_ne_true]
    exact k false H2 F2 ρ2 (e1.trans e2) l2 (r2.st l2) (q2' hf)
theorem at_chain {op op' : CmpOp} {f f' : Int → Int → Bool} {Φ : Bool → List Sl → Prop} (ho : OpR X (compareOp op) (rI0 fun i j => .bl (f i j))) (ho' : OpR X (compareOp op') (rI0 fun i j => .bl (f' i j)))
    (h : AE X a ρ fun R1 ρ1 => ∃ i, rsSl ρ1 R1 = .va (.int i) ∧ AE X b ρ1 fun R2 ρ2 => ∃ j, rsSl ρ2 R2 = .va (.int j) ∧ (f i j = true → AE X c ρ2 fun R3 ρ3 => ∃ l, rsSl ρ3 R3 = .va (.int l) ∧ Φ (f' j l) ρ3) ∧ (f i j = false → Φ false ρ2))
    (hm : lastMarks [op, op'] [b, c] = false := by rfl) : AT X (.Compare a [op, op'] [b, c] pos) ρ Φ := by
  refine .of (pt_chain ho ho' pe_any pe_any pe_any (hm := hm)) fun σ H Q ⟨F, ρτ, στ, hl, s, k⟩ => ?_
  exact tchain (op := op) (op' := op') hl s h fun bb H' F' ρ' e' l' s' q => ⟨bb, rfl, k bb H' F' ρ' e' l' s' q⟩
theorem ae_chain {op op' : CmpOp} {f f' : Int → Int → Bool} (ho : OpR X (compareOp op) (rI0 fun i j => .bl (f i j))) (ho' : OpR X (compareOp op') (rI0 fun i j => .bl (f' i j)))
    (h : AE X a ρ fun R1 ρ1 => ∃ i, rsSl ρ1 R1 = .va (.int i) ∧ AE X b ρ1 fun R2 ρ2 => ∃ j, rsSl ρ2 R2 = .va (.int j) ∧ (f i j = true → AE X c ρ2 fun R3 ρ3 => ∃ l, rsSl ρ3 R3 = .va (.int l) ∧ Φ (.v (.bool (f' j l))) ρ3) ∧ (f i j = false → Φ (.v (.bool false)) ρ2))
    (hm : lastMarks [op, op'] [b, c] = false := by rfl) : AE X (.Compare a [op, op'] [b, c] pos) ρ Φ := by
  refine .of (pe_chain ho ho' pe_any pe_any pe_any (hm := hm)) fun σ H Q ⟨F, ρτ, στ, hl, s, k⟩ => ?_
  exact tchain (op := op) (op' := op') (Φ := fun bb ρ' => Φ (.v (.bool bb)) ρ') hl s h fun bb H' F' ρ' e' l' s' q => k _ H' F' (.v (.bool bb)) ρ' e' l' ⟨s', .bl _⟩ q

/-! ### built-ins of one argument -/
/-- their answer is data -/
def C1Ok (X : Cx) (r : List V → Hp → VK → Prop) (C : Sl → D → Prop) : Prop :=
  ∀ (F H : Hp) (ρ : List Sl) (σ : L2.St) (v : V) (s : Sl) (d : D) (Q : VK), StOk X.K F H ρ σ → SlOk X.K F H v s → C s d →
    (∀ v' H' F', Same F F' → (∀ ρ' σ', StOk X.K F H ρ' σ' → StOk X.K F' H' ρ' σ') → Rp X.K F' v' d → Q v' H') → r [v] H Q
/-- .. a new list -/
def C1Lk (X : Cx) (r : List V → Hp → VK → Prop) (C : Sl → List D → Prop) : Prop :=
  ∀ (F H : Hp) (ρ : List Sl) (σ : L2.St) (v : V) (s : Sl) (ds : List D) (Q : VK), StOk X.K F H ρ σ → SlOk X.K F H v s → C s ds →
    (∀ p vs, H p = none → RpAll X.K F vs ds → Q (.ref p) (upd H p (.lst vs))) → r [v] H Q
theorem one_arg {r : List V → Hp → VK → Prop} {G : Sl → List Sl → Prop} {σ : L2.St} {H : Hp} {Q : VK} {F : Hp} {ρτ : List Sl} {στ : L2.St} (hl : ρ.length = σ.length) (st : StOk X.K F H (ρ ++ ρτ) (σ ++ στ))
    (h : AE X a ρ fun R ρ1 => G (rsSl ρ1 R) ρ1) (k : ∀ (s : Sl) (ρ1 : List Sl) (F1 H1 : Hp) (v : V), G s ρ1 → Same F F1 → ρ1.length = σ.length → StOk X.K F1 H1 (ρ1 ++ ρτ) (σ ++ στ) → SlOk X.K F1 H1 v s → r [v] H1 Q) : tCB r (tCons (AnyA X a) tNil) σ H Q :=
  ⟨ρ, _, h, F, ρτ, στ, hl, st, fun v H1 F1 R ρ1 e1 l1 ro q => k _ ρ1 F1 H1 v q e1 l1 (ro.st l1) (ro.slOk l1)⟩
theorem pa_1 (hs : starEach [a] X.env = (false, eval a X.env) :: starEach [] X.env := by rfl) : PA X [a] (tCons (AnyA X a) tNil) := pa_cons pe_any pa_nil hs
theorem ae_b1 {id : String} {x : Str} {r : List V → Hp → VK → Prop} {C : Sl → D → Prop} (hc : CallR X (.builtin id) r) (hC : C1Ok X r C) (hm : X.mg x = none) (hv : bootBuiltins x = some (.builtin id)) (h : AE X a ρ fun R ρ1 => ∃ d, C (rsSl ρ1 R) d ∧ Φ (.v d) ρ1)
    (hg : Gl X x := by rfl) (hn : x ≠ "__name__" := by decide) (hdb : (x == ("__debug__" : Str)) = false := by decide) (hs : starEach [a] X.env = (false, eval a X.env) :: starEach [] X.env := by rfl) (hpl : (backTo pos (starEach [] X.env)).any (·.1) = false := by rfl) :
    AE X (.Call (.Name x p) [a] [] pos) ρ Φ :=
  .of (pe_callB hc hg hm hv (pa_1 hs) hn hdb hs hpl) fun σ H Q ⟨F, ρτ, στ, hl, st, k⟩ => one_arg (G := fun s ρ1 => ∃ d, C s d ∧ Φ (.v d) ρ1) hl st h fun s ρ1 F1 H1 v ⟨d, hd, q⟩ e1 l1 s1 o =>
    hC F1 H1 _ _ v s d Q s1 o hd fun v' H2 F2 e2 up dv => k v' H2 F2 (.v d) ρ1 (e1.trans e2) l1 ⟨up _ _ s1, dv⟩ q
theorem ae_t1 {T : String} {x : Str} {r : List V → Hp → VK → Prop} {C : Sl → D → Prop} (hc : CallR X (.type T) r) (hC : C1Ok X r C) (hm : X.mg x = none) (hv : bootBuiltins x = some (.type T)) (h : AE X a ρ fun R ρ1 => ∃ d, C (rsSl ρ1 R) d ∧ Φ (.v d) ρ1)
    (hg : Gl X x := by rfl) (hn : x ≠ "__name__" := by decide) (hdb : (x == ("__debug__" : Str)) = false := by decide) (hs : starEach [a] X.env = (false, eval a X.env) :: starEach [] X.env := by rfl) (hpl : (backTo pos (starEach [] X.env)).any (·.1) = false := by rfl) :
    AE X (.Call (.Name x p) [a] [] pos) ρ Φ :=
  .of (pe_callTy hc hg hm hv (pa_1 hs) hn hdb hs hpl) fun σ H Q ⟨F, ρτ, στ, hl, st, k⟩ => one_arg (G := fun s ρ1 => ∃ d, C s d ∧ Φ (.v d) ρ1) hl st h fun s ρ1 F1 H1 v ⟨d, hd, q⟩ e1 l1 s1 o =>
    hC F1 H1 _ _ v s d Q s1 o hd fun v' H2 F2 e2 up dv => k v' H2 F2 (.v d) ρ1 (e1.trans e2) l1 ⟨up _ _ s1, dv⟩ q
theorem newL {K : PySem.W.Frag} {F H : Hp} {ρ1 ρτ : List Sl} {σ στ : L2.St} {p : Addr} {vs : List V} {ds : List D} (s1 : StOk K F H (ρ1 ++ ρτ) (σ ++ στ)) (hp : H p = none) (hd : RpAll K F vs ds) : ROk K F (upd H p (.lst vs)) ρ1 ρτ σ στ (.ref p) (.c (.lst ds)) := by
  show StOk _ _ _ _ _
  rw [← List.append_assoc, ← List.append_assoc]
  exact s1.addCe hp fun F' e' => ⟨vs, upd_same, dpAll_mono e' _ _ hd⟩
theorem ae_b1L {id : String} {x : Str} {r : List V → Hp → VK → Prop} {C : Sl → List D → Prop} (hc : CallR X (.builtin id) r) (hC : C1Lk X r C) (hm : X.mg x = none) (hv : bootBuiltins x = some (.builtin id)) (h : AE X a ρ fun R ρ1 => ∃ ds, C (rsSl ρ1 R) ds ∧ Φ (.c (.lst ds)) ρ1)
    (hg : Gl X x := by rfl) (hn : x ≠ "__name__" := by decide) (hdb : (x == ("__debug__" : Str)) = false := by decide) (hs : starEach [a] X.env = (false, eval a X.env) :: starEach [] X.env := by rfl) (hpl : (backTo pos (starEach [] X.env)).any (·.1) = false := by rfl) :
    AE X (.Call (.Name x p) [a] [] pos) ρ Φ :=
  .of (pe_callB hc hg hm hv (pa_1 hs) hn hdb hs hpl) fun σ H Q ⟨F, ρτ, στ, hl, st, k⟩ => one_arg (G := fun s ρ1 => ∃ ds, C s ds ∧ Φ (.c (.lst ds)) ρ1) hl st h fun s ρ1 F1 H1 v ⟨d, hd, q⟩ e1 l1 s1 o =>
    hC F1 H1 _ _ v s d Q s1 o hd fun p vs hp dv => k _ _ F1 (.c (.lst d)) ρ1 e1 l1 (newL s1 hp dv) q
theorem ae_t1L {T : String} {x : Str} {r : List V → Hp → VK → Prop} {C : Sl → List D → Prop} (hc : CallR X (.type T) r) (hC : C1Lk X r C) (hm : X.mg x = none) (hv : bootBuiltins x = some (.type T)) (h : AE X a ρ fun R ρ1 => ∃ ds, C (rsSl ρ1 R) ds ∧ Φ (.c (.lst ds)) ρ1)
    (hg : Gl X x := by rfl) (hn : x ≠ "__name__" := by decide) (hdb : (x == ("__debug__" : Str)) = false := by decide) (hs : starEach [a] X.env = (false, eval a X.env) :: starEach [] X.env := by rfl) (hpl : (backTo pos (starEach [] X.env)).any (·.1) = false := by rfl) :
    AE X (.Call (.Name x p) [a] [] pos) ρ Φ :=
  .of (pe_callTy hc hg hm hv (pa_1 hs) hn hdb hs hpl) fun σ H Q ⟨F, ρτ, στ, hl, st, k⟩ => one_arg (G := fun s ρ1 => ∃ ds, C s ds ∧ Φ (.c (.lst ds)) ρ1) hl st h fun s ρ1 F1 H1 v ⟨d, hd, q⟩ e1 l1 s1 o =>
    hC F1 H1 _ _ v s d Q s1 o hd fun p vs hp dv => k _ _ F1 (.c (.lst d)) ρ1 e1 l1 (newL s1 hp dv) q
end
/-! ### which ones -/
section
variable {X : Cx}
inductive cLen (s : Sl) (d : D) : Prop
  | mk (ds : List D) : slSq s = some ds → d = .int ds.length → cLen s d
theorem ok_len : C1Ok X (fun xs H Q => ∃ p ys, xs = [.ref p] ∧ (SqL X.K H p ys ∨ SqT X.K H p ys) ∧ Q (.int ys.length) H) cLen := fun F H ρ σ v s d Q st o ⟨ds, e, ed⟩ k => by
  subst ed
  obtain ⟨a, vs, rfl, hs, ha⟩ := slSq_F st.sub o e
  refine ⟨a, vs, rfl, hs, ?_⟩
  rw [dpAll_len ha]
  exact k _ H F (Same.refl F) (fun _ _ q => q) (.int _)
inductive cInt1 (s : Sl) (d : D) : Prop
  | mk (i : Int) : s = .va (.int i) → d = .int i → cInt1 s d
theorem ok_int1 : C1Ok X (fun xs H Q => (∃ i, xs = [.int i] ∧ Q (.int i) H) ∨ ∃ k, xs = [.bl k] ∧ Q (.int (if k then 1 else 0)) H) cInt1 := fun F H ρ σ v s d Q st o ⟨i, e, ed⟩ k => by
  subst e; subst ed
  exact .inl ⟨i, by rw [dp_int o], k _ H F (Same.refl F) (fun _ _ q => q) (.int _)⟩
inductive cAbs (s : Sl) (d : D) : Prop
  | mk (i : Int) : s = .va (.int i) → d = .int (if i < 0 then -i else i) → cAbs s d
theorem ok_abs : C1Ok X (fun xs H Q => ∃ i, xs = [.int i] ∧ Q (.int (if i < 0 then -i else i)) H) cAbs := fun F H ρ σ v s d Q st o ⟨i, e, ed⟩ k => by
  subst e; subst ed
  exact ⟨i, by rw [dp_int o], k _ H F (Same.refl F) (fun _ _ q => q) (.int _)⟩
def cItems : Sl → List D → Prop := fun s ds => slInts s = some ds
theorem ok_listOf : C1Lk X (fun xs H Q => ∃ p ys, xs = [.ref p] ∧ (SqL X.K H p ys ∨ SqT X.K H p ys) ∧ ∀ l, H l = none → Q (.ref l) (upd H l (.lst ys))) cItems := fun F H ρ σ v s ds Q st o e k => by
  obtain ⟨a, vs, rfl, hs, ha⟩ := slInts_F st.sub o e
  exact ⟨a, vs, rfl, sq_or hs, fun l hl => k l vs hl ha⟩
inductive cTup (s : Sl) (d : D) : Prop
  | mk (ds : List D) : slInts s = some ds → d = .tuple ds → cTup s d
theorem ok_tupOf : C1Ok X (fun xs H Q => ∃ p ys, xs = [.ref p] ∧ ((SqL X.K H p ys ∧ ∀ l, H l = none → Q (.ref l) (upd H l (.tup ys))) ∨ (SqT X.K H p ys ∧ Q (.ref p) H))) cTup := fun F H ρ σ v s d Q st o ⟨ds, e, ed⟩ k => by
  subst ed
  by_cases ht : s = .va (.tuple ds)
  · subst ht
    have o' : Rp X.K F v (.tuple ds) := o
    cases o' with
    | tup hs ha => exact ⟨_, _, rfl, .inr ⟨SqT.of (st.sub _ _ hs), k _ H F (Same.refl F) (fun _ _ q => q) (.tup hs ha)⟩⟩
  · have hL : ∃ a vs, v = .ref a ∧ SqL X.K H a vs ∧ RpAll X.K F vs ds := by
      obtain ⟨a, vs, rfl, hs, ha⟩ := slInts_F st.sub o e
      rcases hs with hs | hs
      · exact ⟨a, vs, rfl, hs, ha⟩
      · unfold slInts at e
        split at e
        · cases e
          have o' : Rp X.K F (.ref a) (.list ds) := o
          cases o' with
          | lst hs' ha' => exact ⟨_, _, rfl, SqL.of (st.sub _ _ hs'), ha'⟩
        · cases e
          have o' : Rp X.K F (.ref a) (.dict [(.list ds, .none)]) := o
          cases o' with
          | lok hs' ha' => exact ⟨_, _, rfl, st.sub.seq hs', ha'⟩
        · cases e; exact absurd rfl ht
        · cases e
          obtain ⟨a', ea, _, vs', h1, h2⟩ := o
          cases ea
          exact ⟨_, _, rfl, SqL.of h1, h2⟩
        · cases e
    obtain ⟨a, vs, rfl, hs, ha⟩ := hL
    refine ⟨a, vs, rfl, .inl ⟨hs, fun l hl => ?_⟩⟩
    have eF : Same F (upd F l (.tup vs)) := same_new (st.sub.free hl)
    exact k _ _ _ eF (fun _ _ q => q.grow hl _) (.tup upd_same (dpAll_mono eF _ _ ha))
theorem dpAll_bools {K : PySem.W.Frag} {F : Hp} : ∀ {vs : List V} {bs : List Bool}, RpAll K F vs (bs.map PyData.bool) → vs = bs.map V.bl
  | _, [], h => by cases h; rfl
  | _, b :: bs, h => by
    cases h with
    | cons h1 h2 => cases h1; rw [dpAll_bools h2]; rfl
inductive cAll (s : Sl) (d : D) : Prop
  | mk (bs : List Bool) : slLst s = some (bs.map PyData.bool) → d = .bool (bs.all id) → cAll s d
inductive cAny (s : Sl) (d : D) : Prop
  | mk (bs : List Bool) : slLst s = some (bs.map PyData.bool) → d = .bool (bs.any id) → cAny s d
theorem ok_all : C1Ok X (rAll X.K) cAll := fun F H ρ σ v s d Q st o ⟨bs, e, ed⟩ k => by
  subst ed
  obtain ⟨a, vs, rfl, hs, ha⟩ := slLst_F st.sub o e
  obtain rfl := dpAll_bools ha
  exact ⟨a, bs, rfl, SqL.of hs, k _ H F (Same.refl F) (fun _ _ q => q) (.bl _)⟩
theorem ok_any : C1Ok X (rAny X.K) cAny := fun F H ρ σ v s d Q st o ⟨bs, e, ed⟩ k => by
  subst ed
  obtain ⟨a, vs, rfl, hs, ha⟩ := slLst_F st.sub o e
  obtain rfl := dpAll_bools ha
  exact ⟨a, bs, rfl, SqL.of hs, k _ H F (Same.refl F) (fun _ _ q => q) (.bl _)⟩
inductive cSum (s : Sl) (d : D) : Prop
  | mk (ns : List Int) : slLst s = some (ns.map PyData.int) → d = .int ns.sum → cSum s d
theorem ok_sum : C1Ok X (rSum X.K) cSum := fun F H ρ σ v s d Q st o ⟨ns, e, ed⟩ k => by
  subst ed
  obtain ⟨a, vs, rfl, hs, ha⟩ := slLst_F st.sub o e
  obtain rfl := dpAll_ints ha
  exact ⟨a, ns, rfl, SqL.of hs, k _ H F (Same.refl F) (fun _ _ q => q) (.int _)⟩
/-- an item -/
inductive cIx (s1 : Sl) (s2 : Sl) (d : D) : Prop
  | mk (ds : List D) (n : Int) : slSq s1 = some ds → s2 = .va (.int n) → atI ds n = some d → cIx s1 s2 d
theorem dpAll_atI {K : PySem.W.Frag} {F : Hp} {vs : List V} {ds : List D} {n : Int} {d : D} (h : RpAll K F vs ds) (e : atI ds n = some d) : ∃ v, atI vs n = some v ∧ Rp K F v d := by
  unfold atI at e ⊢
  rw [dpAll_len h]
  cases q : ixN ds.length n with
  | none => rw [q] at e; cases e
  | some j =>
    rw [q] at e
    exact dpAll_get h e
theorem ok_ix : OpOk X (rIx X.K) cIx := fun F H ρ σ v1 v2 s1 s2 d Q st o1 o2 ⟨ds, n, e1, e2, ed⟩ k => by
  subst e2
  obtain rfl := dp_int o2
  obtain ⟨a, vs, rfl, hs, ha⟩ := slSq_F st.sub o1 e1
  obtain ⟨v, hv, dv⟩ := dpAll_atI ha ed
  have q := k v H F (Same.refl F) (fun _ _ q => q) dv
  rcases hs with hs | hs
  · exact .inl ⟨a, vs, n, v, rfl, rfl, hs, hv, q⟩
  · exact .inr (.inl ⟨a, vs, n, v, rfl, rfl, hs, hv, q⟩)
end
section
variable {X : Cx} {e a b c : Expr} {es : List Expr} {ρ : List Sl} {Φ : Rs → List Sl → Prop} {pos p : Pos}
theorem ae_ix (h : AE X a ρ fun R1 ρ1 => AE X b ρ1 fun R2 ρ2 => ∃ d, cIx (rsSl ρ2 R1) (rsSl ρ2 R2) d ∧ Φ (.v d) ρ2) (hs : PlainIx b := by exact fun _ _ => rfl) : AE X (.Subscript a b pos) ρ Φ :=
  .of (pe_ix ix_seq pe_any pe_any hs) fun σ H Q ⟨F, ρτ, στ, hl, st, k⟩ => two (Ga := fun s1 s2 ρ2 => ∃ d, cIx s1 s2 d ∧ Φ (.v d) ρ2) hl st h fun s1 s2 ρ2 F2 H2 v1 v2 ⟨d, hd, q⟩ e l t o1 o2 =>
    ok_ix F2 H2 _ _ v1 v2 s1 s2 d Q t o1 o2 hd fun v H3 F3 e3 up dv => k v H3 F3 (.v d) ρ2 (e.trans e3) l ⟨up _ _ t, dv⟩ q
end
end Ab
namespace Ab
open PySem PySem.Spec PyProof.Rows L2

section
variable {X : Cx} {e a b c : Expr} {es : List Expr} {ρ : List Sl} {Φ : Rs → List Sl → Prop} {pos p : Pos}
/-! ### slices -/
structure APo (X : Cx) (e : Option Expr) (ρ : List Sl) (Φ : Option Int → List Sl → Prop) : Prop where
  po : PO X e fun σ H Q => ∃ (F : Hp) (ρτ : List Sl) (στ : L2.St), ρ.length = σ.length ∧ StOk X.K F H (ρ ++ ρτ) (σ ++ στ) ∧
    ∀ (o : Option Int) (H' F' : Hp) (ρ' : List Sl), Same F F' → ρ'.length = σ.length → StOk X.K F' H' (ρ' ++ ρτ) (σ ++ στ) → Φ o ρ' → Q o H'
def AnyPo (X : Cx) (e : Option Expr) : TO := fun σ H Q => ∃ (ρ : List Sl) (Φ : Option Int → List Sl → Prop), APo X e ρ Φ ∧ ∃ (F : Hp) (ρτ : List Sl) (στ : L2.St), ρ.length = σ.length ∧ StOk X.K F H (ρ ++ ρτ) (σ ++ στ) ∧
    ∀ (o : Option Int) (H' F' : Hp) (ρ' : List Sl), Same F F' → ρ'.length = σ.length → StOk X.K F' H' (ρ' ++ ρτ) (σ ++ στ) → Φ o ρ' → Q o H'
theorem po_any {e : Option Expr} : PO X e (AnyPo X e) := ⟨fun pins s σ H Q I ⟨_, _, h, t⟩ => h.po.run pins s σ H Q I t⟩
theorem apo_none {Φ : Option Int → List Sl → Prop} (h : Φ none ρ) : APo X none ρ Φ :=
  ⟨⟨fun pins s σ H Q I ⟨F, ρτ, στ, hl, st, k⟩ => po_none.run pins s σ H Q I (k none H F ρ (Same.refl F) hl st h)⟩⟩
theorem apo_some {Φ : Option Int → List Sl → Prop} (h : AE X e ρ fun R ρ1 => ∃ i, rsSl ρ1 R = .va (.int i) ∧ Φ (some i) ρ1) : APo X (some e) ρ Φ := by
  refine ⟨⟨fun pins s σ H Q I ⟨F, ρτ, στ, hl, st, k⟩ => (po_some h.pe).run pins s σ H Q I ?_⟩⟩
  refine ⟨F, ρτ, στ, hl, st, fun v H1 F1 R ρ1 e1 l1 ro ⟨i, hR, q⟩ => ?_⟩
  have o := ro.slOk l1
  rw [hR] at o
  exact ⟨i, dp_int o, k (some i) H1 F1 ρ1 e1 l1 (ro.st l1) q⟩
/-- what a slice takes -/
def cutD (ds : List D) (lo hi : Option Int) : List D := (ds.drop (HT.sIx ds.length 0 lo)).take (HT.sIx ds.length ds.length hi - HT.sIx ds.length 0 lo)
theorem dpAll_cut {K : PySem.W.Frag} {F : Hp} {vs : List V} {ds : List D} (h : RpAll K F vs ds) (lo hi : Option Int) : RpAll K F (cutV vs lo hi) (cutD ds lo hi) := by
  unfold cutV cutD
  rw [dpAll_len h]
  exact dpAll_take _ (dpAll_drop _ h)
theorem cutD_whole {ds : List D} {lo hi : Option Int} (h : HT.sIx ds.length 0 lo = 0 ∧ HT.sIx ds.length ds.length hi = ds.length) : cutD ds lo hi = ds := by
  unfold cutD
  rw [h.1, h.2, Nat.sub_zero, List.drop_zero, List.take_length]
/-- a slice by its parts: list or tuple -/
theorem ae_slice {lo hi : Option Expr} {p2 : Pos} (h : AE X e ρ fun R ρ1 => APo X lo ρ1 fun l ρ2 => APo X hi ρ2 fun u ρ3 =>
      (∃ ds, slLst (rsSl ρ3 R) = some ds ∧ Φ (.c (.lst (cutD ds l u))) ρ3)) : AE X (.Subscript e (.Slice lo hi none p2) pos) ρ Φ := by
  refine .of (pe_slice sl_list h.pe po_any po_any) fun σ H Q ⟨F, ρτ, στ, hl, s, k⟩ => ?_
  refine ⟨F, ρτ, στ, hl, s, fun v H1 F1 R ρ1 e1 l1 r1 q => ?_⟩
  have fin : ∀ {F3 H3 : Hp} {ρ3 : List Sl} {l u : Option Int}, Same F F3 → ρ3.length = σ.length → StOk X.K F3 H3 (ρ3 ++ ρτ) (σ ++ στ) → SlOk X.K F3 H3 v (rsSl ρ3 R) → (∃ ds, slLst (rsSl ρ3 R) = some ds ∧ Φ (.c (.lst (cutD ds l u))) ρ3) → rSlL X.K v l u H3 Q := by
    intro F3 H3 ρ3 l u e3 l3 s3 o ⟨ds, hd, q⟩
    obtain ⟨a, vs, rfl, hs, ha⟩ := slLst_F s3.sub o hd
    exact ⟨a, vs, rfl, SqL.of hs, fun p hp => k _ _ F3 (.c (.lst (cutD ds l u))) ρ3 e3 l3 (newL s3 hp (dpAll_cut ha l u)) q⟩
  cases R with
  | v d =>
    refine ⟨ρ1, _, q, F1, ρτ, στ, l1, r1.1, fun l H2 F2 ρ2 e2 l2 s2 q2 => ?_⟩
    refine ⟨ρ2, _, q2, F2, ρτ, στ, l2, s2, fun u H3 F3 ρ3 e3 l3 s3 q3 => ?_⟩
    exact fin ((e1.trans e2).trans e3) l3 s3 (dp_mono (e2.trans e3) _ _ r1.2) q3
  | c c =>
    have r1 : StOk X.K F1 H1 (ρ1 ++ (ρτ ++ [.ce c])) (σ ++ (στ ++ [some v])) := r1
    refine ⟨ρ1, _, q, F1, ρτ ++ [.ce c], στ ++ [some v], l1, r1, fun l H2 F2 ρ2 e2 l2 s2 q2 => ?_⟩
    refine ⟨ρ2, _, q2, F2, ρτ ++ [.ce c], στ ++ [some v], l2, s2, fun u H3 F3 ρ3 e3 l3 s3 q3 => ?_⟩
    exact fin ((e1.trans e2).trans e3) l3 (s3.drop l3) s3.last q3
  | al i =>
    refine ⟨ρ1, _, q, F1, ρτ, στ, l1, r1.1, fun l H2 F2 ρ2 e2 l2 s2 q2 => ?_⟩
    refine ⟨ρ2, _, q2, F2, ρτ, στ, l2, s2, fun u H3 F3 ρ3 e3 l3 s3 q3 => ?_⟩
    exact fin ((e1.trans e2).trans e3) l3 s3 ((s3.left l3).slot (by have := r1.2.1; omega) r1.2.2) q3
theorem ae_sliceT {lo hi : Option Expr} {p2 : Pos} (h : AE X e ρ fun R ρ1 => ∃ ds, rsSl ρ1 R = .va (.tuple ds) ∧ APo X lo ρ1 fun l ρ2 => APo X hi ρ2 fun u ρ3 => Φ (.v (.tuple (cutD ds l u))) ρ3) : AE X (.Subscript e (.Slice lo hi none p2) pos) ρ Φ := by
  refine .of (pe_slice sl_tupA h.pe po_any po_any) fun σ H Q ⟨F, ρτ, στ, hl, s, k⟩ => ?_
  refine ⟨F, ρτ, στ, hl, s, fun v H1 F1 R ρ1 e1 l1 r1 ⟨ds, hR, q⟩ => ?_⟩
  have o := r1.slOk l1
  rw [hR] at o
  have o : Rp X.K F1 v (.tuple ds) := o
  refine ⟨ρ1, _, q, F1, ρτ, στ, l1, r1.st l1, fun l H2 F2 ρ2 e2 l2 s2 q2 => ?_⟩
  refine ⟨ρ2, _, q2, F2, ρτ, στ, l2, s2, fun u H3 F3 ρ3 e3 l3 s3 q3 => ?_⟩
  cases o with
  | tup hs ha =>
    rename_i a vs
    have hs3 : F3 a = some (.tup vs) := e3 _ _ (e2 _ _ hs)
    have ha3 := dpAll_mono (e2.trans e3) _ _ ha
    have e := (e1.trans e2).trans e3
    refine ⟨a, vs, rfl, SqT.of (s3.sub _ _ hs3), fun hw => ?_, fun _ p hp => ?_⟩
    · rw [dpAll_len ha] at hw
      refine k _ H3 F3 (.v (.tuple (cutD ds l u))) ρ3 e l3 ⟨s3, ?_⟩ q3
      rw [cutD_whole hw]
      exact .tup hs3 ha3
    · have eF : Same F3 (upd F3 p (.tup (cutV vs l u))) := same_new (s3.sub.free hp)
      exact k _ _ _ (.v (.tuple (cutD ds l u))) ρ3 (e.trans eF) l3 ⟨s3.grow hp _, .tup upd_same (dpAll_mono eF _ _ (dpAll_cut ha3 l u))⟩ q3

/-! ### a list of one's own changes -/
/-- slot i holds a list, at a -/
theorem StOk.lstAt {K : PySem.W.Frag} {F H : Hp} {ρ ρτ : List Sl} {σ στ : L2.St} {i : Nat} {ds : List D} {v : V} (s : StOk K F H (ρ ++ ρτ) (σ ++ στ)) (hl : ρ.length = σ.length) (hi : ρ[i]? = some (.ce (.lst ds))) (hv : σ[i]? = some (some v)) :
    ∃ a vs, v = .ref a ∧ H a = some (.lst vs) ∧ RpAll K F vs ds ∧ ∀ (ds' : List D) (vs' : List V), RpAll K F vs' ds' → StOk K F (upd H a (.lst vs')) (ρ.set i (.ce (.lst ds')) ++ ρτ) (σ ++ στ) := by
  have hil : i < ρ.length := (List.getElem?_eq_some_iff.mp hi).1
  have hi2 : (ρ ++ ρτ)[i]? = some (.ce (.lst ds)) := (get_left hil).trans hi
  have hv2 : (σ ++ στ)[i]? = some (some v) := (get_left (by omega)).trans hv
  obtain ⟨a, g1, g2, vs, g3, g4⟩ := s.ce i _ hi2
  rw [hv2] at g1
  cases g1
  refine ⟨a, vs, rfl, g3, g4, fun ds' vs' h => ?_⟩
  have := s.setCe (o := .lst vs') (c' := .lst ds') hi2 hv2 ⟨vs', upd_same, h⟩
  rwa [app_set_left hil] at this
theorem ae_append (i : Nat) {x : Str} {p1 apos : Pos} (h : AE X e ρ fun R ρ1 => ∃ ds d ρ1' ρ2, Fz ρ1 R (.d d) ρ1' ∧ ρ1'[i]? = some (.ce (.lst ds)) ∧ ds.length < 1000000 ∧ SetAt ρ1' i (.ce (.lst (ds ++ [d]))) ρ2 ∧ Φ (.v .none) ρ2)
    (ds0 : List D) (h0 : ρ[i]? = some (.ce (.lst ds0)) := by rfl) (hN : X.N[i]? = some x := by rfl) (hv : Vis X.env.scope x := by first | exact Or.inl rfl | exact Or.inr (Or.inl rfl) | exact Or.inr (Or.inr rfl))
    (hd : (x == ("__debug__" : Str)) = false := by decide) (hcd : (x == ("__classdict__" : Str)) = false := by decide)
    (hbase : attributeBase (.Name x p1) "append" X.env (eval (.Name x p1) X.env) = eval (.Name x p1) X.env := by rfl)
    (hfew : ((backTo pos (starEach [e] X.env)).all (fun x => !x.1) && (backToKw pos (keywordEach [] X.env)).all (fun x => x.1.isSome)
      && decide ([e].length + ([] : List Keyword).length + (if ([] : List Keyword).isEmpty then 0 else 1) < 30)) = true := by rfl)
    (hline : (apos.endLine == pos.line) = true := by rfl) (hs : starEach [e] X.env = (false, eval e X.env) :: starEach [] X.env := by rfl) (hplain : (backTo pos (starEach [] X.env)).any (·.1) = false := by rfl) :
    AE X (.Call (.Attribute (.Name x p1) "append" apos) [e] [] pos) ρ Φ := by
  refine .of (pe_bm PySem.F.plainAttrs_list PySem.F.slot_list_append PySem.F.type_list_append mt_append (pe_var hN hv hd hcd) (pa_1 hs) hbase hfew hline hs hplain) fun σ H Q ⟨F, ρτ, στ, hl, s, k⟩ => ?_
  have hil : i < ρ.length := (List.getElem?_eq_some_iff.mp h0).1
  obtain ⟨a0, g1, _⟩ := (s.left hl).ce i _ h0
  obtain ⟨a, vs0, ea, g3, _⟩ := s.lstAt hl h0 g1
  cases ea
  refine ⟨.ref a0, g1, .inl ⟨rfl, vs0, SqL.of g3⟩, ρ, _, h, F, ρτ, στ, hl, s, fun v H1 F1 R ρ1 e1 l1 ro ⟨ds, d, ρ1', ρ2, fz, hi, hz, st, q⟩ => ?_⟩
  obtain ⟨F2, e2, l2, s2, dv⟩ := fz.ok ro l1
  have dv : Rp X.K F2 v d := dv
  obtain ⟨a', vs, ea, hH, ha, upd'⟩ := s2.lstAt l2 hi g1
  cases ea
  refine ⟨a0, vs, v, rfl, rfl, hH, by rw [dpAll_len ha, sizeLine_eq]; omega, ?_⟩
  have s3 := upd' (ds ++ [d]) (vs ++ [v]) (dpAll_app ha (.cons dv .nil))
  rw [← st.eq.1] at s3
  exact k _ _ F2 (.v .none) ρ2 (e1.trans e2) (st.len.trans l2) ⟨s3, .non⟩ q
theorem dpAll_erase {K : PySem.W.Frag} {F : Hp} : ∀ {vs : List V} {ds : List PyData} (n : Nat), RpAll K F vs ds → RpAll K F (vs.eraseIdx n) (ds.eraseIdx n)
  | _, [], n, h => by cases h; simp; exact .nil
  | _, d :: ds, 0, h => by
    cases h with
    | cons h1 h2 => exact h2
  | _, d :: ds, n + 1, h => by
    cases h with
    | cons h1 h2 => exact .cons h1 (dpAll_erase n h2)
theorem ae_popAt (i : Nat) {x : Str} {p1 apos : Pos} (h : AE X e ρ fun R ρ1 => ∃ ds n j d ρ2, rsSl ρ1 R = .va (.int n) ∧ ρ1[i]? = some (.ce (.lst ds)) ∧ (-(2 ^ 63) ≤ n ∧ n < 2 ^ 63) ∧ seqIndex? n ds.length = some j ∧ ds[j]? = some d ∧ SetAt ρ1 i (.ce (.lst (ds.eraseIdx j))) ρ2 ∧ Φ (.v d) ρ2)
    (ds0 : List D) (h0 : ρ[i]? = some (.ce (.lst ds0)) := by rfl) (hN : X.N[i]? = some x := by rfl) (hv : Vis X.env.scope x := by first | exact Or.inl rfl | exact Or.inr (Or.inl rfl) | exact Or.inr (Or.inr rfl))
    (hd : (x == ("__debug__" : Str)) = false := by decide) (hcd : (x == ("__classdict__" : Str)) = false := by decide)
    (hbase : attributeBase (.Name x p1) "pop" X.env (eval (.Name x p1) X.env) = eval (.Name x p1) X.env := by rfl)
    (hfew : ((backTo pos (starEach [e] X.env)).all (fun x => !x.1) && (backToKw pos (keywordEach [] X.env)).all (fun x => x.1.isSome)
      && decide ([e].length + ([] : List Keyword).length + (if ([] : List Keyword).isEmpty then 0 else 1) < 30)) = true := by rfl)
    (hline : (apos.endLine == pos.line) = true := by rfl) (hs : starEach [e] X.env = (false, eval e X.env) :: starEach [] X.env := by rfl) (hplain : (backTo pos (starEach [] X.env)).any (·.1) = false := by rfl) :
    AE X (.Call (.Attribute (.Name x p1) "pop" apos) [e] [] pos) ρ Φ := by
  refine .of (pe_bm PySem.F.plainAttrs_list PySem.F.slot_list_pop PySem.F.type_list_pop mt_popAt (pe_var hN hv hd hcd) (pa_1 hs) hbase hfew hline hs hplain) fun σ H Q ⟨F, ρτ, στ, hl, s, k⟩ => ?_
  obtain ⟨a0, g1, _⟩ := (s.left hl).ce i _ h0
  obtain ⟨a, vs0, ea, g3, _⟩ := s.lstAt hl h0 g1
  cases ea
  refine ⟨.ref a0, g1, .inl ⟨rfl, vs0, SqL.of g3⟩, ρ, _, h, F, ρτ, στ, hl, s, fun v H1 F1 R ρ1 e1 l1 ro ⟨ds, n, j, d, ρ2, hR, hi, ⟨b1, b2⟩, hj, hd, st, q⟩ => ?_⟩
  have o := ro.slOk l1
  rw [hR] at o
  obtain rfl := dp_int o
  obtain ⟨a', vs, ea, hH, ha, upd'⟩ := (ro.st l1).lstAt l1 hi g1
  cases ea
  obtain ⟨y, hy, dv⟩ := dpAll_get ha hd
  refine ⟨a0, vs, n, j, y, rfl, rfl, hH, b1, b2, by rw [dpAll_len ha]; exact hj, hy, ?_⟩
  have s3 := upd' (ds.eraseIdx j) (vs.eraseIdx j) (dpAll_erase j ha)
  rw [← st.eq.1] at s3
  exact k _ _ F1 (.v d) ρ2 e1 (st.len.trans l1) ⟨s3, dv⟩ q
end
section
variable {X : Cx} {κ : Nat → Bool} {e a b : Expr} {ρ : List Sl} {k : Ks} {pos p : Pos}
/-- x[e1] = e2, x a list of one's own -/
theorem as_setItem (i : Nat) {x : Str} {p1 pos' : Pos} (h : AE X b ρ fun R ρ1 => ∃ d ρ1', Fz ρ1 R (.d d) ρ1' ∧ live (ρ1'.getD i .no) = true ∧ AE X a ρ1' fun R2 ρ2 => ∃ ds n j ρ3, rsSl ρ2 R2 = .va (.int n) ∧ ρ2[i]? = some (.ce (.lst ds)) ∧ ixN ds.length n = some j ∧ SetAt ρ2 i (.ce (.lst (ds.set j d))) ρ3 ∧ k.nx ρ3)
    (hN : X.N[i]? = some x := by rfl) (hv : Vis X.env.scope x := by first | exact Or.inl rfl | exact Or.inr (Or.inl rfl) | exact Or.inr (Or.inr rfl))
    (hd : (x == ("__debug__" : Str)) = false := by decide) (hcd : (x == ("__classdict__" : Str)) = false := by decide)
    (hs : swapsWithSole [.Subscript (.Name x p1) a pos'] b pos.line X.env = pure false := by rfl) (hw : swappedStores [.Subscript (.Name x p1) a pos'] b X.env = pure none := by rfl)
    (h1 : (assignEach [.Subscript (.Name x p1) a pos'] X.env).map (·.2) = [assign (.Subscript (.Name x p1) a pos') X.env] := by rfl)
    (ha : ∀ v, assign (.Subscript (.Name x p1) a pos') X.env v = (do
      let ov ← holding [v] (eval (.Name x p1) X.env)
      let iv ← holding [v, ov] (eval a X.env)
      standAt pos'
      holding [v, ov, iv] (setItem ov iv v)
      release [v, ov, iv] []) := by intro _; rfl) : AS X κ (.Assign [.Subscript (.Name x p1) a pos'] b pos) ρ k := by
  refine .of (ps_asg h.pe (pg_sub (pe_var hN hv hd hcd) (pe_any (e := a)) set_list ha) hs hw h1) fun D σ H ⟨F, ρτ, στ, hl, s, n, r, bk, ct⟩ => ?_
  refine ⟨F, ρτ, στ, hl, s, fun v H1 F1 R ρ1 e1 l1 ro ⟨d, ρ1', fz, hli, q⟩ => ?_⟩
  obtain ⟨F2, e2, l2, s2, dv⟩ := fz.ok ro l1
  have dv : Rp X.K F2 v d := dv
  obtain ⟨hil, ov, hov⟩ := (s2.left l2).val hli
  refine ⟨ov, hov, ρ1', _, q, F2, ρτ, στ, l2, s2, fun v2 H3 F3 R2 ρ2 e3 l3 ro3 ⟨ds, m, j, ρ3, hR, hi, hj, st, q3⟩ => ?_⟩
  have o := ro3.slOk l3
  rw [hR] at o
  obtain rfl := dp_int o
  obtain ⟨a', vs, ea, hH, ha, upd'⟩ := (ro3.st l3).lstAt l3 hi hov
  subst ea
  refine ⟨a', vs, m, j, rfl, rfl, hH, by rw [dpAll_len ha]; exact hj, ?_⟩
  have s3 := upd' (ds.set j d) (vs.set j v) (dpAll_set (dp_mono e3 _ _ dv) j ha)
  rw [← st.eq.1] at s3
  exact n σ _ F3 ρ3 ((e1.trans e2).trans e3) rfl (st.len.trans l3) (Kept.refl _ _) s3 q3
/-- a box is opened, closed -/
theorem as_open {sts : List Stmt} (i : Nat) (hi : ρ[i]? = some (.ce .box)) (h : ∀ g m : Int, 0 ≤ g → 1 ≤ m → m < 4294967296 → ∃ ρ', SetAt ρ i (.ce (.lst [.int g, .int m])) ρ' ∧ ASs X κ sts ρ' k) : ASs X κ sts ρ k := by
  refine .of (t := AnyS X κ sts) (pss_any (κ := κ)) fun D σ H ⟨F, ρτ, στ, hl, s, rest⟩ => ?_
  have hil : i < ρ.length := (List.getElem?_eq_some_iff.mp hi).1
  have hi2 : (ρ ++ ρτ)[i]? = some (.ce .box) := (get_left hil).trans hi
  obtain ⟨a, g1, g2, g, m, g3, b1, b2, b3⟩ := s.ce i _ hi2
  obtain ⟨ρ', st, q⟩ := h g m b1 b2 b3
  refine ⟨ρ', k, q, F, ρτ, στ, st.len.trans hl, ?_, rest⟩
  have e0 : upd H a (.lst [V.int g, V.int m]) = H := by
    funext x
    by_cases hx : x = a
    · subst hx; rw [upd_same, g3]
    · rw [upd_ne hx]
  have := s.setCe (o := .lst [V.int g, V.int m]) (c' := .lst [.int g, .int m]) hi2 g1 ⟨_, upd_same, ints_dpAll [g, m]⟩
  rw [e0, app_set_left hil, ← st.eq.1] at this
  exact this
theorem as_close {sts : List Stmt} (i : Nat) {g m : Int} (hi : ρ[i]? = some (.ce (.lst [.int g, .int m]))) (b1 : 0 ≤ g) (b2 : 1 ≤ m) (b3 : m < 4294967296) {ρ' : List Sl} (st : SetAt ρ i (.ce .box) ρ') (h : ASs X κ sts ρ' k) : ASs X κ sts ρ k := by
  refine .of (t := AnyS X κ sts) (pss_any (κ := κ)) fun D σ H ⟨F, ρτ, στ, hl, s, rest⟩ => ?_
  have hil : i < ρ.length := (List.getElem?_eq_some_iff.mp hi).1
  have hi2 : (ρ ++ ρτ)[i]? = some (.ce (.lst [.int g, .int m])) := (get_left hil).trans hi
  obtain ⟨a, g1, g2, vs, g3, g4⟩ := s.ce i _ hi2
  obtain rfl : vs = [V.int g, V.int m] := dpAll_ints (ns := [g, m]) g4
  refine ⟨ρ', k, h, F, ρτ, στ, st.len.trans hl, ?_, rest⟩
  have e0 : upd H a (.lst [V.int g, V.int m]) = H := by
    funext x
    by_cases hx : x = a
    · subst hx; rw [upd_same, g3]
    · rw [upd_ne hx]
  have := s.setCe (o := .lst [V.int g, V.int m]) (c' := .box) hi2 g1 ⟨g, m, upd_same, b1, b2, b3⟩
  rw [e0, app_set_left hil, ← st.eq.1] at this
  exact this
end
end Ab
namespace Ab
open PySem PySem.Spec PyProof.Rows L2

/-! ### {k: v for ..}, the keys tuples -/
/-- one entry comes to a dict with tuple keys, within a comprehension -/
theorem put_entry {X : Cx} {pins : List (Addr × Obj)} {τ : L2.St} {G : Hp} {s : Shared} {E : Value → Shared → Prop} {B b : Addr} {ms : List (List Key × V)} {k : List Key} {y : V} {r : Value} {Q : Unit → Shared → Prop} (ru : X.A.units + 100 < cLine)
    (J : Inv X pins τ G s) (hB : G B = some (.dT ms)) (hb : G b = some (.tup (k.map kV))) (few : ms.length < sizeLine) (ry : RelV y r) (fin : ∀ s', Inv X pins τ (upd G B (.dT (putK ms k y))) s' → Q () s') :
    wpAny (model X.prog X.w) X.A (dictSet B (.ref b) r) Q E s := by
  obtain ⟨z1, z2, xs, rel, dd⟩ := dt_of J.hok hB
  have z3 : xs.length ≤ sizeLine := (Paired.length rel) ▸ z1
  have z4 := length_putK ms k y
  refine wpAny_dictSet_heap (hsz := z3) (show X.A.units < cLine by omega) (key_of J.hok hb) dd fun g dd' only => fin _ ?_
  obtain ⟨ob, es, ep, q1, q2, q3, q4, _, q5⟩ := dd'
  refine d_write J (hB ▸ True.intro) only ⟨ob, q1⟩ ⟨by omega, z2, _, (rel.put k hb ry).keeps fun c ys ec => ?_, ob, es, ep, q1, q2, q3, q4, q5⟩
  exact (upd_ne (ne_of ec hB (fun z => nomatch z))).trans ec
section
variable {X : Cx}
/-- D the new dict; between two turns W -/
def tDcT (wi : TI) (g : TG) (tt : TT) (tk tv : TE) (vs : List Nat) : TE := fun σ H Q => wi σ H fun J H1 => ∀ B, H1 B = none → ∃ W : Nat → Nat → Hp → Prop, (∃ m, W 0 m (upd H1 B (.dT []))) ∧ ∀ i m H, W i m H →
  (J.stop i H ∧ Q (.ref B) H) ∨ (J.go i H ∧ ∃ N : Hp → Prop, (∀ H', N H' → ∃ m', m' < m ∧ W (i + 1) m' H') ∧ ∀ x H', J.yld i H x H' → g x (wipe σ vs) H' fun σ2 H2 => wipe σ2 vs = wipe σ vs ∧ tt σ2 H2 fun c H3 =>
    if c = true then tk σ2 H3 fun y H4 => tv σ2 H4 fun z H5 => ∃ ms k b, y = .ref b ∧ H5 b = some (.tup (k.map kV)) ∧ H5 B = some (.dT ms) ∧ ms.length < sizeLine ∧ N (upd H5 B (.dT (putK ms k z))) else N H3)
theorem dcT_run {pins : List (Addr × Obj)} {s : Shared} {σ : L2.St} {H : Hp} {Q : VK} {kx vx tg iter : Expr} {ifs : List Expr} {sc : Scope} {own : List (Str × Nat)} {pos fpos : Pos} {wi : TI} {g : TG} {tt : TT} {tk tv : TE} (xo : XOk X) (I : Inv X pins σ H s) (hi : PI X tg iter wi) (ok : BlkOk X.N X.env.scope sc own)
    (hg : ∀ (s : Shared) (H : Hp) (C : Addr) (cl : List (Str × Addr)) (fp : List Addr), PG (Cx.blk' X sc s H C cl fp) tg g) (ht : ∀ (s : Shared) (H : Hp) (C : Addr) (cl : List (Str × Addr)) (fp : List Addr), PTs (Cx.blk' X sc s H C cl fp) ifs tt)
    (hk : ∀ (s : Shared) (H : Hp) (C : Addr) (cl : List (Str × Addr)) (fp : List Addr), PE (Cx.blk' X sc s H C cl fp) kx tk) (he : ∀ (s : Shared) (H : Hp) (C : Addr) (cl : List (Str × Addr)) (fp : List Addr), PE (Cx.blk' X sc s H C cl fp) vx tv)
    (hs : ∀ x, foldedSetIterable iter X.env x = pure x) (h : tDcT wi g tt tk tv (own.map (·.2)) σ H Q) :
    wpAny (model X.prog X.w) X.A (comprehension (.DictComp kx vx [⟨tg, iter, ifs, 0⟩] sc pos) sc X.env fpos newDict false (eval iter X.env) none) (EP X pins σ Q) X.xe s := by
  have cap : ∀ y ∈ sc.names, y.2 = .free → ∃ c, X.env.cells.lookup y.1 = some c := fun y hy e => (ok.free y hy e).elim (fun q => I.ok.has _ (.inl q)) fun q => I.ok.has _ (.inr q)
  refine wpAny_comprehension_free (use := none) rfl hs (closure_ok cap) ok.kind (fun y hy e => (ok.uniq y hy).trans (congrArg some e)) (thn (hi.run pins s σ H _ I h) fun itv0 t1 g1 => thn g1 fun itv t2 g2 => ?_)
  obtain ⟨it, fp, tn, J, H2, eit, I2, T, tn0, ff, word⟩ := g2
  subst eit
  refine wpAny_newObj_type (newEnv_comp ?_)
  generalize eB : t2.heap.objs.size = B
  have freeB : H2 B = none := I2.hok.fresh (by omega)
  obtain ⟨W, ⟨m0, w0⟩, turn⟩ := word B freeB
  -- the dict is laid
  generalize e3 : ({ t2 with heap := t2.heap.push { cls := .type "dict", data := .dict #[] } } : Shared) = t3
  have h3 : t3.heap = t2.heap.push { cls := .type "dict", data := .dict #[] } := e3 ▸ rfl
  have I3 : Inv X pins σ (upd H2 B (.dT [])) t3 := e3 ▸ I2.laid (t' := t2.toks) (fun b o e => Heap.get?_push_of_some _ e) (Nat.le_of_eq eB) (eB ▸ dt_empty t2.heap I2.big)
  have young : ∀ b ∈ fp, b < t2.heap.objs.size := fun b hb => let ⟨o, e, _⟩ := T.obj _ _ tn0 b hb; Heap.lt_size e
  generalize eH : upd H2 B (.dT []) = H3 at I3 w0
  have f3 : ∀ b ∈ fp, FpOk X pins H3 b ∧ b < t3.heap.objs.size := fun b hb => by
    have y := young b hb
    refine ⟨⟨?_, (ff b hb).2⟩, ?_⟩
    · rw [← eH]
      exact (upd_ne (Nat.ne_of_lt (eB ▸ y))).trans (ff b hb).1
    · rw [h3, Heap.size_push]; exact Nat.lt_succ_of_lt y
  have tn3 : tn 0 t3.heap := T.keep _ _ _ tn0 fun b _ o e => by rw [h3]; exact Heap.get?_push_of_some _ e
  have I4 := block_start I3 ok xo.nd f3
  generalize eC : t3.heap.objs.size = C at I4
  generalize ecl : cellsFrom (C + 1) sc.names (cloFrom X.env.cells sc.names []) = cl at I4
  have pg := hg t3 H3 C cl fp
  have pt := ht t3 H3 C cl fp
  have pk := hk t3 H3 C cl fp
  have pe := he t3 H3 C cl fp
  show codeAny (model X.prog X.w) X.A (.compStart (.DictComp kx vx [⟨tg, iter, ifs, 0⟩] sc pos) 0 (.ref it) (.ref B) (compEnvC sc cl C X.env)) (compPost (model X.prog X.w) X.A X.xe none (EP X pins σ Q) (.ref B) C) { t3 with heap := pushCells (t3.heap.push { cls := .type "dict", data := .dict #[] }) sc.names }
  generalize e4 : ({ t3 with heap := pushCells (t3.heap.push { cls := .type "dict", data := .dict #[] }) sc.names } : Shared) = t4 at I4 ⊢
  have tn4 : tn 0 t4.heap := T.keep _ _ _ tn3 fun b _ o e => by rw [← e4]; exact pushCells_keeps _ _ _ _ (Heap.get?_push_of_some _ e)
  generalize eE : compEnvC sc cl C X.env = ce at I4 ⊢
  have eL : ce.locals = C := by subst eE; rfl
  have pg : PG (X.blk t3 H3 sc ce fp) tg g := eE ▸ pg
  have pt : PTs (X.blk t3 H3 sc ce fp) ifs tt := eE ▸ pt
  have pk : PE (X.blk t3 H3 sc ce fp) kx tk := eE ▸ pk
  have pe : PE (X.blk t3 H3 sc ce fp) vx tv := eE ▸ pe
  have free4 : ∀ b ∈ fp, H3 b = none := fun b hb => (f3 b hb).1.1
  have fpOk : ∀ {τ : L2.St} {G : Hp} {t : Shared}, Inv (X.blk t3 H3 sc ce fp) [] τ G t → (∀ b ∈ fp, G b = none) → ∀ b ∈ fp, FpOk (X.blk t3 H3 sc ce fp) [] G b := fun {τ G t} J' hn b hb =>
    ⟨hn b hb, (J'.ok.exf b hb).1, J'.ok.exfs b hb, .inl hb, (J'.ok.exf b hb).2, fun p hp => nomatch (show p ∈ ([] : List (Addr × Obj)) from hp)⟩
  have loop : codeAny (model X.prog X.w) X.A (.compLoop (.DictComp kx vx [⟨tg, iter, ifs, 0⟩] sc pos) 0 (.ref it) (.ref B) ce) (compPost (model X.prog X.w) X.A X.xe none (EP X pins σ Q) (.ref B) C) t4 := by
    refine compLoop_anyD (fun m t => ∃ i G, Inv (X.blk t3 H3 sc ce fp) [] (wipe σ (own.map (·.2))) G t ∧ tn i t.heap ∧ (∀ b ∈ fp, G b = none) ∧ W i m G) ?_ m0 ⟨0, H3, I4, tn4, free4, w0⟩
    rintro m t5 ⟨i, H5, I5, tn5, free5, w5⟩
    rcases turn i m H5 w5 with ⟨stop, over⟩ | ⟨go, N, hN, step⟩
    · refine thnF (T.done (X.blk t3 H3 sc ce fp) rfl rfl rfl xo.calm i [] t5 _ H5 (fun _ _ => False) I5 (fpOk I5 free5) tn5 stop) fun r t6 ⟨er, I6⟩ => ?_
      subst er
      have I7 : Inv X pins σ H5 t6 := I3.call' (ch := fp) I6.os I6.base I6.hok I6.bare fun b hb => let ⟨_, q1, _, q3, q4, q5⟩ := (f3 b hb).1; ⟨q3, q1, q4, q5⟩
      have fC : FpOk X pins H5 C := by
        have z : H5 ce.locals = none := I6.free
        rw [eL] at z
        exact I3.fpOk (Nat.le_of_eq eC) z
      obtain ⟨mm, ns, _⟩ := I6.loc
      have ns : t6.heap.Ns ce.locals mm := ns
      rw [eL] at ns
      refine ⟨mm, ns, fun h'' sb => ?_⟩
      obtain ⟨q0, q1, _, q3, q4, q5⟩ := fC
      exact ⟨.ref B, H5, I7.turned (t' := t6.toks) (fun b o hb e => (sb.2 b hb).trans e) q0 q1 q3 q4 q5, rfl, over⟩
    · refine thnF (T.item (X.blk t3 H3 sc ce fp) rfl rfl rfl xo.calm i [] t5 _ H5 (fun _ _ => False) I5 (fpOk I5 free5) tn5 go) fun r t6 ⟨u, er, h6⟩ => ?_
      subst er
      refine thnF h6 fun _ t7 ⟨x, H7, I7, r7, y7, tn7, free7⟩ => ?_
      refine thnF (pg.run _ t7 _ H7 x u _ (I7.pinned (fpOk I7 free7) (T.obj _ _ tn7)) r7 (step x H7 y7)) fun _ t8 ⟨σ8, H8, I8, w8, q8⟩ => ?_
      refine thnF (pt.run _ t8 σ8 H8 _ I8 q8) fun c t9 ⟨H9, I9, q9⟩ => ?_
      have next : ∀ {t : Shared} {G : Hp}, Inv (X.blk t3 H3 sc ce fp) ([] ++ pinsAt fp t7.heap) σ8 G t → N G → ∃ m', m' < m ∧ ∃ i G, Inv (X.blk t3 H3 sc ce fp) [] (wipe σ (own.map (·.2))) G t ∧ tn i t.heap ∧ (∀ b ∈ fp, G b = none) ∧ W i m' G := fun {t G} J' nG => by
        obtain ⟨m', lt, w'⟩ := hN G nG
        have pin : ∀ b ∈ fp, ∀ o, t7.heap.get? b = some o → t.heap.get? b = some o ∧ G b = none := fun b hb o e =>
          have z := J'.pin (b, o) (List.mem_append_right _ (List.mem_append_right _ (mem_pinsAt hb e)))
          ⟨z.1, z.2.1⟩
        refine ⟨m', lt, i + 1, G, (J'.unpinned (pins := [])).weak (by rw [← w8, wipe_length]) fun j v e => ?_, T.keep _ _ _ tn7 fun b hb o e => (pin b hb o e).1, fun b hb => ?_, w'⟩
        · exact (wipe_some (by rw [← w8] at e; exact e)).1
        · obtain ⟨o, e, _⟩ := T.obj _ _ tn7 b hb
          exact (pin b hb o e).2
      cases c with
      | false =>
        rw [if_neg Bool.false_ne_true] at q9
        rw [if_neg Bool.false_ne_true]
        exact next I9 q9
      | true =>
        rw [if_pos rfl] at q9
        rw [if_pos rfl]
        refine thnF (pk.run _ t9 σ8 H9 _ I9 q9) fun kv ta ⟨yk, Ha, Ia, ra, qa⟩ => ?_
        refine thnF (pe.run _ ta σ8 Ha _ Ia qa) fun vv tb ⟨yv, Hb, Ib, rb, ms, k, b, ek, hb, hB, few, nG⟩ => ?_
        subst ek
        cases (show kv = Value.ref b from ra)
        exact put_entry (X := X.blk t3 H3 sc ce fp) xo.units Ib hB hb few rb fun tc Ic => next Ic nG
  exact codeAny_compStart_dict loop (T.self X.A 0 _ _ _ tn4 loop)
theorem pe_dcT {kx vx tg iter : Expr} {ifs : List Expr} {sc : Scope} {own : List (Str × Nat)} {pos : Pos} {wi : TI} {g : TG} {tt : TT} {tk tv : TE} (xo : XOk X) (hi : PI X tg iter wi) (ok : BlkOk X.N X.env.scope sc own)
    (hg : ∀ (s : Shared) (H : Hp) (C : Addr) (cl : List (Str × Addr)) (fp : List Addr), PG (Cx.blk' X sc s H C cl fp) tg g) (ht : ∀ (s : Shared) (H : Hp) (C : Addr) (cl : List (Str × Addr)) (fp : List Addr), PTs (Cx.blk' X sc s H C cl fp) ifs tt)
    (hk : ∀ (s : Shared) (H : Hp) (C : Addr) (cl : List (Str × Addr)) (fp : List Addr), PE (Cx.blk' X sc s H C cl fp) kx tk) (he : ∀ (s : Shared) (H : Hp) (C : Addr) (cl : List (Str × Addr)) (fp : List Addr), PE (Cx.blk' X sc s H C cl fp) vx tv)
    (hs : ∀ x, foldedSetIterable iter X.env x = pure x := by intro _; rfl) : PE X (.DictComp kx vx [⟨tg, iter, ifs, 0⟩] sc pos) (tDcT wi g tt tk tv (own.map (·.2))) :=
  ⟨fun pins s σ H Q I h => by rw [arm_eval_DictComp]; exact dcT_run xo I hi ok hg ht hk he hs h⟩
end
end Ab
namespace Ab
open PySem PySem.Spec PyProof.Rows L2

/-! ### for k, v in d.items(), the keys tuples -/
/-- a locked dict of tuple keys, its entries one by one -/
theorem locked_rows {X : Cx} {pins : List (Addr × Obj)} {σ : L2.St} {H : Hp} {s : Shared} {d : Addr} {o : Obj} {ms : List (List Key × V)} (I : Inv X pins σ H s) (h : H d = some (.frz o (.dT ms))) :
    (d == sysModules) = false ∧ s.heap.get? d = some o ∧ ∃ (es : Array DictEntry) (ep : Nat), o.data = .dict es ep ∧ s.heap.DictRaw d es ep ∧ es.size = ms.length ∧
      ∀ (i : Nat) (k : List Key) (v : V), ms[i]? = some (k, v) → ∃ (en : DictEntry) (q : Addr), es[i]? = some en ∧ en.key = .ref q ∧ H q = some (.tup (k.map kV)) ∧ RelV v en.val := by
  obtain ⟨at_, few, low, xs, pr, o', es, ep, ho, hx, hdt, he, _⟩ := I.hok d _ h
  rw [at_] at ho
  cases ho
  have l1 : es.size = xs.length := size_of_entries he
  have l2 : ms.length = xs.length := Paired.length pr
  refine ⟨low, at_, es, ep, hdt, ⟨o, at_, hx, hdt⟩, l1.trans l2.symm, fun i k v e => ?_⟩
  obtain ⟨b, hb, e1, e2, e3⟩ := paired_get pr e
  have q := entry_at he i
  rw [hb] at q
  exact ⟨_, b.2.1, q, rfl, e2, e3⟩
/-- the walk: at each turn a new pair of the key's own tuple and the value -/
def ItT (d : Addr) (o : Obj) (ms : List (List Key × V)) : It :=
  ⟨fun i H => H d = some (.frz o (.dT ms)) ∧ i < ms.length,
   fun i H x H' => ∃ (T q : Addr) (k : List Key) (v : V), ms[i]? = some (k, v) ∧ x = .ref T ∧ H T = none ∧ H q = some (.tup (k.map kV)) ∧ H' = upd H T (.tup [.ref q, v]),
   fun i H => H d = some (.frz o (.dT ms)) ∧ ms.length ≤ i⟩
theorem turn_itemsT {P : Program} {w : World} {K : PySem.W.Frag} {d : Addr} {o : Obj} {ms : List (List Key × V)} {es : Array DictEntry} {ep : Nat} {elts : List Expr} {kk : Nat} {tpos : Pos} (it : Addr) (hod : o.data = .dict es ep) :
    Turn P w K (.Tuple elts kk tpos) (ItT d o ms) [it] it (fun i h => ∃ ok ov, IsItemIter h it d i ms.length ep ok ov) := by
  have one : ∀ {b : Addr}, b ∈ [it] → b = it := fun hb => by simpa using hb
  refine ⟨by simp, fun i h st b hb => ?_, fun i h h' st k => ?_, ?_, ?_, fun A i s Q E st h => ?_⟩
  · obtain ⟨ok, ov, e⟩ := st
    have eb := one hb
    subst eb
    exact ⟨_, e, fun v z => nomatch z⟩
  · obtain ⟨ok, ov, e⟩ := st
    exact ⟨ok, ov, k it (by simp) _ e⟩
  · intro X hP hw hK hc i pins s σ H E I hf st ⟨hd, hi⟩
    subst hP hw hK
    obtain ⟨low, at_, es', ep', hdt, raw, hsz, rows⟩ := locked_rows I hd
    rw [hod] at hdt
    cases hdt
    obtain ⟨⟨k, v⟩, hkv⟩ : ∃ p, ms[i]? = some p := ⟨_, List.getElem?_eq_getElem hi⟩
    obtain ⟨en, q, hen, hkey, hq, rv⟩ := rows i k v hkv
    obtain ⟨ok, ov, he⟩ := st
    rw [← hsz] at he
    have hies : i < es.size := by omega
    have een : es[i] = en := by
      rw [Array.getElem?_eq_getElem hies] at hen
      exact Option.some.inj hen
    have hlt : it < s.heap.objs.size := Heap.lt_size he
    refine wpAny_pyNext_items_item_raw he raw hies fun h' ho hT hz hk => ?_
    refine ⟨_, rfl, wpAny_letOwnedTupleGo_items (s := { s with heap := h' }) ho fun h'' he' sb => ?_⟩
    have ne : s.heap.objs.size ≠ it := Nat.ne_of_gt hlt
    have laid : h''.get? s.heap.objs.size = some { cls := .type "tuple", data := .seq #[.ref q, en.val] } := by
      rw [een, hkey] at hT
      exact (sb.2 _ ne).trans hT
    have new : ObjOk X.prog X.w (upd H s.heap.objs.size (.tup [V.ref q, v])) h'' s.heap.objs.size (.tup [V.ref q, v]) := ⟨by show 2 ≤ sizeLine; decide, [.ref q, en.val], .cons rfl (.cons rv .nil), ⟨_, laid, rfl, _, rfl⟩⟩
    have J := I.turnedNew (t' := s.toks) (ch := [it]) (fun b ob hb e => (sb.2 b (by simpa using hb)).trans (hk b ob (by simpa using hb) e)) hf (Nat.le_refl _) new
    refine ⟨.ref s.heap.objs.size, _, J, rfl, ⟨_, q, k, v, hkv, rfl, I.hok.fresh (Nat.le_refl _), hq, rfl⟩, ⟨_, _, hsz ▸ he'⟩, fun b hb => ?_⟩
    rw [one hb, upd_ne (Nat.ne_of_lt hlt)]
    exact (hf it (by simp)).1
  · intro X hP hw hK hc i pins s σ H E I hf st ⟨hd, hi⟩
    subst hP hw hK
    obtain ⟨low, at_, es', ep', hdt, raw, hsz, rows⟩ := locked_rows I hd
    rw [hod] at hdt
    cases hdt
    obtain ⟨g0, g1, _, g3, g4, g5⟩ := hf it (by simp)
    obtain ⟨ok, ov, he⟩ := st
    rw [← hsz] at he
    exact wpAny_pyNext_items_end_raw (I.ok.hd hc) he raw (by omega) fun h' eb => ⟨rfl, I.turned (t' := s.toks) (fun b ob hb e => eb b ob hb e) g0 g1 g3 g4 g5⟩
  · obtain ⟨_, _, e⟩ := st
    exact wpAny_pyIter_itemiter e h
section
variable {X : Cx} {e : Expr} {td : TE} {apos cpos : Pos}
def iItemsT (td : TE) : TI := fun σ H R => td σ H fun x H1 => ∃ d o ms, x = .ref d ∧ H1 d = some (.frz o (.dT ms)) ∧ R (ItT d o ms) H1
theorem pi_itemsT {elts : List Expr} {kk : Nat} {tpos : Pos} (he : PE X e td) (hbase : attributeBase e "items" X.env (eval e X.env) = eval e X.env := by rfl) (hline : (apos.endLine == cpos.line) = true := by rfl) :
    PI X (.Tuple elts kk tpos) (.Call (.Attribute e "items" apos) [] [] cpos) (iItemsT td) := by
  refine ⟨fun pins s σ H R I h => ?_⟩
  refine wpAny_Call_method (T := "dict") (id := "dict.items") hbase rfl hline F.plainAttrs_dict F.slot_dict_items F.type_dict_items (thn (he.run pins s σ H _ I h) fun u t ⟨x, G, J, rx, d, o, ms, ex, hd, q⟩ => ?_)
  subst ex
  cases (show u = Value.ref d from rx)
  obtain ⟨low, at_, es, ep, hdt, raw, hsz, _⟩ := locked_rows J hd
  obtain ⟨od, hod, hxd, _⟩ := id raw
  refine ⟨raw.typeIs, fun b e => ?_, ?_⟩
  · cases e
    exact ⟨od, hod, hxd.2.1⟩
  · have view : wpAny (model X.prog X.w) X.A (pyIter (.ref t.heap.objs.size)) (PIE X pins σ (.Tuple elts kk tpos) R) X.xe { t with heap := t.heap.push { cls := .type "dict_items", data := .fields #[.ref d] } } := by
      have J2 : Inv X pins σ G { t with heap := t.heap.push { cls := .type "dict_items", data := .fields #[.ref d] } } := J.kept (t' := t.toks) fun b ob q => Heap.get?_push_of_some _ q
      refine wpAny_pyIter_items_raw (d := d) ⟨_, Heap.get?_push_size _ rfl, rfl, rfl⟩ (raw.at fun o q => Heap.get?_push_of_some _ q) (pi_one (tk := t.toks) J2 _ (turn_itemsT _ hdt) ⟨.none, .none, ?_⟩ q)
      rw [← hsz]
      exact Heap.get?_push_size _ rfl
    show wpAny _ _ (callWith cpos (.builtin "dict.items") [.ref d] [] []) _ X.xe t
    exact method_meetsIn F.slot_dict_items F.entry_dict_items rfl (PySem.evalArgs_none ⟨rfl, raw.typeIs, F.args_dict_items_1 _, _, meets_dict_items_raw d low, ⟨es, ep, raw⟩, view⟩)
end
end Ab
namespace Ab
open PySem PySem.Spec PyProof.Rows L2

section
variable {κ : Type} [DecidableEq κ]
def valD (kvs : List (κ × D)) (k : κ) : Option D := (kvs.find? fun kv => decide (kv.1 = k)).map (·.2)
def putD (kvs : List (κ × D)) (k : κ) (v : D) : List (κ × D) :=
  if (kvs.any fun kv => decide (kv.1 = k)) = true then kvs.map (fun kv => if kv.1 = k then (kv.1, v) else kv) else kvs ++ [(k, v)]
variable {K : PySem.W.Frag} {F : Hp}
theorem kv_val {ks : List (κ × V)} {kvs : List (κ × D)} (r : Paired (KvOk K F) ks kvs) (k : κ) : (valV ks k = none ∧ valD kvs k = none) ∨ ∃ v d, valV ks k = some v ∧ valD kvs k = some d ∧ Rp K F v d := by
  induction r with
  | nil => exact .inl ⟨rfl, rfl⟩
  | @cons a b l m h t ih =>
    obtain ⟨a1, a2⟩ := a
    obtain ⟨b1, b2⟩ := b
    obtain ⟨h1, h2⟩ := h
    cases (show a1 = b1 from h1)
    by_cases e : a1 = k
    · refine .inr ⟨a2, b2, ?_, ?_, h2⟩
      · simp [valV, List.find?_cons, e]
      · simp [valD, List.find?_cons, e]
    · have e1 : valV ((a1, a2) :: l) k = valV l k := by simp [valV, List.find?_cons, e]
      have e2 : valD ((a1, b2) :: m) k = valD m k := by simp [valD, List.find?_cons, e]
      rw [e1, e2]; exact ih
theorem kv_any {ks : List (κ × V)} {kvs : List (κ × D)} (r : Paired (KvOk K F) ks kvs) (k : κ) : (ks.any fun kv => decide (kv.1 = k)) = kvs.any fun kv => decide (kv.1 = k) := by
  induction r with
  | nil => rfl
  | cons h t ih => rw [List.any_cons, List.any_cons, ih, h.1]
theorem kv_map {ks : List (κ × V)} {kvs : List (κ × D)} {v : V} {d : D} (r : Paired (KvOk K F) ks kvs) (k : κ) (h : Rp K F v d) : Paired (KvOk K F) (ks.map fun kv => if kv.1 = k then (kv.1, v) else kv) (kvs.map fun kv => if kv.1 = k then (kv.1, d) else kv) := by
  induction r with
  | nil => exact .nil
  | @cons a b l m g t ih =>
    refine .cons ?_ ih
    show KvOk K F (if a.1 = k then (a.1, v) else a) (if b.1 = k then (b.1, d) else b)
    by_cases e : a.1 = k
    · have e' : b.1 = k := g.1 ▸ e
      rw [if_pos e, if_pos e']
      exact ⟨g.1, h⟩
    · have e' : ¬ b.1 = k := fun z => e (g.1.trans z)
      rw [if_neg e, if_neg e']
      exact g
theorem kv_put {ks : List (κ × V)} {kvs : List (κ × D)} {v : V} {d : D} (r : Paired (KvOk K F) ks kvs) (k : κ) (h : Rp K F v d) : Paired (KvOk K F) (putK ks k v) (putD kvs k d) := by
  unfold putK putD
  rw [kv_any r k]
  by_cases e : (kvs.any fun kv => decide (kv.1 = k)) = true
  · rw [if_pos e, if_pos e]; exact kv_map r k h
  · rw [if_neg e, if_neg e]; exact r.snoc ⟨rfl, h⟩
end

/-- a dict with tuple keys, wherever it is held -/
theorem dT_at {K : PySem.W.Frag} {F H : Hp} {v : V} {kvs : List (List Key × D)} (h : SlOk K F H v (.ce (.dT kvs))) : ∃ a ks, v = .ref a ∧ H a = some (.dT ks) ∧ Paired (KvOk K F) ks kvs := by
  obtain ⟨a, e, _, ks, h1, h2⟩ := h
  exact ⟨a, ks, e, h1, h2⟩
section
variable {X : Cx} {e a b c : Expr} {es : List Expr} {ρ : List Sl} {Φ : Rs → List Sl → Prop} {pos p : Pos}
theorem newDT {K : PySem.W.Frag} {F H : Hp} {ρ1 ρτ : List Sl} {σ στ : L2.St} {p : Addr} {ks : List (List Key × V)} {kvs : List (List Key × D)} (s1 : StOk K F H (ρ1 ++ ρτ) (σ ++ στ)) (hp : H p = none) (r : Paired (KvOk K F) ks kvs) : ROk K F (upd H p (.dT ks)) ρ1 ρτ σ στ (.ref p) (.c (.dT kvs)) := by
  show StOk _ _ _ _ _
  rw [← List.append_assoc, ← List.append_assoc]
  exact s1.addCe hp fun F' e' => ⟨ks, upd_same, kvs_mono e' r⟩
/-- {} to be filled with tuple keys -/
theorem ae_newT (h : Φ (.c (.dT [])) ρ) : AE X (.Dict [] [] pos) ρ Φ :=
  .of pe_dnewT fun σ H Q ⟨F, ρτ, στ, hl, s, k⟩ p hp => k _ _ F (.c (.dT [])) ρ (Same.refl F) hl (newDT s hp .nil) h
theorem newDK {K : PySem.W.Frag} {F H : Hp} {ρ1 ρτ : List Sl} {σ στ : L2.St} {p : Addr} {ks : List (Key × V)} {kvs : List (Key × D)} (s1 : StOk K F H (ρ1 ++ ρτ) (σ ++ στ)) (hp : H p = none) (r : Paired (KvOk K F) ks kvs) : ROk K F (upd H p (.dK ks)) ρ1 ρτ σ στ (.ref p) (.c (.dK kvs)) := by
  show StOk _ _ _ _ _
  rw [← List.append_assoc, ← List.append_assoc]
  exact s1.addCe hp fun F' e' => ⟨ks, upd_same, kvs_mono e' r⟩
theorem ae_newK (h : Φ (.c (.dK [])) ρ) : AE X (.Dict [] [] pos) ρ Φ :=
  .of pe_dnewK fun σ H Q ⟨F, ρτ, στ, hl, s, k⟩ p hp => k _ _ F (.c (.dK [])) ρ (Same.refl F) hl (newDK s hp .nil) h
/-- what a dict holds at a key: by the slot that holds the dict -/
def cGet : Sl → Sl → Option D → Prop := fun s1 s2 o => (∃ kvs k, s1 = .ce (.dT kvs) ∧ s2 = .va (tupK k) ∧ o = valD kvs k) ∨ ∃ kvs k, s1 = .ce (.dK kvs) ∧ s2 = .va (keyD k) ∧ o = valD kvs k
theorem get_ok {K : PySem.W.Frag} {F H : Hp} {v1 v2 : V} {s1 s2 : Sl} {o : Option D} (sub : Same F H) (o1 : SlOk K F H v1 s1) (o2 : SlOk K F H v2 s2) (h : cGet s1 s2 o) : ∃ a u, v1 = .ref a ∧ DGet H a v2 u ∧ ((u = none ∧ o = none) ∨ ∃ v d, u = some v ∧ o = some d ∧ Rp K F v d) := by
  rcases h with ⟨kvs, k, e1, e2, e3⟩ | ⟨kvs, k, e1, e2, e3⟩
  · subst e1; subst e2; subst e3
    obtain ⟨a, ks, rfl, hH, r⟩ := dT_at o1
    obtain ⟨b, rfl, hb⟩ := tupK_rp o2
    refine ⟨a, valV ks k, rfl, DGet.t hH (sub _ _ hb), ?_⟩
    rcases kv_val r k with ⟨g1, g2⟩ | ⟨v, d, g1, g2, g3⟩
    · exact .inl ⟨g1, g2⟩
    · exact .inr ⟨v, d, g1, g2, g3⟩
  · subst e1; subst e2; subst e3
    obtain ⟨a, rfl, _, ks, hH, r⟩ := o1
    obtain rfl := key_rp o2
    refine ⟨a, valV ks k, rfl, DGet.k hH, ?_⟩
    rcases kv_val r k with ⟨g1, g2⟩ | ⟨v, d, g1, g2, g3⟩
    · exact .inl ⟨g1, g2⟩
    · exact .inr ⟨v, d, g1, g2, g3⟩
/-- d[k] -/
theorem ae_dget (xo : XOk X) (h : AE X a ρ fun R1 ρ1 => AE X b ρ1 fun R2 ρ2 => ∃ d, cGet (rsSl ρ2 R1) (rsSl ρ2 R2) (some d) ∧ Φ (.v d) ρ2) (hs : NoSl b := by exact fun _ _ _ _ _ => rfl) : AE X (.Subscript a b pos) ρ Φ :=
  .of (pe_dget (by have := xo.units; omega) pe_any pe_any hs) fun σ H Q ⟨F, ρτ, στ, hl, st, k⟩ => two (r := fun x y H2 Q => ∃ a v, x = .ref a ∧ DGet H2 a y (some v) ∧ Q v H2) (Ga := fun s1 s2 ρ2 => ∃ d, cGet s1 s2 (some d) ∧ Φ (.v d) ρ2) hl st h fun s1 s2 ρ2 F2 H2 v1 v2 ⟨d, hd, q⟩ e l t o1 o2 => by
    obtain ⟨a', u, rfl, g, hu⟩ := get_ok t.sub o1 o2 hd
    rcases hu with ⟨_, z⟩ | ⟨v, d', rfl, z, dv⟩
    · cases z
    · cases z
      exact ⟨a', v, rfl, g, k v H2 F2 (.v d) ρ2 e l ⟨t, dv⟩ q⟩
/-- k in d, k not in d -/
theorem at_din {Φ : Bool → List Sl → Prop} (xo : XOk X) (h : AE X a ρ fun R1 ρ1 => AE X b ρ1 fun R2 ρ2 => ∃ o, cGet (rsSl ρ2 R2) (rsSl ρ2 R1) o ∧ Φ o.isSome ρ2) (hm : behindInMarks .In b = false := by rfl) : AT X (.Compare a [.In] [b] pos) ρ Φ :=
  .of (pt_cmp (pc_din (by have := xo.units; omega) pe_any pe_any) hm) fun σ H Q ⟨F, ρτ, στ, hl, st, k⟩ => two (Q := fun x H1 => ∃ c, x = .bl c ∧ Q c H1) (r := fun y x H2 Q => ∃ a o, x = .ref a ∧ DGet H2 a y o ∧ Q (.bl o.isSome) H2) (Ga := fun s1 s2 ρ2 => ∃ o, cGet s2 s1 o ∧ Φ o.isSome ρ2) hl st h fun s1 s2 ρ2 F2 H2 v1 v2 ⟨o, hd, q⟩ e l t o1 o2 => by
    obtain ⟨a', u, rfl, g, hu⟩ := get_ok t.sub o2 o1 hd
    refine ⟨a', u, rfl, g, u.isSome, rfl, ?_⟩
    have : u.isSome = o.isSome := by rcases hu with ⟨rfl, rfl⟩ | ⟨_, _, rfl, rfl, _⟩ <;> rfl
    rw [this]
    exact k _ H2 F2 ρ2 e l t q
theorem at_dnotin {Φ : Bool → List Sl → Prop} (xo : XOk X) (h : AE X a ρ fun R1 ρ1 => AE X b ρ1 fun R2 ρ2 => ∃ o, cGet (rsSl ρ2 R2) (rsSl ρ2 R1) o ∧ Φ (!o.isSome) ρ2) (hm : behindInMarks .NotIn b = false := by rfl) : AT X (.Compare a [.NotIn] [b] pos) ρ Φ :=
  .of (pt_cmp (pc_dnotin (by have := xo.units; omega) pe_any pe_any) hm) fun σ H Q ⟨F, ρτ, στ, hl, st, k⟩ => two (Q := fun x H1 => ∃ c, x = .bl c ∧ Q c H1) (r := fun y x H2 Q => ∃ a o, x = .ref a ∧ DGet H2 a y o ∧ Q (.bl (!o.isSome)) H2) (Ga := fun s1 s2 ρ2 => ∃ o, cGet s2 s1 o ∧ Φ (!o.isSome) ρ2) hl st h fun s1 s2 ρ2 F2 H2 v1 v2 ⟨o, hd, q⟩ e l t o1 o2 => by
    obtain ⟨a', u, rfl, g, hu⟩ := get_ok t.sub o2 o1 hd
    refine ⟨a', u, rfl, g, !u.isSome, rfl, ?_⟩
    have : u.isSome = o.isSome := by rcases hu with ⟨rfl, rfl⟩ | ⟨_, _, rfl, rfl, _⟩ <;> rfl
    rw [this]
    exact k _ H2 F2 ρ2 e l t q
/-- slot i holds a dict, at a' -/
theorem StOk.dictAt {K : PySem.W.Frag} {F H : Hp} {ρ ρτ : List Sl} {σ στ : L2.St} {i : Nat} {kvs : List (List Key × D)} {v : V} (s : StOk K F H (ρ ++ ρτ) (σ ++ στ)) (hl : ρ.length = σ.length) (hi : ρ[i]? = some (.ce (.dT kvs))) (hv : σ[i]? = some (some v)) :
    ∃ a ks, v = .ref a ∧ H a = some (.dT ks) ∧ Paired (KvOk K F) ks kvs ∧ ∀ (kvs' : List (List Key × D)) (ks' : List (List Key × V)), Paired (KvOk K F) ks' kvs' → StOk K F (upd H a (.dT ks')) (ρ.set i (.ce (.dT kvs')) ++ ρτ) (σ ++ στ) := by
  have hil : i < ρ.length := (List.getElem?_eq_some_iff.mp hi).1
  have hi2 : (ρ ++ ρτ)[i]? = some (.ce (.dT kvs)) := (get_left hil).trans hi
  have hv2 : (σ ++ στ)[i]? = some (some v) := (get_left (by omega)).trans hv
  obtain ⟨a, g1, g2, ks, g3, g4⟩ := s.ce i _ hi2
  rw [hv2] at g1
  cases g1
  refine ⟨a, ks, rfl, g3, g4, fun ds' vs' h => ?_⟩
  have := s.setCe (o := .dT vs') (c' := .dT ds') hi2 hv2 ⟨vs', upd_same, h⟩
  rwa [app_set_left hil] at this
theorem paired_len {α β : Type} {R : α → β → Prop} {l : List α} {m : List β} (h : Paired R l m) : l.length = m.length := Paired.length h
/-- d.get(k, x), the dict in slot i -/
theorem ae_dget2 (xo : XOk X) (i : Nat) {x : Str} {p1 apos : Pos} (kv0 : List (List Key × D)) (h : AE X a ρ fun R1 ρ1 => ∃ k ρ1', Fz ρ1 R1 (.d (tupK k)) ρ1' ∧ AE X b ρ1' fun R2 ρ2 => ∃ d ρ3 kvs, Fz ρ2 R2 (.d d) ρ3 ∧ ρ3[i]? = some (.ce (.dT kvs)) ∧ Φ (.v ((valD kvs k).getD d)) ρ3)
    (h0 : ρ[i]? = some (.ce (.dT kv0)) := by rfl) (hN : X.N[i]? = some x := by rfl) (hv : Vis X.env.scope x := by first | exact Or.inl rfl | exact Or.inr (Or.inl rfl) | exact Or.inr (Or.inr rfl))
    (hd : (x == ("__debug__" : Str)) = false := by decide) (hcd : (x == ("__classdict__" : Str)) = false := by decide) (m : M2 X (.Name x p1) "get" apos a b pos := by exact ⟨rfl, rfl, rfl, rfl⟩) :
    AE X (.Call (.Attribute (.Name x p1) "get" apos) [a, b] [] pos) ρ Φ := by
  refine .of (pe_dget2 (by have := xo.units; omega) (pe_var hN hv hd hcd) (pe_any (e := a)) (pe_any (e := b)) m) fun σ H Q ⟨F, ρτ, στ, hl, s, k⟩ => ?_
  obtain ⟨a0, g1, _, ks0, g3, _⟩ := (s.left hl).ce i _ h0
  refine ⟨.ref a0, g1, a0, rfl, .inr ⟨ks0, .inl g3⟩, ρ, _, h, F, ρτ, στ, hl, s, fun v1 H1 F1 R1 ρ1 e1 l1 r1 ⟨ky, ρ1', fz1, q1⟩ => ?_⟩
  obtain ⟨F1', e1', l1', s1', dv1⟩ := fz1.ok r1 l1
  have dv1 : Rp X.K F1' v1 (tupK ky) := dv1
  refine ⟨ρ1', _, q1, F1', ρτ, στ, l1', s1', fun v2 H2 F2 R2 ρ2 e2 l2 r2 ⟨d, ρ3, kvs, fz2, hi, q2⟩ => ?_⟩
  obtain ⟨F3, e3, l3, s3, dv2⟩ := fz2.ok r2 l2
  have dv2 : Rp X.K F3 v2 d := dv2
  obtain ⟨a', ks, ea, hH, pr, _⟩ := s3.dictAt l3 hi g1
  cases ea
  obtain ⟨bq, rfl, hb⟩ := tupK_rp (dp_mono (e2.trans e3) _ _ dv1)
  refine ⟨valV ks ky, DGet.t hH (s3.sub _ _ hb), ?_⟩
  refine k _ H2 F3 (.v ((valD kvs ky).getD d)) ρ3 (((e1.trans e1').trans e2).trans e3) l3 ⟨s3, ?_⟩ q2
  rcases kv_val pr ky with ⟨z1, z2⟩ | ⟨v, d', z1, z2, z3⟩
  · rw [z1, z2]; exact dv2
  · rw [z1, z2]; exact z3
/-- {k: v}, one entry, its key a tuple -/
theorem pe_disp1T (ru : X.A.units + 100 < cLine) : PE X (.Dict [some a] [b] pos) (fun σ H Q => ∀ B, H B = none → AnyA X a σ (upd H B (.dT [])) fun y H1 => AnyA X b σ H1 fun z H2 => ∃ k q, y = .ref q ∧ H2 q = some (.tup (k.map kV)) ∧ H2 B = some (.dT []) ∧ Q (.ref B) (upd H2 B (.dT [(k, z)]))) := by
  refine ⟨fun pins s σ H Q I h => ?_⟩
  have I1 := I.laid (a := s.heap.objs.size) (o := .dT []) (h' := s.heap.push { cls := .type "dict", data := .dict #[] }) (t' := s.toks) (fun _ _ q => Heap.get?_push_of_some _ q) (Nat.le_refl _) (dt_empty s.heap I.big)
  have q := h _ (I.hok.fresh (Nat.le_refl _))
  rw [arm_eval_Dict, show (evalEachOpt [some a] X.env).zip ((evalEach [b] X.env).map fun v => do let x ← v; standAt pos; pure x) = (pairTrees [some a] [b] X.env pos).map fun p => (some p.1, p.2) from zip_pairTrees [some a] [b] X.env pos rfl rfl, dictDisplay_pairs (pairTrees [some a] [b] X.env pos) (by unfold pairTrees; exact fun z => nomatch z) (show 1 < 17 by decide)]
  refine wpAny_bind (wpAny_standAt (wpAny_bind ?_))
  refine wpAny_subDictH (knd := tupleKind (mixKind X.prog X.w)) (show X.A.units < cLine by omega) (show 1 ≤ 15 by decide) ?_
  refine pairTrees_cons_walk (thn (pe_any.run pins _ σ _ _ I1 q) fun kv s2 ⟨y, H2, I2, r2, q2⟩ => thn (pe_any.run pins _ σ _ _ I2 q2) fun vv s3 ⟨z, H3, I3, r3, k, b', ey, hb, hB, q3⟩ => pairTrees_nil_walk ?_)
  subst ey
  cases (show kv = Value.ref b' from r2)
  obtain ⟨z1, z2, xs, rel, dd⟩ := dt_of I3.hok hB
  cases rel
  refine ⟨[(k, b', vv)], ⟨rfl, rfl, key_of I3.hok hb, trivial⟩, dd, fun h' tk dd' only => wpAny_pure ?_⟩
  obtain ⟨ob, es, ep, g1, g2, g3, g4, _, g5⟩ := dd'
  refine ⟨.ref s.heap.objs.size, _, d_write (ob := .dT [(k, z)]) (t' := tk) I3 (by rw [hB]; exact True.intro) only ⟨ob, g1⟩ ⟨by show 1 ≤ sizeLine; decide, z2, [(k, b', vv)], .cons ⟨rfl, ?_, r3⟩ .nil, ob, es, ep, g1, g2, g3, g4, g5⟩, rfl, q3⟩
  exact (upd_ne (ne_of hb hB (fun z => nomatch z))).trans hb
theorem ae_disp1T (xo : XOk X) (h : AE X a ρ fun R1 ρ1 => ∃ k ρ1', Fz ρ1 R1 (.d (tupK k)) ρ1' ∧ AE X b ρ1' fun R2 ρ2 => ∃ d ρ3, Fz ρ2 R2 (.d d) ρ3 ∧ Φ (.c (.dT [(k, d)])) ρ3) : AE X (.Dict [some a] [b] pos) ρ Φ := by
  refine .of (pe_disp1T xo.units) fun σ H Q ⟨F, ρτ, στ, hl, s, k⟩ B hB => ?_
  have s0 : StOk X.K F (upd H B (.dT [])) (ρ ++ (ρτ ++ [.ce (.dT [])])) (σ ++ (στ ++ [some (.ref B)])) := newDT s hB .nil
  refine ⟨ρ, _, h, F, _, _, hl, s0, fun v1 H1 F1 R1 ρ1 e1 l1 r1 ⟨ky, ρ1', fz1, q1⟩ => ?_⟩
  obtain ⟨F1', e1', l1', s1', dv1⟩ := fz1.ok r1 l1
  have dv1 : Rp X.K F1' v1 (tupK ky) := dv1
  refine ⟨ρ1', _, q1, F1', _, _, l1', s1', fun v2 H2 F2 R2 ρ2 e2 l2 r2 ⟨d, ρ3, fz2, q2⟩ => ?_⟩
  obtain ⟨F3, e3, l3, s3, dv2⟩ := fz2.ok r2 l2
  have dv2 : Rp X.K F3 v2 d := dv2
  obtain ⟨bq, rfl, hb⟩ := tupK_rp (dp_mono (e2.trans e3) _ _ dv1)
  obtain ⟨aB, eB, _, ks, hH, pr⟩ := s3.last
  cases eB
  cases pr
  refine ⟨ky, bq, rfl, s3.sub _ _ hb, hH, ?_⟩
  refine k _ _ F3 (.c (.dT [(ky, d)])) ρ3 (((e1.trans e1').trans e2).trans e3) l3 ?_ q2
  exact s3.setLast ⟨[(ky, v2)], upd_same, .cons ⟨rfl, dv2⟩ .nil⟩
end
section
variable {X : Cx} {κ : Nat → Bool} {e a b : Expr} {ρ : List Sl} {k : Ks} {pos p : Pos}
/-- d[e1] = e2, the dict in slot i -/
theorem as_dput (xo : XOk X) (i : Nat) {x : Str} {p1 pos' : Pos} (h : AE X b ρ fun R ρ1 => ∃ d ρ1', Fz ρ1 R (.d d) ρ1' ∧ live (ρ1'.getD i .no) = true ∧ AE X a ρ1' fun R2 ρ2 => ∃ kvs ky ρ2' ρ3, Fz ρ2 R2 (.d (tupK ky)) ρ2' ∧ ρ2'[i]? = some (.ce (.dT kvs)) ∧ kvs.length < 1000000 ∧ SetAt ρ2' i (.ce (.dT (putD kvs ky d))) ρ3 ∧ k.nx ρ3)
    (hN : X.N[i]? = some x := by rfl) (hv : Vis X.env.scope x := by first | exact Or.inl rfl | exact Or.inr (Or.inl rfl) | exact Or.inr (Or.inr rfl))
    (hd : (x == ("__debug__" : Str)) = false := by decide) (hcd : (x == ("__classdict__" : Str)) = false := by decide) (hs : swapsWith b (some (.Subscript (.Name x p1) a pos')) pos.line X.env = pure false := by rfl) :
    AS X κ (.Assign [.Subscript (.Name x p1) a pos'] b pos) ρ k := by
  refine .of (ps_dput (by have := xo.units; omega) (pe_var hN hv hd hcd) (pe_any (e := a)) h.pe hs) fun D σ H ⟨F, ρτ, στ, hl, s, n, r, bk, ct⟩ => ?_
  refine ⟨F, ρτ, στ, hl, s, fun v H1 F1 R ρ1 e1 l1 ro ⟨d, ρ1', fz, hli, q⟩ => ?_⟩
  obtain ⟨F2, e2, l2, s2, dv⟩ := fz.ok ro l1
  have dv : Rp X.K F2 v d := dv
  obtain ⟨hil, ov, hov⟩ := (s2.left l2).val hli
  refine ⟨ov, hov, ρ1', _, q, F2, ρτ, στ, l2, s2, fun v2 H3 F3 R2 ρ2 e3 l3 ro3 ⟨kvs, ky, ρ2', ρ3, fz3, hi, few, st, q3⟩ => ?_⟩
  obtain ⟨F4, e4, l4, s4, dk⟩ := fz3.ok ro3 l3
  have dk : Rp X.K F4 v2 (tupK ky) := dk
  obtain ⟨a', ks, ea, hH, pr, upd'⟩ := s4.dictAt l4 hi hov
  subst ea
  obtain ⟨bq, rfl, hb⟩ := tupK_rp dk
  refine ⟨a', _, rfl, DPut.t hH (s4.sub _ _ hb) (by rw [paired_len pr, sizeLine_eq]; omega), ?_⟩
  have s5 := upd' _ _ (kv_put pr ky (dp_mono (e3.trans e4) _ _ dv))
  rw [← st.eq.1] at s5
  exact n σ _ F4 ρ3 (((e1.trans e2).trans e3).trans e4) rfl (st.len.trans l4) (Kept.refl _ _) s5 q3
end
end Ab
namespace Ab
open PySem PySem.Spec PyProof.Rows L2
theorem b_len : bootBuiltins "len" = some (.builtin "len") := rfl
theorem b_abs : bootBuiltins "abs" = some (.builtin "abs") := rfl
theorem b_all : bootBuiltins "all" = some (.builtin "all") := rfl
theorem b_any : bootBuiltins "any" = some (.builtin "any") := rfl
theorem b_sum : bootBuiltins "sum" = some (.builtin "sum") := rfl
theorem b_int : bootBuiltins "int" = some (.type "int") := rfl
theorem b_list : bootBuiltins "list" = some (.type "list") := rfl
theorem b_tuple : bootBuiltins "tuple" = some (.type "tuple") := rfl
/-- the i-th of a list, step by step -/
inductive At {α : Type} : List α → Nat → α → Prop
  | zero {x : α} {l : List α} : At (x :: l) 0 x
  | succ {x y : α} {l : List α} {i : Nat} : At l i x → At (y :: l) (i + 1) x
theorem At.get {α : Type} {l : List α} {i : Nat} {x : α} (h : At l i x) : l[i]? = some x := by
  induction h with
  | zero => rfl
  | succ _ ih => exact ih
section
variable {X : Cx} {ρ : List Sl} {Φ : Rs → List Sl → Prop} {κ : Nat → Bool} {k : Ks} {e : Expr} {pos : Pos}
theorem ae_nm {N : List Str} {i : Nat} {x : Str} {pos : Pos} (hX : X.N = N) (hA : At N i x) (h : Φ (.al i) ρ) (hs : live (ρ.getD i .no) = true := by rfl)
    (hv : Vis X.env.scope x := by first | exact Or.inl rfl | exact Or.inr (Or.inl rfl) | exact Or.inr (Or.inr rfl)) (hd : (x == ("__debug__" : Str)) = false := by decide) (hcd : (x == ("__classdict__" : Str)) = false := by decide) : AE X (.Name x pos) ρ Φ :=
  ae_name i h hs (hX ▸ hA.get) hv hd hcd
theorem as_st (xo : XOk X) {N : List Str} {i : Nat} {x : Str} {pos' : Pos} (hX : X.N = N) (hA : At N i x) (h : AE X e ρ fun R ρ' => ∃ ρ'', Puts ρ' i R ρ'' ∧ k.nx ρ'') (hk : κ i = false := by rfl) (hx : Loc X.env.scope x := by first | exact Or.inl rfl | exact Or.inr rfl)
    (hs : swapsWith e (some (.Name x pos')) pos.line X.env = pure false := by rfl) (hf : X.fn x = true ∨ X.env.scope.names.lookup x = some .local := by first | exact .inl rfl | exact .inr rfl) : AS X κ (.Assign [.Name x pos'] e pos) ρ k :=
  as_set xo i h hk (hX ▸ hA.get) hx hs hf
theorem ag_nm {N : List Str} {i : Nat} {x : Str} {pos : Pos} {d : D} {ρ' : List Sl} (hX : X.N = N) (hA : At N i x) (hp : SetAt ρ i (.va d) ρ') (xo : XOk X) (hk : κ i = false := by rfl) (hx : Loc X.env.scope x := by first | exact Or.inl rfl | exact Or.inr rfl)
    (hf : X.fn x = true ∨ X.env.scope.names.lookup x = some .local := by first | exact .inl rfl | exact .inr rfl) : AG X κ (.Name x pos) d ρ ρ' :=
  ag_name i hp xo hk (hX ▸ hA.get) hx hf
theorem puts_v {i : Nat} {d : D} {ρ' : List Sl} {Ψ : List Sl → Prop} (h : SetAt ρ i (.va d) ρ') (q : Ψ ρ') : ∃ ρ'', Puts ρ i (.v d) ρ'' ∧ Ψ ρ'' := ⟨_, .v h, q⟩
theorem puts_c {i : Nat} {c : Cn} {ρ' : List Sl} {Ψ : List Sl → Prop} (h : SetAt ρ i (.ce c) ρ') (q : Ψ ρ') : ∃ ρ'', Puts ρ i (.c c) ρ'' ∧ Ψ ρ'' := ⟨_, .c h, q⟩
theorem puts_av {i j : Nat} {d : D} {ρ' : List Sl} {Ψ : List Sl → Prop} (g : ρ[j]? = some (.va d)) (h : SetAt ρ i (.va d) ρ') (q : Ψ ρ') : ∃ ρ'', Puts ρ i (.al j) ρ'' ∧ Ψ ρ'' := ⟨_, .alv g h, q⟩
theorem puts_ac {i j : Nat} {c : Cn} {ρ1 ρ' : List Sl} {Ψ : List Sl → Prop} (g : ρ[j]? = some (.ce c)) (h1 : SetAt ρ j .no ρ1) (h : SetAt ρ1 i (.ce c) ρ') (q : Ψ ρ') : ∃ ρ'', Puts ρ i (.al j) ρ'' ∧ Ψ ρ'' := ⟨_, .alc g h1 h, q⟩
theorem rets_v {d : D} {Ψ : Rs → List Sl → Prop} (q : Ψ (.v d) ρ) : ∃ r ρ'', Rets ρ (.v d) r ρ'' ∧ Ψ r ρ'' := ⟨_, _, .v, q⟩
theorem rets_c {c : Cn} {Ψ : Rs → List Sl → Prop} (q : Ψ (.c c) ρ) : ∃ r ρ'', Rets ρ (.c c) r ρ'' ∧ Ψ r ρ'' := ⟨_, _, .c, q⟩
theorem rets_av {j : Nat} {d : D} {Ψ : Rs → List Sl → Prop} (g : ρ[j]? = some (.va d)) (q : Ψ (.v d) ρ) : ∃ r ρ'', Rets ρ (.al j) r ρ'' ∧ Ψ r ρ'' := ⟨_, _, .alv g, q⟩
theorem rets_ac {j : Nat} {c : Cn} {ρ' : List Sl} {Ψ : Rs → List Sl → Prop} (g : ρ[j]? = some (.ce c)) (h : SetAt ρ j .no ρ') (q : Ψ (.c c) ρ') : ∃ r ρ'', Rets ρ (.al j) r ρ'' ∧ Ψ r ρ'' := ⟨_, _, .alc g h, q⟩
theorem fz_v {d : D} {Ψ : Ar → List Sl → Prop} (q : Ψ (.d d) ρ) : ∃ a ρ1, Fz ρ (.v d) a ρ1 ∧ Ψ a ρ1 := ⟨_, _, .v, q⟩
theorem fz_c {ds : List D} {Ψ : Ar → List Sl → Prop} (q : Ψ (.d (.list ds)) ρ) : ∃ a ρ1, Fz ρ (.c (.lst ds)) a ρ1 ∧ Ψ a ρ1 := ⟨_, _, .c, q⟩
theorem fz_av {i : Nat} {d : D} {Ψ : Ar → List Sl → Prop} (g : ρ[i]? = some (.va d)) (q : Ψ (.d d) ρ) : ∃ a ρ1, Fz ρ (.al i) a ρ1 ∧ Ψ a ρ1 := ⟨_, _, .alv g, q⟩
theorem fz_ac {i : Nat} {ds : List D} {ρ' : List Sl} {Ψ : Ar → List Sl → Prop} (g : ρ[i]? = some (.ce (.lst ds))) (h : SetAt ρ i (.va (.list ds)) ρ') (q : Ψ (.d (.list ds)) ρ') : ∃ a ρ1, Fz ρ (.al i) a ρ1 ∧ Ψ a ρ1 := ⟨_, _, .alc g h, q⟩
theorem fz_bx {i : Nat} {Ψ : Ar → List Sl → Prop} (g : ρ[i]? = some (.ce .box)) (q : Ψ (.bx i) ρ) : ∃ a ρ1, Fz ρ (.al i) a ρ1 ∧ Ψ a ρ1 := ⟨_, _, .box g, q⟩
theorem fzd_v {d : D} {Ψ : D → List Sl → Prop} (q : Ψ d ρ) : ∃ a ρ1, Fz ρ (.v d) (.d a) ρ1 ∧ Ψ a ρ1 := ⟨_, _, .v, q⟩
theorem fzd_c {ds : List D} {Ψ : D → List Sl → Prop} (q : Ψ (.list ds) ρ) : ∃ a ρ1, Fz ρ (.c (.lst ds)) (.d a) ρ1 ∧ Ψ a ρ1 := ⟨_, _, .c, q⟩
theorem fzd_av {i : Nat} {d : D} {Ψ : D → List Sl → Prop} (g : ρ[i]? = some (.va d)) (q : Ψ d ρ) : ∃ a ρ1, Fz ρ (.al i) (.d a) ρ1 ∧ Ψ a ρ1 := ⟨_, _, .alv g, q⟩
theorem fzd_ac {i : Nat} {ds : List D} {ρ' : List Sl} {Ψ : D → List Sl → Prop} (g : ρ[i]? = some (.ce (.lst ds))) (h : SetAt ρ i (.va (.list ds)) ρ') (q : Ψ (.list ds) ρ') : ∃ a ρ1, Fz ρ (.al i) (.d a) ρ1 ∧ Ψ a ρ1 := ⟨_, _, .alc g h, q⟩
theorem c_app {R : Rs} {i : Nat} {d : D} {ds : List D} {ρ1 ρ1' ρ2 : List Sl} {Ψ : List Sl → Prop} (f : Fz ρ1 R (.d d) ρ1') (g : ρ1'[i]? = some (.ce (.lst ds))) (z : ds.length < 1000000) (t : SetAt ρ1' i (.ce (.lst (ds ++ [d]))) ρ2) (q : Ψ ρ2) :
    ∃ ds d ρ1' ρ2, Fz ρ1 R (.d d) ρ1' ∧ ρ1'[i]? = some (.ce (.lst ds)) ∧ ds.length < 1000000 ∧ SetAt ρ1' i (.ce (.lst (ds ++ [d]))) ρ2 ∧ Ψ ρ2 := ⟨_, _, _, _, f, g, z, t, q⟩
theorem c_iiv {f : Int → Int → Bool} {s1 s2 : Sl} {i j : Int} {Ψ : D → Prop} (h1 : s1 = .va (.int i)) (h2 : s2 = .va (.int j)) (q : Ψ (.bool (f i j))) : ∃ d, cII (fun i j => .bool (f i j)) s1 s2 d ∧ Ψ d := ⟨_, ⟨i, j, h1, h2, rfl⟩, q⟩
theorem c_ds0 {Ψ : List D → Prop} (q : Ψ []) : ∃ ds : List D, ([] : List Ar) = ds.map Ar.d ∧ ds.length ≤ 1000000 ∧ Ψ ds := ⟨[], rfl, by decide, q⟩
theorem c_ds1 {d1 : D} {Ψ : List D → Prop} (q : Ψ [d1]) : ∃ ds : List D, [Ar.d d1] = ds.map .d ∧ ds.length ≤ 1000000 ∧ Ψ ds := ⟨[d1], rfl, by simp, q⟩
theorem c_ds2 {d1 d2 : D} {Ψ : List D → Prop} (q : Ψ [d1, d2]) : ∃ ds : List D, [Ar.d d1, Ar.d d2] = ds.map .d ∧ ds.length ≤ 1000000 ∧ Ψ ds := ⟨[d1, d2], rfl, by simp, q⟩
theorem c_ds3 {d1 d2 d3 : D} {Ψ : List D → Prop} (q : Ψ [d1, d2, d3]) : ∃ ds : List D, [Ar.d d1, Ar.d d2, Ar.d d3] = ds.map .d ∧ ds.length ≤ 1000000 ∧ Ψ ds := ⟨[d1, d2, d3], rfl, by simp, q⟩
theorem c_ii {f : Int → Int → D} {s1 s2 : Sl} {i j : Int} {Ψ : D → Prop} (h1 : s1 = .va (.int i)) (h2 : s2 = .va (.int j)) (q : Ψ (f i j)) : ∃ d, cII f s1 s2 d ∧ Ψ d := ⟨_, ⟨i, j, h1, h2, rfl⟩, q⟩
theorem c_iib {f : Int → Int → Bool} {s1 s2 : Sl} {i j : Int} {Ψ : Bool → Prop} (h1 : s1 = .va (.int i)) (h2 : s2 = .va (.int j)) (q : Ψ (f i j)) : ∃ b, cII (fun i j => .bool (f i j)) s1 s2 (.bool b) ∧ Ψ b := ⟨_, ⟨i, j, h1, h2, rfl⟩, q⟩
theorem c_iic {P : Int → Int → Prop} {f : Int → Int → D} {s1 s2 : Sl} {i j : Int} {Ψ : D → Prop} (h1 : s1 = .va (.int i)) (h2 : s2 = .va (.int j)) (p : P i j) (q : Ψ (f i j)) : ∃ d, cIIc P f s1 s2 d ∧ Ψ d := ⟨_, ⟨i, j, h1, h2, p, rfl⟩, q⟩
theorem c_ix {s1 s2 : Sl} {ds : List D} {n : Int} {d : D} {Ψ : D → Prop} (h1 : slSq s1 = some ds) (h2 : s2 = .va (.int n)) (h3 : atI ds n = some d) (q : Ψ d) : ∃ d, cIx s1 s2 d ∧ Ψ d := ⟨_, ⟨ds, n, h1, h2, h3⟩, q⟩
theorem c_len {s1 : Sl} {ds : List D} {Ψ : D → Prop} (h1 : slSq s1 = some ds) (q : Ψ (.int ds.length)) : ∃ d, cLen s1 d ∧ Ψ d := ⟨_, ⟨ds, h1, rfl⟩, q⟩
theorem c_int1 {s1 : Sl} {i : Int} {Ψ : D → Prop} (h1 : s1 = .va (.int i)) (q : Ψ (.int i)) : ∃ d, cInt1 s1 d ∧ Ψ d := ⟨_, ⟨i, h1, rfl⟩, q⟩
theorem c_abs {s1 : Sl} {i : Int} {Ψ : D → Prop} (h1 : s1 = .va (.int i)) (q : Ψ (.int (if i < 0 then -i else i))) : ∃ d, cAbs s1 d ∧ Ψ d := ⟨_, ⟨i, h1, rfl⟩, q⟩
theorem c_items {s1 : Sl} {ds : List D} {Ψ : List D → Prop} (h1 : slInts s1 = some ds) (q : Ψ ds) : ∃ ds, cItems s1 ds ∧ Ψ ds := ⟨ds, h1, q⟩
theorem c_tup {s1 : Sl} {ds : List D} {Ψ : D → Prop} (h1 : slInts s1 = some ds) (q : Ψ (.tuple ds)) : ∃ d, cTup s1 d ∧ Ψ d := ⟨_, ⟨ds, h1, rfl⟩, q⟩
theorem c_cat {s1 s2 : Sl} {xs ys : List D} {Ψ : List D → Prop} (h1 : slLst s1 = some xs) (h2 : slLst s2 = some ys) (h3 : xs.length + ys.length ≤ 1000000) (q : Ψ (xs ++ ys)) : ∃ ds, cCat s1 s2 ds ∧ Ψ ds := ⟨_, ⟨xs, ys, h1, h2, h3, rfl⟩, q⟩
theorem c_catT {s1 s2 : Sl} {xs ys : List D} {Ψ : D → Prop} (h1 : s1 = .va (.tuple xs)) (h2 : s2 = .va (.tuple ys)) (h3 : xs.length + ys.length ≤ 1000000) (q : Ψ (.tuple (xs ++ ys))) : ∃ d, cCatT s1 s2 d ∧ Ψ d := ⟨_, ⟨xs, ys, h1, h2, h3, rfl⟩, q⟩
theorem aa_one {es : List Expr} {Ψ : List Ar → List Sl → Prop} (h : AE X e ρ fun R ρ1 => ∃ a ρ1', Fz ρ1 R a ρ1' ∧ AAs X es ρ1' fun as ρ2 => Ψ (a :: as) ρ2) (hs : starEach (e :: es) X.env = (false, eval e X.env) :: starEach es X.env := by rfl) : AAs X (e :: es) ρ Ψ := aa_cons h hs
theorem c_box0 {R2 : Rs} {i : Nat} {d x y : D} {ρ2 ρ3 : List Sl} {Ψ : List Sl → Prop} (h : rsSl ρ2 R2 = .va (.int 0)) (g : ρ2[i]? = some (.ce (.lst [x, y]))) (t : SetAt ρ2 i (.ce (.lst [d, y])) ρ3) (q : Ψ ρ3) :
    ∃ ds n j ρ3, rsSl ρ2 R2 = .va (.int n) ∧ ρ2[i]? = some (.ce (.lst ds)) ∧ ixN ds.length n = some j ∧ SetAt ρ2 i (.ce (.lst (ds.set j d))) ρ3 ∧ Ψ ρ3 := ⟨_, _, 0, _, h, g, rfl, t, q⟩
theorem c_box1 {R2 : Rs} {i : Nat} {d x y : D} {ρ2 ρ3 : List Sl} {Ψ : List Sl → Prop} (h : rsSl ρ2 R2 = .va (.int 1)) (g : ρ2[i]? = some (.ce (.lst [x, y]))) (t : SetAt ρ2 i (.ce (.lst [x, d])) ρ3) (q : Ψ ρ3) :
    ∃ ds n j ρ3, rsSl ρ2 R2 = .va (.int n) ∧ ρ2[i]? = some (.ce (.lst ds)) ∧ ixN ds.length n = some j ∧ SetAt ρ2 i (.ce (.lst (ds.set j d))) ρ3 ∧ Ψ ρ3 := ⟨_, _, 1, _, h, g, rfl, t, q⟩
/-- a box that stood open is shut behind an expression -/
theorem ae_close (i : Nat) (h : AE X e ρ fun R ρ1 => ∃ (d : D) (g m : Int) (ρ2 : List Sl), R = .v d ∧ ρ1[i]? = some (.ce (.lst [.int g, .int m])) ∧ (0 ≤ g ∧ 1 ≤ m ∧ m < 4294967296) ∧ SetAt ρ1 i (.ce .box) ρ2 ∧ Φ (.v d) ρ2) : AE X e ρ Φ := by
  refine .of h.pe fun σ H Q ⟨F, ρτ, στ, hl, s, k⟩ => ?_
  refine ⟨F, ρτ, στ, hl, s, fun v H1 F1 R ρ1 e1 l1 ro ⟨d, g, m, ρ2, eR, hi, ⟨b1, b2, b3⟩, st, q⟩ => ?_⟩
  subst eR
  obtain ⟨s1, dv⟩ : StOk X.K F1 H1 (ρ1 ++ ρτ) (σ ++ στ) ∧ Rp X.K F1 v d := ro
  have hil : i < ρ1.length := (List.getElem?_eq_some_iff.mp hi).1
  have hi2 : (ρ1 ++ ρτ)[i]? = some (.ce (.lst [.int g, .int m])) := (get_left hil).trans hi
  obtain ⟨a, g1, g2, vs, g3, g4⟩ := s1.ce i _ hi2
  obtain rfl : vs = [V.int g, V.int m] := dpAll_ints (ns := [g, m]) g4
  have e0 : upd H1 a (.lst [V.int g, V.int m]) = H1 := by
    funext x
    by_cases hx : x = a
    · subst hx; rw [upd_same, g3]
    · rw [upd_ne hx]
  have := s1.setCe (o := .lst [V.int g, V.int m]) (c' := .box) hi2 g1 ⟨g, m, upd_same, b1, b2, b3⟩
  rw [e0, app_set_left hil, ← st.eq.1] at this
  exact k v H1 F1 (.v d) ρ2 e1 (st.len.trans l1) ⟨this, dv⟩ q
theorem fnP_by {P : Program} {w : World} {K : PySem.W.Frag} {mg : Str → Option Value} {base : Heap} {x : Str} {st : Stmt} {f : Addr} {fd : FuncData} {N ps : List Str} {k : Nat} {S : Spc} (Fn : Fun K x x st f fd) (Sc : FnScope N ps (defScope st)) (hm : mg x = some (.ref f)) (hb : L2.Binds K fd ps []) (hl : ps.length ≤ N.length)
    (body : ∀ (cdv : Value) (A : Around) (outer : List Env) (s : Shared) (H : Hp) (E : XK) (ds : List D) (Φ : Rs → Prop), Room k (A.deeper (envOfC x (defScope st) s.heap.objs.size f cdv)) → XOk (cxOf CX0 P w K mg base N x (defScope st) f cdv A outer s H E).nox →
      (cxOf CX0 P w K mg base N x (defScope st) f cdv A outer s H E).nox.N = N → S ds Φ → ASs (cxOf CX0 P w K mg base N x (defScope st) f cdv A outer s H E).nox k0 (defBody st) (entry ds (N.length - ps.length)) (kP Φ)) :
    FnP P w K mg base x ps (k + 1) S := fnP_of Fn Sc hm hb hl fun cdv A outer s H E ds Φ hr xo hS _ => body cdv A outer s H E ds Φ hr xo rfl hS
theorem fnB_by {P : Program} {w : World} {K : PySem.W.Frag} {mg : Str → Option Value} {base : Heap} {x : Str} {st : Stmt} {f : Addr} {fd : FuncData} {N ps : List Str} {k : Nat} {S : Spc} (Fn : Fun K x x st f fd) (Sc : FnScope N ps (defScope st)) (hm : mg x = some (.ref f)) (hb : L2.Binds K fd ps []) (hl : ps.length ≤ N.length)
    (body : ∀ (cdv : Value) (A : Around) (outer : List Env) (s : Shared) (H : Hp) (E : XK) (ds : List D) (Φ : Rs → Prop), Room k (A.deeper (envOfC x (defScope st) s.heap.objs.size f cdv)) → XOk (cxOf CX0 P w K mg base N x (defScope st) f cdv A outer s H E).nox →
      (cxOf CX0 P w K mg base N x (defScope st) f cdv A outer s H E).nox.N = N → S ds Φ → ASs (cxOf CX0 P w K mg base N x (defScope st) f cdv A outer s H E).nox k1 (defBody st) (entryB ds (N.length - ps.length)) (kB Φ)) :
    FnB P w K mg base x ps (k + 1) S := fnB_of Fn Sc hm hb hl fun cdv A outer s H E ds Φ hr xo hS _ => body cdv A outer s H E ds Φ hr xo rfl hS
end
section
variable {X : Cx} {ρ : List Sl} {Φ : Rs → List Sl → Prop} {a b : Expr} {pos : Pos}
theorem ok_eqI : OpOk X rEq (cII fun i j => .bool (decide (i = j))) := fun F H ρ σ v1 v2 s1 s2 d Q st o1 o2 ⟨i, j, e1, e2, e3⟩ k => by
  subst e1; subst e2; subst e3
  obtain rfl := dp_int o1
  obtain rfl := dp_int o2
  refine ⟨rfl, ?_⟩
  rw [show decide (V.int i = V.int j) = decide (i = j) from by rw [dec_int, Bool.eq_iff_iff]; simp]
  exact k _ H F (Same.refl F) (fun _ _ q => q) (.bl _)
theorem ok_neI : OpOk X rNe (cII fun i j => .bool (!decide (i = j))) := fun F H ρ σ v1 v2 s1 s2 d Q st o1 o2 ⟨i, j, e1, e2, e3⟩ k => by
  subst e1; subst e2; subst e3
  obtain rfl := dp_int o1
  obtain rfl := dp_int o2
  refine ⟨rfl, ?_⟩
  rw [show decide (V.int i = V.int j) = decide (i = j) from by rw [dec_int, Bool.eq_iff_iff]; simp]
  exact k _ H F (Same.refl F) (fun _ _ q => q) (.bl _)
theorem ae_add (h : AE X a ρ fun R1 ρ1 => AE X b ρ1 fun R2 ρ2 => ∃ d, (cII fun i j => .int (i + j)) (rsSl ρ2 R1) (rsSl ρ2 R2) d ∧ Φ (.v d) ρ2) : AE X (.BinOp a .Add b pos) ρ Φ := ae_bin op_add ok_I0 h
theorem ae_sub (h : AE X a ρ fun R1 ρ1 => AE X b ρ1 fun R2 ρ2 => ∃ d, (cII fun i j => .int (i - j)) (rsSl ρ2 R1) (rsSl ρ2 R2) d ∧ Φ (.v d) ρ2) : AE X (.BinOp a .Sub b pos) ρ Φ := ae_bin op_sub ok_I0 h
theorem ae_mul (h : AE X a ρ fun R1 ρ1 => AE X b ρ1 fun R2 ρ2 => ∃ d, (cIIc CMul fun i j => .int (i * j)) (rsSl ρ2 R1) (rsSl ρ2 R2) d ∧ Φ (.v d) ρ2) : AE X (.BinOp a .Mult b pos) ρ Φ := ae_bin op_mul ok_I h
theorem ae_mod (h : AE X a ρ fun R1 ρ1 => AE X b ρ1 fun R2 ρ2 => ∃ d, (cIIc (fun _ j => 0 < j) fun i j => .int (i % j)) (rsSl ρ2 R1) (rsSl ρ2 R2) d ∧ Φ (.v d) ρ2) : AE X (.BinOp a .Mod b pos) ρ Φ := ae_bin op_mod ok_I h
theorem ae_fdv (h : AE X a ρ fun R1 ρ1 => AE X b ρ1 fun R2 ρ2 => ∃ d, (cIIc CDiv fun i j => .int (i / j)) (rsSl ρ2 R1) (rsSl ρ2 R2) d ∧ Φ (.v d) ρ2) : AE X (.BinOp a .FloorDiv b pos) ρ Φ := ae_bin op_fdiv ok_I h
theorem ae_pow (h : AE X a ρ fun R1 ρ1 => AE X b ρ1 fun R2 ρ2 => ∃ d, (cIIc CPow fun i j => .int (i ^ j.toNat)) (rsSl ρ2 R1) (rsSl ρ2 R2) d ∧ Φ (.v d) ρ2) : AE X (.BinOp a .Pow b pos) ρ Φ := ae_bin op_pow ok_I h
theorem ae_addT (h : AE X a ρ fun R1 ρ1 => AE X b ρ1 fun R2 ρ2 => ∃ d, (cCatT) (rsSl ρ2 R1) (rsSl ρ2 R2) d ∧ Φ (.v d) ρ2) : AE X (.BinOp a .Add b pos) ρ Φ := ae_bin op_catA ok_catT h
theorem ae_addL (h : AE X a ρ fun R1 ρ1 => AE X b ρ1 fun R2 ρ2 => ∃ ds, cCat (rsSl ρ2 R1) (rsSl ρ2 R2) ds ∧ Φ (.c (.lst ds)) ρ2) : AE X (.BinOp a .Add b pos) ρ Φ := ae_binL op_cat ok_cat h
theorem at_gt {Φ : Bool → List Sl → Prop} (h : AE X a ρ fun R1 ρ1 => AE X b ρ1 fun R2 ρ2 => ∃ k, cII (fun i j => .bool (decide (j < i))) (rsSl ρ2 R1) (rsSl ρ2 R2) (.bool k) ∧ Φ k ρ2) : AT X (.Compare a [.Gt] [b] pos) ρ Φ := at_cmp op_gt ok_B0 (nomark _) h
theorem ae_gt (h : AE X a ρ fun R1 ρ1 => AE X b ρ1 fun R2 ρ2 => ∃ d, cII (fun i j => .bool (decide (j < i))) (rsSl ρ2 R1) (rsSl ρ2 R2) d ∧ Φ (.v d) ρ2) : AE X (.Compare a [.Gt] [b] pos) ρ Φ := ae_cmp op_gt ok_B0 (nomark _) h
theorem at_ge {Φ : Bool → List Sl → Prop} (h : AE X a ρ fun R1 ρ1 => AE X b ρ1 fun R2 ρ2 => ∃ k, cII (fun i j => .bool (decide (j ≤ i))) (rsSl ρ2 R1) (rsSl ρ2 R2) (.bool k) ∧ Φ k ρ2) : AT X (.Compare a [.GtE] [b] pos) ρ Φ := at_cmp op_ge ok_B0 (nomark _) h
theorem ae_ge (h : AE X a ρ fun R1 ρ1 => AE X b ρ1 fun R2 ρ2 => ∃ d, cII (fun i j => .bool (decide (j ≤ i))) (rsSl ρ2 R1) (rsSl ρ2 R2) d ∧ Φ (.v d) ρ2) : AE X (.Compare a [.GtE] [b] pos) ρ Φ := ae_cmp op_ge ok_B0 (nomark _) h
theorem at_lt {Φ : Bool → List Sl → Prop} (h : AE X a ρ fun R1 ρ1 => AE X b ρ1 fun R2 ρ2 => ∃ k, cII (fun i j => .bool (decide (i < j))) (rsSl ρ2 R1) (rsSl ρ2 R2) (.bool k) ∧ Φ k ρ2) : AT X (.Compare a [.Lt] [b] pos) ρ Φ := at_cmp op_lt ok_B0 (nomark _) h
theorem ae_lt (h : AE X a ρ fun R1 ρ1 => AE X b ρ1 fun R2 ρ2 => ∃ d, cII (fun i j => .bool (decide (i < j))) (rsSl ρ2 R1) (rsSl ρ2 R2) d ∧ Φ (.v d) ρ2) : AE X (.Compare a [.Lt] [b] pos) ρ Φ := ae_cmp op_lt ok_B0 (nomark _) h
theorem at_le {Φ : Bool → List Sl → Prop} (h : AE X a ρ fun R1 ρ1 => AE X b ρ1 fun R2 ρ2 => ∃ k, cII (fun i j => .bool (decide (i ≤ j))) (rsSl ρ2 R1) (rsSl ρ2 R2) (.bool k) ∧ Φ k ρ2) : AT X (.Compare a [.LtE] [b] pos) ρ Φ := at_cmp op_le ok_B0 (nomark _) h
theorem ae_le (h : AE X a ρ fun R1 ρ1 => AE X b ρ1 fun R2 ρ2 => ∃ d, cII (fun i j => .bool (decide (i ≤ j))) (rsSl ρ2 R1) (rsSl ρ2 R2) d ∧ Φ (.v d) ρ2) : AE X (.Compare a [.LtE] [b] pos) ρ Φ := ae_cmp op_le ok_B0 (nomark _) h
theorem at_eqI {Φ : Bool → List Sl → Prop} (h : AE X a ρ fun R1 ρ1 => AE X b ρ1 fun R2 ρ2 => ∃ k, cII (fun i j => .bool (decide (i = j))) (rsSl ρ2 R1) (rsSl ρ2 R2) (.bool k) ∧ Φ k ρ2) : AT X (.Compare a [.Eq] [b] pos) ρ Φ := at_cmp op_eq ok_eqI (nomark _) h
theorem ae_eqI (h : AE X a ρ fun R1 ρ1 => AE X b ρ1 fun R2 ρ2 => ∃ d, cII (fun i j => .bool (decide (i = j))) (rsSl ρ2 R1) (rsSl ρ2 R2) d ∧ Φ (.v d) ρ2) : AE X (.Compare a [.Eq] [b] pos) ρ Φ := ae_cmp op_eq ok_eqI (nomark _) h
theorem at_neI {Φ : Bool → List Sl → Prop} (h : AE X a ρ fun R1 ρ1 => AE X b ρ1 fun R2 ρ2 => ∃ k, cII (fun i j => .bool (!decide (i = j))) (rsSl ρ2 R1) (rsSl ρ2 R2) (.bool k) ∧ Φ k ρ2) : AT X (.Compare a [.NotEq] [b] pos) ρ Φ := at_cmp op_ne ok_neI (nomark _) h
theorem ae_neI (h : AE X a ρ fun R1 ρ1 => AE X b ρ1 fun R2 ρ2 => ∃ d, cII (fun i j => .bool (!decide (i = j))) (rsSl ρ2 R1) (rsSl ρ2 R2) d ∧ Φ (.v d) ρ2) : AE X (.Compare a [.NotEq] [b] pos) ρ Φ := ae_cmp op_ne ok_neI (nomark _) h
end
end Ab
namespace Ab
open PySem PySem.Spec PyProof.Rows L2
section
variable {X : Cx} {ρ : List Sl} {Φ : Rs → List Sl → Prop} {κ : Nat → Bool} {k : Ks} {a b e : Expr} {pos : Pos}
/-- x, y = a, b -/
theorem as_par (xo : XOk X) {N : List Str} {i j : Nat} {x y : Str} {px py pt pos : Pos} {kt k2 pt2} (hX : X.N = N) (hi : At N i x) (hj : At N j y)
    (h : AE X a ρ fun R ρ1 => ∃ r1 ρ1', Rets ρ1 R r1 ρ1' ∧ AE X b ρ1' fun R2 ρ2 => ∃ r2 ρ2', Rets ρ2 R2 r2 ρ2' ∧ ∃ ρ3 ρ4, SetAt ρ2' i (outSl r1) ρ3 ∧ SetAt ρ3 j (outSl r2) ρ4 ∧ k.nx ρ4)
    (hij : i ≠ j := by decide) (hki : κ i = false := by rfl) (hkj : κ j = false := by rfl) (hx : X.env.scope.names.lookup x = some .local := by rfl) (hy : X.env.scope.names.lookup y = some .local := by rfl)
    (hw : swappedStores [.Tuple [.Name x px, .Name y py] kt pt] (.Tuple [a, b] k2 pt2) X.env = pure (some [x, y]) := by rfl)
    (hs : swapsWithSole [.Tuple [.Name x px, .Name y py] kt pt] (.Tuple [a, b] k2 pt2) pos.line X.env = pure false := by rfl)
    (h1 : starEach [a, b] X.env = (false, eval a X.env) :: starEach [b] X.env := by rfl) (h2 : starEach [b] X.env = (false, eval b X.env) :: starEach [] X.env := by rfl) :
    AS X κ (.Assign [.Tuple [.Name x px, .Name y py] kt pt] (.Tuple [a, b] k2 pt2) pos) ρ k := by
  refine .of (ps_par xo.calm xo.nd (hX ▸ hi.get) (hX ▸ hj.get) hij hx hy (pa_cons (pe_any (e := a)) (pa_cons (pe_any (e := b)) pa_nil h2) h1) hw hs) fun D σ H ⟨F, ρτ, στ, hl, s, n, rest⟩ => ?_
  refine ⟨ρ, _, h, F, ρτ, στ, hl, s, fun v H1 F1 R ρ1 e1 l1 ro ⟨r1, ρ1', q1, hb⟩ => ?_⟩
  obtain ⟨l1', s1⟩ := q1.ok ro l1
  refine ⟨ρ1', _, hb, F1, ρτ ++ [outSl r1], στ ++ [some v], l1', s1, fun w H2 F2 R2 ρ2 e2 l2 ro2 ⟨r2, ρ2', q2, ρ3, ρ4, t1, t2, hk⟩ => ?_⟩
  obtain ⟨l2', s2⟩ := q2.ok ro2 l2
  refine ⟨v, w, rfl, ?_⟩
  have hτ : ρτ.length = στ.length := by
    have := s.len
    simp only [List.length_append] at this
    omega
  have s2' : StOk X.K F2 H2 (ρ2' ++ (ρτ ++ outSl r1 :: [outSl r2])) (σ ++ (στ ++ some v :: [some w])) := by
    simpa using s2
  have s3 := s2'.put2 l2' hτ t1.eq.2
  rw [← t1.eq.1] at s3
  have l3 : ρ3.length = (σ.set i (some v)).length := by rw [t1.len, List.length_set]; exact l2'
  have s4 := StOk.put s3 l3 t2.eq.2
  rw [← t2.eq.1] at s4
  exact n _ H2 F2 ρ4 (e1.trans e2) (by rw [List.length_set, List.length_set]) (by rw [t2.len, l3, List.length_set]) ((kept_set hki).trans (kept_set hkj)) s4 hk
theorem c_par {i j : Nat} {r1 r2 : Rs} {ρ3 ρ4 : List Sl} {Ψ : List Sl → Prop} (t1 : SetAt ρ i (outSl r1) ρ3) (t2 : SetAt ρ3 j (outSl r2) ρ4) (q : Ψ ρ4) : ∃ ρ3 ρ4, SetAt ρ i (outSl r1) ρ3 ∧ SetAt ρ3 j (outSl r2) ρ4 ∧ Ψ ρ4 := ⟨_, _, t1, t2, q⟩
theorem blk_of {N : List Str} {sc scope : Scope} {own : List (Str × Nat)} (hX : X.N = N) (hs : X.env.scope = sc)
    (h : scope.kind = .function ∧ (∀ y ∈ scope.names, scope.names.lookup y.1 = some y.2) ∧ (∀ p ∈ own, N[p.2]? = some p.1) ∧ (∀ y ∈ scope.names, y.2 = .free → sc.names.lookup y.1 = some .cell ∨ sc.names.lookup y.1 = some .free) ∧ (∀ y ∈ scope.names, y.2 = .local ∨ y.2 = .cell → y.1 ∈ own.map (·.1) ∨ y.1 ∉ N)) :
    BlkOk X.N X.env.scope scope own := by
  rw [hX, hs]
  exact ⟨h.1, h.2.1, h.2.2.1, h.2.2.2.1, h.2.2.2.2⟩
/-- where ways meet: P is known behind -/
theorem as_cut {st : Stmt} (P : List Sl → Prop) (h : AS X κ st ρ { k with nx := P }) (t : ∀ ρ', P ρ' → k.nx ρ') : AS X κ st ρ k :=
  .of h.ps fun D σ H ⟨F, ρτ, στ, hl, s, n, rest⟩ => ⟨F, ρτ, στ, hl, s, fun σ' H' F' ρ' e1 e2 l kp s' q => n σ' H' F' ρ' e1 e2 l kp s' (t ρ' q), rest⟩
theorem seq_nat {n : Nat} {r : Int} (h0 : 0 ≤ r) (h1 : r < n) : seqIndex? r n = some r.toNat := by
  have h2 : ¬ r < 0 := by omega
  simp only [seqIndex?, h2, if_false]
  rw [if_pos (by simp only [Bool.and_eq_true, decide_eq_true_eq]; exact ⟨h0, h1⟩)]
theorem perm_erase {α : Type} : ∀ (l : List α) (i : Nat) (h : i < l.length), (l[i] :: l.eraseIdx i).Perm l
  | x :: l, 0, _ => by simp
  | x :: l, i + 1, h => by
    simp only [List.getElem_cons_succ, List.eraseIdx_cons_succ]
    exact (List.Perm.swap x _ _).trans ((perm_erase l i (by simpa using h)).cons x)
theorem atI_nat {α : Type} {xs : List α} {r : Int} (h0 : 0 ≤ r) (h1 : r < xs.length) : ∃ x, atI xs r = some x ∧ x ∈ xs := by
  have h2 : r.toNat < xs.length := by omega
  refine ⟨xs[r.toNat], ?_, List.getElem_mem h2⟩
  unfold atI ixN
  rw [if_pos h0, if_pos h1]
  exact List.getElem?_eq_getElem h2
end
end Ab
namespace Ab
open PySem PySem.Spec PyProof.Rows L2
theorem get_map {α β : Type} {xs : List α} {g : α → β} {i : Nat} {d : β} (h : (xs.map g)[i]? = some d) : ∃ x, xs[i]? = some x ∧ d = g x := by
  rw [List.getElem?_map] at h
  cases q : xs[i]? with
  | none => rw [q] at h; cases h
  | some x => rw [q] at h; exact ⟨x, rfl, (Option.some.inj h).symm⟩
theorem take_next {α : Type} {xs : List α} {i : Nat} {x : α} (h : xs[i]? = some x) : xs.take (i + 1) = xs.take i ++ [x] := by
  rw [List.take_add_one, h]; rfl
section
variable {X : Cx} {ρ : List Sl} {Φ : Rs → List Sl → Prop} {tg iter elt tg1 iter1 : Expr} {ifs ifs1 : List Expr} {sc : Scope} {pos : Pos} {own : List (Str × Nat)}
theorem AI.mono {Φ Ψ : List D → List Sl → Prop} (h : AI X tg iter ρ Φ) (m : ∀ ds ρ', Φ ds ρ' → Ψ ds ρ') : AI X tg iter ρ Ψ :=
  ⟨⟨fun pins s σ H R I ⟨F, ρτ, στ, hl, st, kk⟩ => h.pi.run pins s σ H R I ⟨F, ρτ, στ, hl, st, fun J H' F' ds ρ1 e l s' w q => kk J H' F' ds ρ1 e l s' w (m ds ρ1 q)⟩⟩⟩
def LcF (α : Type) (X : Cx) (sc : Scope) (own : List (Str × Nat)) (tg : Expr) (ifs : List Expr) (elt : Expr) (Φ : Rs → List Sl → Prop) (ds : List D) (ρ1 : List Sl) : Prop := ∃ (xs : List α) (g : α → D) (c : α → Bool) (f : α → D) (ρw : List Sl), ds = xs.map g ∧ xs.length < 1000000 ∧ Wipes ρ1 (own.map (·.2)) ρw ∧ (∀ j ∈ own.map (·.2), notCe (ρ1.getD j .no) = true) ∧
      (∀ x ∈ xs, ∃ ρ3, AGb X sc (kC (own.map (·.2))) tg (g x) ρw ρ3 ∧ ATb X sc ifs ρ3 fun b ρ4 =>
        (b = true → c x = true ∧ AEb X sc elt ρ4 fun R ρ5 => ∃ ρ6, Fz ρ5 R (.d (f x)) ρ6 ∧ Wipes ρ6 (own.map (·.2)) ρw) ∧ (b = false → c x = false ∧ Wipes ρ4 (own.map (·.2)) ρw)) ∧
      Φ (.c (.lst ((xs.filter c).map f))) ρ1
theorem lcF_P {α : Type} (ds : List D) (ρ1 : List Sl) (q : LcF α X sc own tg ifs elt Φ ds ρ1) : LcP X sc own tg ifs elt Φ ds ρ1 := by
  obtain ⟨xs, g, c, f, ρw, rfl, hz, wi, nc, turn, hq⟩ := q
  refine ⟨fun i acc => acc = ((xs.take i).filter c).map f, ρw, wi, nc, by simp, ?_, ?_⟩
  · rintro i d acc hd rfl
    obtain ⟨x, hx, rfl⟩ := get_map hd
    have hi : i < xs.length := (List.getElem?_eq_some_iff.mp hx).1
    obtain ⟨ρ3, ag, at_⟩ := turn x (List.mem_of_getElem? hx)
    refine ⟨ρ3, ag, fun s H C cl fp => ⟨⟨fun pins s2 σ2 H2 Q2 I2 ⟨F2, ρτ2, στ2, hl2, st2, k2⟩ => (at_ s H C cl fp).pt.run pins s2 σ2 H2 Q2 I2 ⟨F2, ρτ2, στ2, hl2, st2, fun b H3 F3 ρ4 e3 l3 s3 ⟨q1, q2⟩ => k2 b H3 F3 ρ4 e3 l3 s3 ⟨fun hb => ?_, fun hb => ?_⟩⟩⟩⟩⟩
    · obtain ⟨hc, el⟩ := q1 hb
      refine fun s H C cl fp => (el s H C cl fp).mono fun R ρ5 ⟨ρ6, fz, w6⟩ => ⟨_, ρ6, fz, w6, ?_, ?_⟩
      · simp only [List.length_map]
        have := List.length_filter_le c (xs.take i)
        have := List.length_take_le i xs
        omega
      · show _ = _
        rw [take_next hx, List.filter_append, List.map_append]
        simp [List.filter_cons, hc]
    · obtain ⟨hc, w4⟩ := q2 hb
      refine ⟨w4, ?_⟩
      show _ = _
      rw [take_next hx, List.filter_append, List.map_append]
      simp [List.filter_cons, hc]
  · rintro acc rfl
    rw [List.length_map, List.take_length]
    exact hq
theorem ae_lcF (α : Type) (xo : XOk X) (h : AI X tg iter ρ (LcF α X sc own tg ifs elt Φ)) (ok : BlkOk X.N X.env.scope sc own) (hs : ∀ x, foldedSetIterable iter X.env x = pure x := by intro _; rfl) : AE X (.ListComp elt [⟨tg, iter, ifs, 0⟩] sc pos) ρ Φ :=
  ae_lc xo (h.mono lcF_P) ok hs
theorem as_stF (α : Type) {κ : Nat → Bool} {k : Ks} {N : List Str} {i : Nat} {x : Str} {px spos : Pos} (xo : XOk X) (hX : X.N = N) (hA : At N i x)
    (h : AI X tg iter ρ (LcF α X sc own tg ifs elt fun R ρ' => ∃ ρ'', Puts ρ' i R ρ'' ∧ k.nx ρ''))
    (ok : BlkOk X.N X.env.scope sc own) (hk : κ i = false := by rfl) (hx : X.env.scope.names.lookup x = some .local := by rfl)
    (hsw : swapsWith (.ListComp elt [⟨tg, iter, ifs, 0⟩] sc pos) (some (.Name x px)) spos.line X.env = pure true := by rfl)
    (hs : ∀ x, foldedSetIterable iter X.env x = pure x := by intro _; rfl) : AS X κ (.Assign [.Name x px] (.ListComp elt [⟨tg, iter, ifs, 0⟩] sc pos) spos) ρ k :=
  as_stLc xo hX hA.get (h.mono lcF_P) ok hk hx hsw hs
def LcF2 (α β : Type) (X : Cx) (sc : Scope) (own : List (Str × Nat)) (vs1 : List Nat) (tg tg1 iter1 : Expr) (ifs1 : List Expr) (elt : Expr) (Φ : Rs → List Sl → Prop) (ds : List D) (ρ1 : List Sl) : Prop := ∃ (xs : List α) (g : α → D) (ρw : List Sl) (ys : α → List β) (g1 : α → β → D) (c : α → β → Bool) (f : α → β → D), ds = xs.map g ∧ Wipes ρ1 (own.map (·.2)) ρw ∧ (∀ j ∈ own.map (·.2), notCe (ρ1.getD j .no) = true) ∧
      (xs.flatMap fun x => ys x).length < 1000000 ∧
      (∀ x ∈ xs, ∃ ρ3, AGb X sc (kC (own.map (·.2))) tg (g x) ρw ρ3 ∧
        AIb X sc tg1 iter1 ρ3 fun es ρ5 => es = (ys x).map (g1 x) ∧ ∃ ρv, Wipes ρ5 vs1 ρv ∧
          (∀ y ∈ ys x, ∃ ρ6, AGb X sc (kC vs1) tg1 (g1 x y) ρv ρ6 ∧ ATb X sc ifs1 ρ6 fun b ρ7 =>
            (b = true → c x y = true ∧ AEb X sc elt ρ7 fun R ρ8 => ∃ ρ9, Fz ρ8 R (.d (f x y)) ρ9 ∧ Wipes ρ9 vs1 ρv) ∧ (b = false → c x y = false ∧ Wipes ρ7 vs1 ρv)) ∧
          Wipes ρv (own.map (·.2)) ρw) ∧
      Φ (.c (.lst (xs.flatMap fun x => ((ys x).filter (c x)).map (f x)))) ρ1
theorem lcF2_P {α β : Type} {vs1 : List Nat} (ds : List D) (ρ1 : List Sl) (q : LcF2 α β X sc own vs1 tg tg1 iter1 ifs1 elt Φ ds ρ1) : LcP2 X sc own vs1 tg [] tg1 iter1 ifs1 elt Φ ds ρ1 := by
  obtain ⟨xs, g, ρw, ys, g1, c, f, rfl, wi, nc, hz, turn, hq⟩ := q
  have lenF : ∀ (l : List α), (l.flatMap fun x => ((ys x).filter (c x)).map (f x)).length ≤ (l.flatMap fun x => ys x).length := by
    intro l
    induction l with
    | nil => simp
    | cons a l ih =>
      simp only [List.flatMap_cons, List.length_append, List.length_map]
      have := List.length_filter_le (c a) (ys a)
      omega
  refine ⟨fun i acc => acc = (xs.take i).flatMap fun x => ((ys x).filter (c x)).map (f x), ρw, wi, nc, by simp, ?_, ?_⟩
  · rintro i d acc hd rfl
    obtain ⟨x, hx, rfl⟩ := get_map hd
    obtain ⟨ρ3, ag, ai⟩ := turn x (List.mem_of_getElem? hx)
    refine ⟨ρ3, ag, fun s H C cl fp => ats_nil ⟨fun _ => fun s H C cl fp => ⟨⟨fun pins s2 σ2 H2 R2 I2 ⟨F2, ρτ2, στ2, hl2, st2, k2⟩ => (ai s H C cl fp).pi.run pins s2 σ2 H2 R2 I2 ⟨F2, ρτ2, στ2, hl2, st2, fun J3 H3 F3 es ρ5 e3 l3 s3 w3 ⟨ee, ρv, wv, turn1, wb⟩ => k2 J3 H3 F3 es ρ5 e3 l3 s3 w3 ?_⟩⟩⟩, fun hb => by cases hb⟩⟩
    subst ee
    have len2 : ((xs.take (i + 1)).flatMap fun x => ys x).length ≤ (xs.flatMap fun x => ys x).length := by
      conv => rhs; rw [← List.take_append_drop (i + 1) xs]
      rw [List.flatMap_append, List.length_append]
      omega
    rw [take_next hx, List.flatMap_append, List.length_append] at len2
    have len3 := lenF (xs.take i)
    have len4 : ([x].flatMap fun x => ys x).length = (ys x).length := by simp
    refine ⟨fun j acc => acc = ((xs.take i).flatMap fun x => ((ys x).filter (c x)).map (f x)) ++ (((ys x).take j).filter (c x)).map (f x), ρv, wv, by simp, ?_, wb, ?_⟩
    · rintro j d acc hd rfl
      obtain ⟨y, hy, rfl⟩ := get_map hd
      have hj : j < (ys x).length := (List.getElem?_eq_some_iff.mp hy).1
      obtain ⟨ρ6, ag, at_⟩ := turn1 y (List.mem_of_getElem? hy)
      refine ⟨ρ6, ag, fun s H C cl fp => ⟨⟨fun pins s2 σ2 H2 Q2 I2 ⟨F2, ρτ2, στ2, hl2, st2, k2⟩ => (at_ s H C cl fp).pt.run pins s2 σ2 H2 Q2 I2 ⟨F2, ρτ2, στ2, hl2, st2, fun b H3 F3 ρ4 e3 l3 s3 ⟨q1, q2⟩ => k2 b H3 F3 ρ4 e3 l3 s3 ⟨fun hb => ?_, fun hb => ?_⟩⟩⟩⟩⟩
      · obtain ⟨hc, el⟩ := q1 hb
        refine fun s H C cl fp => (el s H C cl fp).mono fun R ρ5 ⟨ρ9, fz, w9⟩ => ⟨_, ρ9, fz, w9, ?_, ?_⟩
        · rw [List.length_append, List.length_map]
          have := List.length_filter_le (c x) ((ys x).take j)
          have := List.length_take_le j (ys x)
          omega
        · show _ = _
          rw [take_next hy, List.filter_append, List.map_append]
          simp [List.filter_cons, hc]
      · obtain ⟨hc, w4⟩ := q2 hb
        refine ⟨w4, ?_⟩
        show _ = _
        rw [take_next hy, List.filter_append, List.map_append]
        simp [List.filter_cons, hc]
    · rintro acc rfl
      show _ = _
      rw [List.length_map, List.take_length, take_next hx, List.flatMap_append]
      simp
  · rintro acc rfl
    rw [List.length_map, List.take_length]
    exact hq
theorem ae_lcF2 (α β : Type) {vs1 : List Nat} (xo : XOk X) (h : AI X tg iter ρ (LcF2 α β X sc own vs1 tg tg1 iter1 ifs1 elt Φ)) (ok : BlkOk X.N X.env.scope sc own) (hv : ∀ i ∈ vs1, i ∈ own.map (·.2)) (hs : ∀ x, foldedSetIterable iter X.env x = pure x := by intro _; rfl) (hs1 : ∀ env x, foldedSetIterable iter1 env x = pure x := by intro _ _; rfl) :
    AE X (.ListComp elt [⟨tg, iter, [], 0⟩, ⟨tg1, iter1, ifs1, 0⟩] sc pos) ρ Φ := ae_lc2 xo (h.mono lcF2_P) ok hv hs hs1
theorem as_stF2 (α β : Type) {κ : Nat → Bool} {k : Ks} {N : List Str} {i : Nat} {x : Str} {px spos : Pos} {vs1 : List Nat} (xo : XOk X) (hX : X.N = N) (hA : At N i x)
    (h : AI X tg iter ρ (LcF2 α β X sc own vs1 tg tg1 iter1 ifs1 elt fun R ρ' => ∃ ρ'', Puts ρ' i R ρ'' ∧ k.nx ρ''))
    (ok : BlkOk X.N X.env.scope sc own) (hv : ∀ i ∈ vs1, i ∈ own.map (·.2)) (hk : κ i = false := by rfl) (hx : X.env.scope.names.lookup x = some .local := by rfl)
    (hsw : swapsWith (.ListComp elt [⟨tg, iter, [], 0⟩, ⟨tg1, iter1, ifs1, 0⟩] sc pos) (some (.Name x px)) spos.line X.env = pure true := by rfl)
    (hs : ∀ x, foldedSetIterable iter X.env x = pure x := by intro _; rfl) (hs1 : ∀ env x, foldedSetIterable iter1 env x = pure x := by intro _ _; rfl) : AS X κ (.Assign [.Name x px] (.ListComp elt [⟨tg, iter, [], 0⟩, ⟨tg1, iter1, ifs1, 0⟩] sc pos) spos) ρ k :=
  as_stLc2 xo hX hA.get (h.mono lcF2_P) ok hv hk hx hsw hs hs1
theorem fz_eq {d d' : D} (e : d = d') : Fz ρ (.v d) (.d d') ρ := e ▸ .v
/-- a target of two names -/
theorem ag_pair {κ : Nat → Bool} {ρ1 ρ' : List Sl} {N : List Str} {i j : Nat} {x y : Str} {px py : Pos} {kk : Nat} {d e : D} (hX : X.N = N) (hi : At N i x) (hj : At N j y) (h1 : SetAt ρ i (.va d) ρ1) (h2 : SetAt ρ1 j (.va e) ρ') (xo : XOk X)
    (hki : κ i = false := by rfl) (hkj : κ j = false := by rfl) (hx : Loc X.env.scope x := by first | exact Or.inl rfl | exact Or.inr rfl) (hy : Loc X.env.scope y := by first | exact Or.inl rfl | exact Or.inr rfl)
    (hf : X.fn x = true ∨ X.env.scope.names.lookup x = some .local := by first | exact .inl rfl | exact .inr rfl) (hg : X.fn y = true ∨ X.env.scope.names.lookup y = some .local := by first | exact .inl rfl | exact .inr rfl)
    (hs : (assignEach ([.Name x px, .Name y py]) X.env).map (·.2) = assign (.Name x px) X.env :: (assignEach [.Name y py] X.env).map (·.2) := by rfl) (hs2 : (assignEach ([.Name y py]) X.env).map (·.2) = assign (.Name y py) X.env :: (assignEach [] X.env).map (·.2) := by rfl)
    (hn : (assignEach [.Name x px, .Name y py] X.env).length = 2 := by rfl) (hst : (assignEach [.Name x px, .Name y py] X.env).findIdx? (·.1) = none := by rfl) :
    AG X κ (.Tuple [.Name x px, .Name y py] kk pos) (.tuple [d, e]) ρ ρ' :=
  ag_tup (n := 2) (ags_cons (ag_nm hX hi h1 xo hki hx hf) (ags_cons (ag_nm hX hj h2 xo hkj hy hg) ags_nil hs2) hs) xo rfl hn hst
end
end Ab
namespace Ab
open PySem PySem.Spec PyProof.Rows
section
variable {prog : Program} {w : World} {A : Around} {E : Value → Shared → Prop} {s : Shared}
/-- what stands in a list or a tuple, collected -/
theorem collect_tup {l : Addr} {vs : List Value} {o : Obj} {n : Nat} {Q : List Value → Shared → Prop} (ho : s.heap.get? l = some o) (hc : o.cls = .type "tuple") (hd : o.data = .seq vs.toArray n) (hz : vs.length ≤ sizeLine)
    (h : Q vs { s with heap := (s.heap.push (seqObj "list" #[] 0)).update s.heap.objs.size (Obj.mapSeq (· ++ vs.toArray)) }) : wpAny (model prog w) A (collect (.ref l)) Q E s := by
  unfold collect
  refine wpAny_bind (wpAny_runValue (codeAny_builtin entry_proto_collect' ?_))
  show wpAny _ _ (do again (.builtin "list.__iadd__" ⟨[← newList [], .ref l], []⟩)) _ _ s
  refine wpAny_bind (wpAny_newList (wpAny_pure ⟨Code.quiet_builtin _ (by decide +kernel), codeAny_builtin entry_list_iadd' ?_⟩))
  have hl : (s.heap.push (seqObj "list" #[] 0)).get? l = some o := Heap.get?_push_of_some _ ho
  have hn : (s.heap.push (seqObj "list" #[] 0)).get? s.heap.objs.size = some (seqObj "list" #[] 0) := Heap.get?_push_size _ rfl
  show wpAny _ _ (Builtin.List.listExtendWith (.ref s.heap.objs.size) (.ref l) (.ref s.heap.objs.size)) _ _ { s with heap := s.heap.push (seqObj "list" #[] 0) }
  unfold Builtin.List.listExtendWith
  refine wpAny_bind (wpAny_typeOf (T := "tuple") ⟨o, hl, hc⟩ ?_)
  have hb : (Builtin.List.listSameRef (.ref s.heap.objs.size) (.ref l) || Value.type "tuple" == Value.type "list" || Value.type "tuple" == Value.type "tuple") = true := by
    rw [show (Value.type "tuple" == Value.type "tuple") = true from by rfl, Bool.or_true]
  rw [if_pos hb]
  refine wpAny_bind (listItems_at hl hd ?_)
  refine wpAny_bind (listItems_at (xs := #[]) (n := 0) hn rfl ?_)
  rw [if_neg (by simp)]
  refine wpAny_bind (listUpdate_at (xs := #[]) (n := 0) hn rfl (wpAny_pure ?_) (Nat.zero_le _) (by simp only [Array.size_append, List.size_toArray, List.length_nil]; omega))
  show wpAny (model prog w) A (do
      let o ← load s.heap.objs.size
      match o.data with
      | .seq xs _ => pure xs.toList
      | _ => unsupported "internal:collect") Q E _
  refine wpAny_bind (wpAny_load (get?_update_seq hn _) ?_)
  have e : ((#[] : Array Value) ++ vs.toArray).toList = vs := by simp
  show wpAny _ _ (pure ((#[] : Array Value) ++ vs.toArray).toList) Q E _
  rw [e]
  exact wpAny_pure h
/-- sorted(t), t a tuple of fewer than 64 numbers -/
theorem sorted_tupI {l : Addr} {vs : List Value} {ns : List Int} {o : Obj} {n : Nat} {Q : Value → Shared → Prop} (ho : s.heap.get? l = some o) (hc : o.cls = .type "tuple") (hd : o.data = .seq vs.toArray n) (hI : IntsAre vs ns) (h64 : vs.length < 64)
    (h : ∀ (out : Array Value) (ns' : List Int), IntsAre out.toList ns' → ns'.Perm ns → ns'.Pairwise (· ≤ ·) → Q (.ref (s.heap.objs.size + 1)) { s with heap := sortedAll s.heap vs out }) :
    wpAny (model prog w) A (call (.builtin "sorted") [.ref l]) Q E s := by
  have hz : vs.length ≤ sizeLine := by rw [sizeLine_eq]; omega
  have e1 : ((s.heap.push (seqObj "list" #[] 0)).update s.heap.objs.size (Obj.mapSeq (· ++ vs.toArray))).objs.size = s.heap.objs.size + 1 := by rw [Heap.size_update, size_push']
  have e2 : (((s.heap.push (seqObj "list" #[] 0)).update s.heap.objs.size (Obj.mapSeq (· ++ vs.toArray))).push (seqObj "list" vs.toArray 0)).get? (s.heap.objs.size + 1) = some (seqObj "list" vs.toArray 0) := by
    have := Heap.get?_push_size ((s.heap.push (seqObj "list" #[] 0)).update s.heap.objs.size (Obj.mapSeq (· ++ vs.toArray))) (o := seqObj "list" vs.toArray 0) rfl
    rwa [e1] at this
  refine Calls.call_function_entry kind_sorted plain_sorted entry_sorted (args_sorted1 _) ?_
  unfold Builtin.«sorted»
  refine wpAny_bind (m := checkCount "sorted" 1 1 _) (wpAny_pure (wpAny_bind (collect_tup ho hc hd hz (wpAny_bind (wpAny_newList ?_)))))
  show wpAny _ _ _ _ _ { s with heap := ((s.heap.push (seqObj "list" #[] 0)).update s.heap.objs.size (Obj.mapSeq (· ++ vs.toArray))).push (seqObj "list" vs.toArray 0) }
  rw [e1]
  refine wpAny_bind (wpAny_holding (wpAny_call_entry slot_list_sort ⟨_, e2, rfl⟩ entry_list_sort (list_sort_tree e2 hI h64 fun out ns' a b c => ⟨_, rfl, ?_⟩) (args_list_sort _)))
  exact wpAny_pure ⟨_, rfl, h out ns' a b c⟩
end
end Ab
namespace Ab
open PySem PySem.Spec PyProof.Rows L2
open PySem.W (AllAlike dataLe EachIs sorted_data)

/-! ### sorted(xs), xs a list of data -/
def DS (ds : List D) : Prop := PySem.W.AllAlike ds ∧ PySem.W.Sortable ds ∧ ∀ d ∈ ds, d.canLay0 = true ∧ d.depth ≤ 64
def srt (ds : List D) : List D := ds.mergeSort (PySem.W.dataLe false id)
theorem srt_perm (ds : List D) : (srt ds).Perm ds := List.mergeSort_perm _ _
def rSortD (K : PySem.W.Frag) : List V → Hp → VK → Prop := fun vs H Q => ∃ (a : Addr) (xs : List V) (ds : List D) (R0 : V → D → Prop), vs = [V.ref a] ∧ SqL K H a xs ∧ Paired R0 xs ds ∧ (∀ x d, d ∈ ds → R0 x d → Dp K H x d) ∧ DS ds ∧
  ∀ (ys : List V) (p : Addr), Paired R0 ys (srt ds) → H p = none → Q (.ref p) (upd H p (.lst ys))
theorem each_of_paired {R0 : V → D → Prop} : ∀ {xs : List V} {us : List Value} {ds : List D}, Vals xs us → Paired R0 xs ds → PySem.W.EachIs (fun u d => ∃ x, RelV x u ∧ R0 x d) us ds
  | _, _, _, .nil, .nil => .nil
  | _, _, _, .cons r t, .cons h q => .cons ⟨_, r, h⟩ (each_of_paired t q)
theorem paired_of_each {R0 : V → D → Prop} : ∀ {us : List Value} {ds : List D}, PySem.W.EachIs (fun u d => ∃ x, RelV x u ∧ R0 x d) us ds → ∃ xs, Vals xs us ∧ Paired R0 xs ds
  | _, _, .nil => ⟨[], .nil, .nil⟩
  | _, _, .cons ⟨x, r, h⟩ t => by
    obtain ⟨xs, a, b⟩ := paired_of_each t
    exact ⟨x :: xs, .cons r a, .cons h b⟩
theorem each_imp {α β : Type} {R S : α → β → Prop} : ∀ {as : List α} {bs : List β}, (∀ a b, b ∈ bs → R a b → S a b) → PySem.W.EachIs R as bs → PySem.W.EachIs S as bs
  | _, _, _, .nil => .nil
  | _, _, m, .cons h t => .cons (m _ _ List.mem_cons_self h) (each_imp (fun a b hb => m a b (List.mem_cons_of_mem _ hb)) t)
section
variable {X : Cx}
theorem cr_sortD (hu : X.A.units + 100 < cLine) : CallR X (.builtin "sorted") (rSortD X.K) := by
  intro pins s σ H vs us Q I r h
  obtain ⟨a, xs, ds, R0, rfl, hs, hp, hR, ⟨d1, d2, d3⟩, q⟩ := h
  obtain ⟨its, rv, hl, hz⟩ := I.list hs
  rw [Vals.ref1 r]
  have e : PySem.W.EachIs (fun u d => ∃ x, RelV x u ∧ R0 x d) its ds := each_of_paired rv hp
  have er : PySem.W.EachIs (fun v b => ∃ as, Reads s.heap v (id b) as) its ds := each_imp (fun u d hd ⟨x, r, h⟩ => Dp.reads I d x u (hR x d hd h) r) e
  have hlen : ds.length = xs.length := (paired_len hp).symm
  refine sorted_data (enc := id) hl.isList e er (by simpa using d1) (by simpa using d2) (by rw [hlen]; exact hz) (fun b hb => ?_) fun out ho eo => ?_
  · have := (d3 b hb).2
    show X.A.units + 2 + b.depth < cLine
    omega
  · obtain ⟨ys, v1, p1⟩ := paired_of_each eo
    obtain ⟨ep, he'⟩ := PyProof.Rows.sortedAll_at s.heap its (List.toArray out)
    have hy : ys.length ≤ sizeLine := by
      rw [paired_len p1, List.length_mergeSort, hlen]
      exact hz
    exact ⟨.ref _, upd H (s.heap.objs.size + 1) (.lst ys), I.laid (t' := s.toks) (fun _ _ => PyProof.Rows.sortedAll_old) (Nat.le_succ _) ⟨hy, out, ep, v1, he'⟩, rfl, q ys _ p1 (I.hok.fresh (Nat.le_succ _))⟩
theorem rpAll_paired {K : PySem.W.Frag} {F : Hp} : ∀ {vs : List V} {ds : List D}, RpAll K F vs ds → Paired (Rp K F) vs ds
  | _, _, .nil => .nil
  | _, _, .cons h t => .cons h (rpAll_paired t)
theorem paired_rpAll {K : PySem.W.Frag} {F : Hp} : ∀ {vs : List V} {ds : List D}, Paired (Rp K F) vs ds → RpAll K F vs ds
  | _, _, .nil => .nil
  | _, _, .cons h t => .cons h (paired_rpAll t)
inductive cSortD (s : Sl) (es : List D) : Prop
  | mk (ds : List D) : slLst s = some ds → DS ds → es = srt ds → cSortD s es
theorem ok_sortD : C1Lk X (rSortD X.K) cSortD := fun F H ρ σ v s es Q st o ⟨ds, e, hd, ed⟩ k => by
  subst ed
  obtain ⟨a, vs, rfl, hs, ha⟩ := slLst_F st.sub o e
  refine ⟨a, vs, ds, Rp X.K F, rfl, SqL.of hs, rpAll_paired ha, fun x d hm h => rp_dp d x (hd.2.2 d hm).1 (dp_mono st.sub d x h), hd, fun ys p py hp => k p ys hp (paired_rpAll py)⟩
theorem c_sortD {s1 : Sl} {ds : List D} {Ψ : List D → Prop} (h1 : slLst s1 = some ds) (h2 : DS ds) (q : Ψ (srt ds)) : ∃ ds, cSortD s1 ds ∧ Ψ ds := ⟨_, ⟨ds, h1, h2, rfl⟩, q⟩
/-! ### sorted numbers -/
def isort (ns : List Int) : List Int := ns.mergeSort fun a b => decide (a ≤ b)
theorem isort_perm (ns : List Int) : (isort ns).Perm ns := List.mergeSort_perm _ _
theorem isort_le (ns : List Int) : (isort ns).Pairwise (· ≤ ·) := by
  have h := List.pairwise_mergeSort (le := fun a b : Int => decide (a ≤ b)) (fun a b c h g => by simp only [decide_eq_true_eq] at *; omega) (fun a b => by simp only [Bool.or_eq_true, decide_eq_true_eq]; omega) ns
  exact h.imp fun h => by simpa using h
theorem isort_eq {ns ns' : List Int} (p : ns'.Perm ns) (w : ns'.Pairwise (· ≤ ·)) : ns' = isort ns :=
  List.Perm.eq_of_pairwise (le := (· ≤ ·)) (fun a b _ _ h g => Int.le_antisymm h g) w (isort_le ns) (p.trans (isort_perm ns).symm)
def rSortTI (K : PySem.W.Frag) : List V → Hp → VK → Prop := fun vs H Q => ∃ (a : Addr) (ns : List Int), vs = [V.ref a] ∧ SqT K H a (ns.map V.int) ∧ ns.length < 64 ∧ ∀ p : Addr, H p = none → Q (.ref p) (upd H p (.lst ((isort ns).map V.int)))
theorem cr_sortTI : CallR X (.builtin "sorted") (rSortTI X.K) := by
  intro pins s σ H vs us Q I r h
  obtain ⟨a, ns, rfl, hs, h64, q⟩ := h
  obtain ⟨its, rv, ⟨o, ho, hc, n, hd⟩, _⟩ := I.tuple hs
  rw [Vals.ref1 r]
  have hi := rv.ints
  refine sorted_tupI ho hc hd hi (by rw [hi.length]; exact h64) fun out ns' h1 h2 h3 => ?_
  obtain ⟨ep, he'⟩ := PyProof.Rows.sortedAll_at s.heap its out
  have hlen : (ns'.map V.int).length ≤ sizeLine := by rw [List.length_map, h2.length_eq, sizeLine_eq]; omega
  have e := isort_eq h2 h3
  exact ⟨.ref _, upd H (s.heap.objs.size + 1) (.lst (ns'.map V.int)), I.laid (t' := s.toks) (fun _ _ => PyProof.Rows.sortedAll_old) (Nat.le_succ _) ⟨hlen, out.toList, ep, vals_of_ints h1, he'⟩, rfl, by rw [e]; exact q _ (I.hok.fresh (Nat.le_succ _))⟩
inductive cSortTI (s : Sl) (es : List D) : Prop
  | mk (ns : List Int) : s = .va (.tuple (ns.map .int)) → ns.length < 64 → es = (isort ns).map .int → cSortTI s es
theorem ok_sortTI : C1Lk X (rSortTI X.K) cSortTI := fun F H ρ σ v s es Q st o ⟨ns, e, hz, ed⟩ k => by
  subst ed; subst e
  cases (show Rp X.K F v (.tuple (ns.map .int)) from o) with
  | tup hs ha =>
    have ha' := dpAll_ints ha
    subst ha'
    exact ⟨_, ns, rfl, SqT.of (st.sub _ _ hs), hz, fun p hp => k p _ hp (ints_dpAll _)⟩
inductive cSortI (s : Sl) (es : List D) : Prop
  | mk (ns : List Int) : slLst s = some (ns.map .int) → ns.length < 64 → es = (isort ns).map .int → cSortI s es
theorem ok_sortI : C1Lk X (rSorted X.K) cSortI := fun F H ρ σ v s es Q st o ⟨ns, e, hz, ed⟩ k => by
  subst ed
  obtain ⟨a, vs, rfl, hs, ha⟩ := slLst_F st.sub o e
  have ha' := dpAll_ints ha
  subst ha'
  exact ⟨a, ns, rfl, SqL.of hs, hz, fun ns' p h1 h2 hp => k p _ hp (isort_eq h1 h2 ▸ ints_dpAll _)⟩
theorem c_sortTI {s1 : Sl} {ns : List Int} {Ψ : List D → Prop} (h1 : s1 = .va (.tuple (ns.map .int))) (h2 : ns.length < 64) (q : Ψ ((isort ns).map .int)) : ∃ ds, cSortTI s1 ds ∧ Ψ ds := ⟨_, ⟨ns, h1, h2, rfl⟩, q⟩
theorem c_sortI {s1 : Sl} {ns : List Int} {Ψ : List D → Prop} (h1 : slLst s1 = some (ns.map .int)) (h2 : ns.length < 64) (q : Ψ ((isort ns).map .int)) : ∃ ds, cSortI s1 ds ∧ Ψ ds := ⟨_, ⟨ns, h1, h2, rfl⟩, q⟩
/-! ### list(range(n)), tuple(range(n)) -/
variable {ρ : List Sl} {Φ : Rs → List Sl → Prop} {a : Expr} {p q pos qpos : Pos}
theorem rg_rp {K : PySem.W.Frag} {F : Hp} (n : Int) : RpAll K F (rgV 0 n) (Ab.intsFrom 0 n.toNat) := by
  have e : rgV 0 n = ((List.range n.toNat).map fun i : Nat => (0 : Int) + i).map V.int := by
    unfold rgV; rw [List.map_map, Int.sub_zero]; rfl
  have e2 : Ab.intsFrom 0 n.toNat = ((List.range n.toNat).map fun i : Nat => (0 : Int) + i).map PyData.int := by
    unfold Ab.intsFrom; rw [List.map_map]; rfl
  rw [e, e2]
  exact ints_dpAll _
theorem ae_listRg (xo : XOk X) (hml : X.mg "list" = none) (hmr : X.mg "range" = none) (h : AE X a ρ fun R ρ1 => ∃ n : Int, rsSl ρ1 R = .va (.int n) ∧ 0 ≤ n ∧ n ≤ 1000000 ∧ Φ (.c (.lst (Ab.intsFrom 0 n.toNat))) ρ1)
    (hgl : Gl X "list" := by rfl) (hgr : Gl X "range" := by rfl) (na : starEach [a] X.env = (false, eval a X.env) :: starEach [] X.env := by rfl)
    (nb : starEach [.Call (.Name "range" q) [a] [] qpos] X.env = (false, eval (.Call (.Name "range" q) [a] [] qpos) X.env) :: starEach [] X.env := by rfl) :
    AE X (.Call (.Name "list" p) [.Call (.Name "range" q) [a] [] qpos] [] pos) ρ Φ :=
  .of (pe_listRg xo.calm hgl hml (prg_1 hgr hmr (pe_any (e := a)) na) nb) fun σ H Q ⟨F, ρτ, στ, hl, st, k⟩ => ⟨ρ, _, h, F, ρτ, στ, hl, st, fun v H1 F1 R ρ1 e1 l1 ro ⟨n, en, b1, b2, q⟩ => by
    have o := ro.slOk l1
    rw [en] at o
    exact ⟨n, dp_int o, RgOk.of_le (by omega) (by omega) (by omega) (by omega), fun p hp => k _ _ F1 (.c (.lst _)) ρ1 e1 l1 (newL (ro.st l1) hp (rg_rp n)) q⟩⟩
theorem ae_tupRg (xo : XOk X) (hml : X.mg "tuple" = none) (hmr : X.mg "range" = none) (h : AE X a ρ fun R ρ1 => ∃ n : Int, rsSl ρ1 R = .va (.int n) ∧ 0 ≤ n ∧ n ≤ 1000000 ∧ Φ (.v (.tuple (Ab.intsFrom 0 n.toNat))) ρ1)
    (hgl : Gl X "tuple" := by rfl) (hgr : Gl X "range" := by rfl) (na : starEach [a] X.env = (false, eval a X.env) :: starEach [] X.env := by rfl)
    (nb : starEach [.Call (.Name "range" q) [a] [] qpos] X.env = (false, eval (.Call (.Name "range" q) [a] [] qpos) X.env) :: starEach [] X.env := by rfl) :
    AE X (.Call (.Name "tuple" p) [.Call (.Name "range" q) [a] [] qpos] [] pos) ρ Φ :=
  .of (pe_tupRg xo.calm hgl hml (prg_1 hgr hmr (pe_any (e := a)) na) nb) fun σ H Q ⟨F, ρτ, στ, hl, st, k⟩ => ⟨ρ, _, h, F, ρτ, στ, hl, st, fun v H1 F1 R ρ1 e1 l1 ro ⟨n, en, b1, b2, q⟩ => by
    have o := ro.slOk l1
    rw [en] at o
    refine ⟨n, dp_int o, RgOk.of_le (by omega) (by omega) (by omega) (by omega), fun p hp => ?_⟩
    have s1 := ro.st l1
    have hF : F1 p = none := s1.sub.free hp
    have eF : Same F1 (upd F1 p (.tup (rgV 0 n))) := same_new hF
    exact k _ _ _ (.v (.tuple _)) ρ1 (e1.trans eF) l1 ⟨s1.grow hp _, .tup upd_same (rg_rp n)⟩ q⟩
theorem c_rg {s1 : Sl} {n : Int} {Ψ : Int → Prop} (h1 : s1 = .va (.int n)) (b1 : 0 ≤ n) (b2 : n ≤ 1000000) (q : Ψ n) : ∃ n : Int, s1 = .va (.int n) ∧ 0 ≤ n ∧ n ≤ 1000000 ∧ Ψ n := ⟨n, h1, b1, b2, q⟩
theorem b_sorted : bootBuiltins "sorted" = some (.builtin "sorted") := rfl
end
end Ab
namespace Ab
open PySem PySem.Spec PyProof.Rows L2
theorem StOk.lastDT {K : PySem.W.Frag} {F H : Hp} {ρ ρτ : List Sl} {σ στ : L2.St} {D : Addr} {kvs : List (List Key × PyData)} (s : StOk K F H (ρ ++ (ρτ ++ [.ce (.dT kvs)])) (σ ++ (στ ++ [some (.ref D)]))) : F D = none ∧ ∃ ks, H D = some (.dT ks) ∧ Paired (KvOk K F) ks kvs := by
  obtain ⟨a, ea, h1, h2⟩ := s.last
  cases ea
  exact ⟨h1, h2⟩
def DcW (K : PySem.W.Frag) (F1 : Hp) (ρw ρτ : List Sl) (σw στ : L2.St) (D : Addr) (P : List (List Key × PyData) → Prop) (H : Hp) : Prop :=
  ∃ (F : Hp) (acc : List (List Key × PyData)), Same F1 F ∧ StOk K F H (ρw ++ (ρτ ++ [.ce (.dT acc)])) (σw ++ (στ ++ [some (.ref D)])) ∧ P acc
section
variable {X : Cx} {ρ : List Sl} {Φ : Rs → List Sl → Prop} {tg iter kx vx : Expr} {ifs : List Expr} {sc : Scope} {pos : Pos} {own : List (Str × Nat)}
theorem ae_dcT (xo : XOk X)
    (h : AI X tg iter ρ fun ds ρ1 => ∃ (I : Nat → List (List Key × D) → Prop) (ρw : List Sl), Wipes ρ1 (own.map (·.2)) ρw ∧ (∀ j ∈ own.map (·.2), notCe (ρ1.getD j .no) = true) ∧ I 0 [] ∧
      (∀ (i : Nat) (d : D) (acc : List (List Key × D)), ds[i]? = some d → I i acc → ∃ ρ3, AGb X sc (kC (own.map (·.2))) tg d ρw ρ3 ∧ ATb X sc ifs ρ3 fun b ρ4 =>
        (b = true → AEb X sc kx ρ4 fun R ρ5 => ∃ k ρ5', Fz ρ5 R (.d (tupK k)) ρ5' ∧ AEb X sc vx ρ5' fun R2 ρ6 => ∃ y ρ7, Fz ρ6 R2 (.d y) ρ7 ∧ Wipes ρ7 (own.map (·.2)) ρw ∧ acc.length < 1000000 ∧ I (i + 1) (putD acc k y)) ∧
        (b = false → Wipes ρ4 (own.map (·.2)) ρw ∧ I (i + 1) acc)) ∧
      ∀ acc, I ds.length acc → Φ (.c (.dT acc)) ρ1)
    (ok : BlkOk X.N X.env.scope sc own) (hs : ∀ x, foldedSetIterable iter X.env x = pure x := by intro _; rfl) : AE X (.DictComp kx vx [⟨tg, iter, ifs, 0⟩] sc pos) ρ Φ := by
  refine .of (pe_dcT xo h.pi ok (any_gb (κ := kC (own.map (·.2)))) any_tb any_eb any_eb hs) fun σ H Q ⟨F, ρτ, στ, hl, s, k⟩ => ?_
  refine ⟨F, ρτ, στ, hl, s, fun J H1 F1 ds ρ1 e1 l1 s1 w ⟨I, ρw, wi, nc, i0, turn, done⟩ => fun D hD => ?_⟩
  generalize hvs : own.map (·.2) = vs at *
  have hlw : ρw.length = (wipe σ vs).length := by rw [wi.spec.1, wipe_length]; exact l1
  have s0 : StOk X.K F1 (upd H1 D (.dT [])) (ρ1 ++ (ρτ ++ [.ce (.dT [])])) (σ ++ (στ ++ [some (.ref D)])) := by
    rw [← List.append_assoc, ← List.append_assoc]
    exact s1.addCe hD fun F' e' => ⟨[], upd_same, .nil⟩
  refine lc_it' w (fun i H' => DcW X.K F1 ρw ρτ (wipe σ vs) στ D (I i) H') ⟨F1, [], Same.refl _, s0.wiped l1 wi, i0⟩ (fun i H' _ ⟨F', acc, e', s', _⟩ => e'.trans s'.sub) ?_ ?_
  · rintro i x H2 H3 hi ⟨F2, acc, e2, s2, i2⟩ y
    obtain ⟨F3, d, e3, s3, hd, dv⟩ := y.st e2 s2
    obtain ⟨ρ3, ag, tt⟩ := turn i d acc hd i2
    refine ⟨d, ρw, ρ3, ag, F3, ρτ ++ [.ce (.dT acc)], στ ++ [some (.ref D)], hlw, s3, dv, fun σ4 l4 l4' k4 s4 => ?_⟩
    have hw4 := wipe_kept k4 l4
    refine ⟨hw4, ρ3, _, tt, F3, _, _, l4'.trans l4.symm, s4, fun b H5 F5 ρ5 e5 l5 s5 ⟨q1, q2⟩ => ?_⟩
    cases b with
    | true =>
      rw [if_pos rfl]
      refine ⟨ρ5, _, q1 rfl, F5, _, _, l5, s5, fun v H6 F6 R ρ6 e6 l6 r6 ⟨ky, ρ6', fz, q⟩ => ?_⟩
      obtain ⟨F6', e6', l6', s6', o6⟩ := fz.ok r6 l6
      refine ⟨ρ6', _, q, F6', _, _, l6', s6', fun v2 H7 F7 R2 ρ7 e7 l7 r7 ⟨yd, ρ8, fz2, w8, hz, q⟩ => ?_⟩
      obtain ⟨F8, e8, l8, s8, o8⟩ := fz2.ok r7 l7
      obtain ⟨kb, rfl, hk⟩ := tupK_rp (show Rp X.K F6' v (tupK ky) from o6)
      obtain ⟨hF, ks, hD8, pr⟩ := s8.lastDT
      have hk8 : F8 kb = some (.tup (ky.map kV)) := e8 _ _ (e7 _ _ hk)
      refine ⟨ks, ky, kb, rfl, s8.sub _ _ hk8, hD8, by rw [Paired.length pr, sizeLine_eq]; omega, F8, putD acc ky yd, ((((e2.trans e3).trans e5).trans e6).trans e6').trans (e7.trans e8), ?_, q⟩
      have s9 : StOk X.K F8 (upd H7 D (.dT (putK ks ky v2))) (ρ8 ++ (ρτ ++ [.ce (.dT (putD acc ky yd))])) (σ4 ++ (στ ++ [some (.ref D)])) := s8.setLast ⟨_, upd_same, kv_put pr ky o8⟩
      have := s9.wiped l8 w8
      rwa [hw4] at this
    | false =>
      rw [if_neg Bool.false_ne_true]
      obtain ⟨w5, q⟩ := q2 rfl
      have := s5.wiped l5 w5
      rw [hw4] at this
      exact ⟨F5, acc, (e2.trans e3).trans e5, this, q⟩
  · rintro H2 ⟨F2, acc, e2, s2, i2⟩
    exact k _ H2 F2 (.c (.dT acc)) ρ1 (e1.trans e2) l1 (s2.unwiped s1 e2 l1 wi nc) (done acc i2)
/-- list(d), d a dict whose keys are tuples -/
theorem StOk.adopts {K : PySem.W.Frag} {H : Hp} {ρ : List Sl} {σ : L2.St} : ∀ {ks : List (List Key × V)} {bs : List Addr} {F : Hp}, StOk K F H ρ σ → IsKeys H ks bs → ∃ F', Same F F' ∧ StOk K F' H ρ σ ∧ RpAll K F' (bs.map V.ref) (ks.map fun kv => tupK kv.1)
  | [], _, F, s, .nil => ⟨F, Same.refl _, s, .nil⟩
  | p :: ks, _, F, s, .cons h t => by
    obtain ⟨F1, e1, s1, r1⟩ := StOk.adopts s t
    obtain ⟨F2, e2, s2, g2⟩ := s1.adopt h
    exact ⟨F2, e1.trans e2, s2, .cons (.tup g2 (rp_keys _)) (dpAll_mono e2 _ _ r1)⟩
theorem kv_keys {K : PySem.W.Frag} {F : Hp} : ∀ {ks : List (List Key × V)} {kvs : List (List Key × D)}, Paired (KvOk K F) ks kvs → (ks.map fun kv => tupK kv.1) = kvs.map fun kv => tupK kv.1
  | _, _, .nil => rfl
  | _, _, .cons h t => by rw [List.map_cons, List.map_cons, kv_keys t, h.1]
theorem ae_listDT {a : Expr} {p : Pos} (xo : XOk X) (hm : X.mg "list" = none) (h : AE X a ρ fun R ρ1 => ∃ kvs, rsSl ρ1 R = .ce (.dT kvs) ∧ Φ (.c (.lst (kvs.map fun kv => tupK kv.1))) ρ1)
    (hg : Gl X "list" := by rfl) (hs : starEach [a] X.env = (false, eval a X.env) :: starEach [] X.env := by rfl) (hpl : (backTo pos (starEach [] X.env)).any (·.1) = false := by rfl) :
    AE X (.Call (.Name "list" p) [a] [] pos) ρ Φ :=
  .of (pe_callTy (call_list_dT xo.calm) hg hm b_list (pa_1 hs) (by decide) (by decide) hs hpl) fun σ H Q ⟨F, ρτ, στ, hl, st, k⟩ =>
    one_arg (G := fun s ρ1 => ∃ kvs, s = .ce (.dT kvs) ∧ Φ (.c (.lst (kvs.map fun kv => tupK kv.1))) ρ1) hl st h fun s ρ1 F1 H1 v ⟨kvs, es, q⟩ e1 l1 s1 o => by
      subst es
      obtain ⟨d, ks, rfl, hd, pr⟩ := dT_at o
      refine ⟨d, ks, rfl, Rd.of hd, fun p bs hp ik => ?_⟩
      obtain ⟨F2, e2, s2, r2⟩ := s1.adopts ik
      rw [kv_keys pr] at r2
      exact k _ _ F2 (.c (.lst _)) ρ1 (e1.trans e2) l1 (newL s2 hp r2) q
theorem c_listDT {s1 : Sl} {kvs : List (List Key × D)} {Ψ : List (List Key × D) → Prop} (h : s1 = .ce (.dT kvs)) (q : Ψ kvs) : ∃ kvs, s1 = .ce (.dT kvs) ∧ Ψ kvs := ⟨kvs, h, q⟩
end
end Ab
namespace Ab
open PySem PySem.Spec PyProof.Rows L2
section
variable {K : PySem.W.Frag}
/-- F' is F but for a locked dict -/
structure ButD (F F' : Hp) (d : Addr) : Prop where
  old : ∀ a o, F a = some o → a ≠ d → F' a = some o
  at_ : ∃ od ks, F d = some (.frz od (.dT ks))
theorem ButD.lst {F F' : Hp} {d a : Addr} {xs : List V} (b : ButD F F' d) (h : F a = some (.lst xs)) : F' a = some (.lst xs) :=
  b.old _ _ h fun e => by
    obtain ⟨_, _, g⟩ := b.at_
    rw [e, g] at h
    cases h
theorem ButD.tup {F F' : Hp} {d a : Addr} {xs : List V} (b : ButD F F' d) (h : F a = some (.tup xs)) : F' a = some (.tup xs) :=
  b.old _ _ h fun e => by
    obtain ⟨_, _, g⟩ := b.at_
    rw [e, g] at h
    cases h
theorem ButD.sq {F F' : Hp} {d a : Addr} {xs : List V} (b : ButD F F' d) (h : SqL K F a xs) : SqL K F' a xs := by
  rcases h with (h | ⟨o, h⟩) | h
  · exact .inl (.inl (b.lst h))
  · refine .inl (.inr ⟨o, b.old _ _ h fun e => ?_⟩)
    obtain ⟨_, _, g⟩ := b.at_
    rw [e, g] at h
    cases h
  · exact .inr h
mutual
theorem rp_but {F F' : Hp} {d : Addr} (b : ButD F F' d) : ∀ (e : PyData) (v : V), Rp K F v e → Rp K F' v e
  | .none, _, h => by cases h; exact .non
  | .bool _, _, h => by cases h; exact .bl _
  | .int i, _, h => by cases h; exact .int i
  | .str x, _, h => by cases h; exact .str x
  | .list ds, _, h => by
    cases h with
    | lst hs ha => exact .lst (b.lst hs) (rpAll_but b ds _ ha)
  | .tuple ds, _, h => by
    cases h with
    | tup hs ha => exact .tup (b.tup hs) (rpAll_but b ds _ ha)
  | .dict [(.list ds, .none)], _, h => by
    cases h with
    | lok hs ha => exact .lok (b.sq hs) (rpAll_but b ds _ ha)
  | .dict [(.tuple ds, .none)], _, h => by
    cases h with
    | plt hs ho ha => exact .plt (b.old _ _ hs fun e => by obtain ⟨_, _, g⟩ := b.at_; rw [e, g] at hs; cases hs) ho (rpAll_but b ds _ ha)
theorem rpAll_but {F F' : Hp} {d : Addr} (b : ButD F F' d) : ∀ (ds : List PyData) (vs : List V), RpAll K F vs ds → RpAll K F' vs ds
  | [], _, h => by cases h; exact .nil
  | e :: ds, _, h => by
    cases h with
    | cons h1 h2 => exact .cons (rp_but b e _ h1) (rpAll_but b ds _ h2)
end
theorem kvs_but {κ : Type} {F F' : Hp} {d : Addr} (b : ButD F F' d) : ∀ {ks : List (κ × V)} {kvs : List (κ × D)}, Paired (KvOk K F) ks kvs → Paired (KvOk K F') ks kvs
  | _, _, .nil => .nil
  | _, _, .cons h t => .cons ⟨h.1, rp_but b _ _ h.2⟩ (kvs_but b t)
theorem cn_but {F F' H H' : Hp} {d a : Addr} {c : Cn} (b : ButD F F' d) (hh : H' a = H a) (h : CnOk K F H a c) : CnOk K F' H' a c := by
  cases c with
  | lst ds => obtain ⟨vs, h1, h2⟩ := h; exact ⟨vs, hh.trans h1, rpAll_but b _ _ h2⟩
  | box => obtain ⟨g, m, h1, h2⟩ := h; exact ⟨g, m, hh.trans h1, h2⟩
  | dT kvs => obtain ⟨ks, h1, h2⟩ := h; exact ⟨ks, hh.trans h1, kvs_but b h2⟩
  | dK kvs => obtain ⟨ks, h1, h2⟩ := h; exact ⟨ks, hh.trans h1, kvs_but b h2⟩
variable {F H : Hp} {ρ : List Sl} {σ : L2.St}
/-- a dict of one's own is locked -/
theorem StOk.lock (s : StOk K F H ρ σ) {i : Nat} {kvs : List (List Key × D)} {d : Addr} {ks : List (List Key × V)} {od : Obj} (hi : ρ[i]? = some (.ce (.dT kvs))) (hv : σ[i]? = some (some (.ref d))) (hF : F d = none) (hH : H d = some (.dT ks)) :
    StOk K (upd F d (.frz od (.dT ks))) (upd H d (.frz od (.dT ks))) (ρ.set i .no) σ := by
  have hlt : i < ρ.length := (List.getElem?_eq_some_iff.mp hi).1
  have eF : Same F (upd F d (.frz od (.dT ks))) := same_new hF
  have old : ∀ {j : Nat} {x : Sl}, x ≠ .no → (ρ.set i .no)[j]? = some x → j ≠ i ∧ ρ[j]? = some x := fun {j x} hx q => by
    by_cases hj : i = j
    · subst hj; rw [List.getElem?_set_self hlt] at q; exact absurd (Option.some.inj q).symm hx
    · rw [List.getElem?_set_ne hj] at q; exact ⟨fun z => hj z.symm, q⟩
  refine ⟨fun b x e => ?_, by rw [List.length_set]; exact s.len, fun j e q => ?_, fun j c q => ?_, fun j l c e a q1 q2 r1 r2 => s.inj j l c e a (old (x := .ce c) (fun z => nomatch z) q1).2 (old (x := .ce e) (fun z => nomatch z) q2).2 r1 r2⟩
  · by_cases hb : b = d
    · subst hb; rw [upd_same] at e ⊢; exact e
    · rw [upd_ne hb] at e ⊢; exact s.sub b x e
  · obtain ⟨v, h1, h2⟩ := s.va j e (old (x := .va e) (fun z => nomatch z) q).2
    exact ⟨v, h1, dp_mono eF _ _ h2⟩
  · obtain ⟨hj, q⟩ := old (x := .ce c) (fun z => nomatch z) q
    obtain ⟨a, h1, h2, h3⟩ := s.ce j c q
    have ne : a ≠ d := fun z => hj (s.inj j i c _ a q hi h1 (z ▸ hv))
    exact ⟨a, h1, by rw [upd_ne ne]; exact h2, h3.mono eF (upd_ne ne)⟩
/-- .. and unlocked -/
theorem StOk.unlock {F0 : Hp} (s : StOk K F H ρ σ) {i : Nat} {kvs : List (List Key × D)} {d : Addr} {ks : List (List Key × V)} {od : Obj} (hF : F d = some (.frz od (.dT ks))) (hi : i < ρ.length) (hv : σ[i]? = some (some (.ref d))) (e0 : Same F0 F) (h0 : F0 d = none)
    (pr : Paired (KvOk K F0) ks kvs) : Same F0 (delH F d) ∧ StOk K (delH F d) (upd H d (.dT ks)) (ρ.set i (.ce (.dT kvs))) σ := by
  have dn : delH F d d = none := delH_same
  have dne : ∀ {a : Addr}, a ≠ d → delH F d a = F a := fun {a} h => by unfold delH; rw [if_neg h]
  have bt : ButD F (delH F d) d := ⟨fun a o h ne => (dne ne).trans h, od, ks, hF⟩
  have e1 : Same F0 (delH F d) := fun a o h => (dne fun z => by rw [z, h0] at h; cases h).trans (e0 a o h)
  have old : ∀ {j : Nat} {x : Sl}, (ρ.set i (.ce (.dT kvs)))[j]? = some x → (j = i ∧ x = .ce (.dT kvs)) ∨ (j ≠ i ∧ ρ[j]? = some x) := fun {j x} q => by
    by_cases hj : i = j
    · subst hj; rw [List.getElem?_set_self hi] at q; exact .inl ⟨rfl, (Option.some.inj q).symm⟩
    · rw [List.getElem?_set_ne hj] at q; exact .inr ⟨fun z => hj z.symm, q⟩
  have cne : ∀ {j : Nat} {c : Cn} {a : Addr}, ρ[j]? = some (.ce c) → σ[j]? = some (some (.ref a)) → a ≠ d := fun {j c a} q r z => by
    obtain ⟨b, h1, h2, _⟩ := s.ce j c q
    rw [r] at h1
    cases h1
    rw [z, hF] at h2
    cases h2
  refine ⟨e1, fun b x e => ?_, by rw [List.length_set]; exact s.len, fun j e q => ?_, fun j c q => ?_, fun j l c e a q1 q2 r1 r2 => ?_⟩
  · have hb : b ≠ d := fun z => by rw [z, dn] at e; cases e
    rw [dne hb] at e
    rw [upd_ne hb]
    exact s.sub b x e
  · rcases old q with ⟨_, qc⟩ | ⟨_, qc⟩
    · cases qc
    · obtain ⟨v, h1, h2⟩ := s.va j e qc
      exact ⟨v, h1, rp_but bt _ _ h2⟩
  · rcases old q with ⟨ej, qc⟩ | ⟨_, qc⟩
    · subst ej
      injection qc with qc
      subst qc
      exact ⟨d, hv, dn, ks, upd_same, kvs_mono e1 pr⟩
    · obtain ⟨a, h1, h2, h3⟩ := s.ce j c qc
      have ne := cne qc h1
      exact ⟨a, h1, (dne ne).trans h2, cn_but bt (upd_ne ne) h3⟩
  · rcases old q1 with ⟨ej, _⟩ | ⟨n1, qa⟩
    · rcases old q2 with ⟨el, _⟩ | ⟨_, qb⟩
      · rw [ej, el]
      · rw [ej, hv] at r1
        injection r1 with r1
        injection r1 with r1
        injection r1 with r1
        exact absurd r1.symm (cne qb r2)
    · rcases old q2 with ⟨el, _⟩ | ⟨n2, qb⟩
      · rw [el, hv] at r2
        injection r2 with r2
        injection r2 with r2
        injection r2 with r2
        exact absurd r2.symm (cne qa r1)
      · exact s.inj j l c e a qa qb r1 r2
end
section
variable {X : Cx} {ρ ρ0 : List Sl} {κ : Nat → Bool} {k : Ks} {body : List Stmt} {elts : List Expr} {kk : Nat} {tpos pos : Pos}
theorem walk_itemsT {K : PySem.W.Frag} {F F2 : Hp} {d : Addr} {od : Obj} {ks : List (List Key × V)} {kvs : List (List Key × D)} (hF : F2 d = some (.frz od (.dT ks))) (pr : Paired (KvOk K F2) ks kvs) : WalkD K F2 (ItT d od ks) (kvs.map fun kv => .tuple [tupK kv.1, kv.2]) := by
  have hl : (kvs.map fun kv => PyData.tuple [tupK kv.1, kv.2]).length = ks.length := by rw [List.length_map]; exact (Paired.length pr).symm
  refine ⟨fun i H hi s => ⟨s _ _ hF, by omega⟩, fun H s => ⟨s _ _ hF, by omega⟩, fun i H x H' hi s y => ?_⟩
  obtain ⟨T, q, ky, v, e1, rfl, hT, hq, rfl⟩ := y
  obtain ⟨kv, e2, e3, e4⟩ := L2.paired_get pr e1
  exact .inr (.inr ⟨T, q, ky, v, kv.2, rfl, hT, hq, rfl, by rw [List.getElem?_map, e2]; show some (PyData.tuple [tupK kv.1, kv.2]) = some (.tuple [tupK ky, kv.2]); rw [show ky = kv.1 from e3], e4⟩)
/-- for k, v in d.items(): body, d a local name -/
theorem as_items (xo : XOk X) (i : Nat) {N : List Str} {x : Str} {p1 apos cpos : Pos} {kvs : List (List Key × D)} (hX : X.N = N) (hA : At N i x) (hi : ρ[i]? = some (.ce (.dT kvs))) (h0 : SetAt ρ i .no ρ0)
    (h : ∃ I : Nat → List Sl → Prop, I 0 ρ0 ∧ (∀ (j : Nat) (kv : List Key × D) (ρ2 : List Sl), kvs[j]? = some kv → I j ρ2 → ∃ ρ3, AG X (fun l => κ l || l == i) (.Tuple elts kk tpos) (.tuple [tupK kv.1, kv.2]) ρ2 ρ3 ∧ ASs X (fun l => κ l || l == i) body ρ3 { nx := I (j + 1), rt := fun _ _ => False, bk := fun _ => False, ct := I (j + 1) }) ∧
      ∀ ρ2, I kvs.length ρ2 → ∃ ρ4, SetAt ρ2 i (.ce (.dT kvs)) ρ4 ∧ k.nx ρ4)
    (hv : Vis X.env.scope x := by first | exact Or.inl rfl | exact Or.inr (Or.inl rfl) | exact Or.inr (Or.inr rfl)) (hd : (x == ("__debug__" : Str)) = false := by decide) (hcd : (x == ("__classdict__" : Str)) = false := by decide)
    (hp : PassesOwn (model X.prog X.w) X.A X.env X.xe := by exact PassesOwn.never) (hs : ∀ x', foldedSetIterable (.Call (.Attribute (.Name x p1) "items" apos) [] [] cpos) X.env x' = pure x' := by intro _; rfl)
    (hbase : attributeBase (.Name x p1) "items" X.env (eval (.Name x p1) X.env) = eval (.Name x p1) X.env := by rfl) (hline : (apos.endLine == cpos.line) = true := by rfl) :
    AS X κ (.For (.Tuple elts kk tpos) (.Call (.Attribute (.Name x p1) "items" apos) [] [] cpos) body [] pos) ρ k := by
  refine .of (ps_lock (ps_for hp xo.calm (pi_itemsT (pe_var (hX ▸ hA.get) hv hd hcd) hbase hline) (pg_any (κ := fun l => κ l || l == i)) (pss_any (κ := fun l => κ l || l == i)) hs)) fun D σ H ⟨F, ρτ, στ, hl, s, n, r, bk, ct⟩ => ?_
  have hil : i < ρ.length := (List.getElem?_eq_some_iff.mp hi).1
  have hi2 : (ρ ++ ρτ)[i]? = some (.ce (.dT kvs)) := (get_left hil).trans hi
  obtain ⟨d, g1, g2, ks, g3, g4⟩ := s.ce i _ hi2
  have g1' : σ[i]? = some (some (.ref d)) := by rw [get_left (by omega)] at g1; exact g1
  obtain ⟨I, i0, turn, done⟩ := h
  refine ⟨d, .dT ks, g3, True.intro, fun od => ?_⟩
  have eF : Same F (upd F d (.frz od (.dT ks))) := same_new g2
  have s0 : StOk X.K (upd F d (.frz od (.dT ks))) (upd H d (.frz od (.dT ks))) (ρ0 ++ ρτ) (σ ++ στ) := by
    have := s.lock (od := od) hi2 g1 g2 g3
    rwa [app_set_left hil, ← h0.eq.1] at this
  refine ⟨.ref d, g1', d, od, ks, rfl, upd_same, ?_⟩
  have w : WalkD X.K (upd F d (.frz od (.dT ks))) (ItT d od ks) (kvs.map fun kv => .tuple [tupK kv.1, kv.2]) := walk_itemsT (F := F) upd_same (kvs_mono eF g4)
  have l0 : ρ0.length = σ.length := h0.len.trans hl
  refine for_it w (fun j σ' H' => ∃ F' ρ', Same (upd F d (.frz od (.dT ks))) F' ∧ σ'.length = σ.length ∧ ρ'.length = σ.length ∧ Kept (fun l => κ l || l == i) σ σ' ∧ StOk X.K F' H' (ρ' ++ ρτ) (σ' ++ στ) ∧ I j ρ') ⟨_, ρ0, Same.refl _, rfl, l0, Kept.refl _ _, s0, i0⟩
    (fun i σ' H' _ ⟨F', ρ', e', _, _, _, s', _⟩ => e'.trans s'.sub) ?_ ?_
  · rintro j v σ2 H2 H3 hj ⟨F2, ρ2, e2, l2, l2', k2, s2, i2⟩ y
    obtain ⟨F3, dd, e3, s3, hd, dv⟩ := y.st e2 s2
    obtain ⟨kv, hkv, rfl⟩ := get_map hd
    obtain ⟨ρ3, ag, bo⟩ := turn j kv ρ2 hkv i2
    refine ⟨_, ρ2, ρ3, ag, F3, ρτ, στ, l2'.trans l2.symm, s3, dv, fun σ4 l4 l4' k4 s4 => ?_⟩
    have kk := k2.trans k4
    refine ⟨ρ3, _, bo, F3, ρτ, στ, l4'.trans l4.symm, s4, fun σ5 H5 F5 ρ5 e5 l5 l5' k5 s5 q5 => ⟨F5, ρ5, (e2.trans e3).trans e5, (l5.trans l4).trans l2, (l5'.trans l4).trans l2, kk.trans k5, s5, q5⟩,
      fun v σ5 H5 F5 ρ5 R _ _ _ _ _ _ q => q.elim, fun σ5 H5 F5 ρ5 _ _ _ _ _ q => q.elim,
      fun σ5 H5 F5 ρ5 e5 l5 l5' k5 s5 q5 => ⟨F5, ρ5, (e2.trans e3).trans e5, (l5.trans l4).trans l2, (l5'.trans l4).trans l2, kk.trans k5, s5, q5⟩⟩
  · rintro σ2 H2 ⟨F2, ρ2, e2, l2, l2', k2, s2, i2⟩
    rw [List.length_map] at i2
    obtain ⟨ρ4, t4, q4⟩ := done ρ2 i2
    have hd2 : F2 d = some (.frz od (.dT ks)) := e2 _ _ upd_same
    have hi2' : i < ρ2.length := t4.eq.2
    have hvi : (σ2 ++ στ)[i]? = some (some (.ref d)) := by
      rw [get_left (by omega), k2 i (by simp), g1']
    obtain ⟨e4, s4⟩ := s2.unlock (F0 := F) (i := i) (kvs := kvs) hd2 (by rw [List.length_append]; omega) hvi (eF.trans e2) g2 g4
    rw [app_set_left hi2', ← t4.eq.1] at s4
    exact ⟨s2.sub _ _ hd2, n σ2 _ _ ρ4 e4 l2 (t4.len.trans l2') (fun l hl' => k2 l (by simp [hl'])) s4 q4⟩
end
end Ab
namespace Ab
open PySem PySem.Spec PyProof.Rows L2
/-! ### tuples that are known to be plain -/
section
variable {X : Cx} {ρ : List Sl} {Φ : Rs → List Sl → Prop} {a b o e : Expr} {es : List Expr} {pos p : Pos}
def tTupP (t : TA) : TE := fun σ H Q => t σ H fun xs H1 => xs.length ≤ sizeLine ∧ ∀ p ob, H1 p = none → ob.dict = none → Q (.ref p) (upd H1 p (.frz ob (.tup xs)))
theorem pe_tupP {x1} {t : TA} (h : PA X es t) : PE X (.Tuple es x1 pos) (tTupP t) := by
  refine ⟨fun pins s σ H Q I hq => ?_⟩
  refine wpAny_Tuple_spliced (thn (h.run pos pins s σ H _ I hq) fun us s1 ⟨xs, H1, I1, r, z, q⟩ => ⟨by rw [← r.length]; exact z, ?_⟩)
  have hf : H1 s1.heap.objs.size = none := I1.hok.fresh (Nat.le_refl _)
  refine ⟨.ref s1.heap.objs.size, upd H1 s1.heap.objs.size (.frz { cls := .type "tuple", data := .seq us.toArray } (.tup xs)), I1.laid (t' := s1.toks) (fun b u e => Heap.get?_push_of_some _ e) (Nat.le_refl _) ?_, rfl, q _ _ hf rfl⟩
  exact ⟨Heap.get?_push_size _ rfl, z, us, r, ⟨_, Heap.get?_push_size _ rfl, rfl, _, rfl⟩⟩
theorem ae_tupP {kk : Nat} (h : AAs X es ρ fun as ρ1 => ∃ ds, as = ds.map .d ∧ ds.length ≤ 1000000 ∧ Φ (.v (plT ds)) ρ1) : AE X (.Tuple es kk pos) ρ Φ := by
  refine .of (pe_tupP h.pa) fun σ H Q ⟨F, ρτ, στ, hl, s, k⟩ => ?_
  refine ⟨F, ρτ, στ, hl, s, fun vs H1 F1 as ρ1 e1 l1 s1 pr ⟨ds, ea, hz, q⟩ => ?_⟩
  subst ea
  have hd := paired_ds pr
  refine ⟨by rw [dpAll_len hd]; exact line_of hz, fun p ob hp ho => ?_⟩
  have hF : F1 p = none := s1.sub.free hp
  have eF : Same F1 (upd F1 p (.frz ob (.tup vs))) := same_new hF
  exact k _ _ _ (.v (plT ds)) ρ1 (e1.trans eF) l1 ⟨s1.grow hp _, .plt upd_same ho (dpAll_mono eF _ _ hd)⟩ q
def rCatP (K : PySem.W.Frag) : R2 := fun x y H Q => ∃ a b xs ys, x = .ref a ∧ y = .ref b ∧ SqT K H a xs ∧ SqT K H b ys ∧ xs.length + ys.length ≤ sizeLine ∧
  (xs = [] → Q (.ref b) H) ∧ (xs ≠ [] → ys = [] → Q (.ref a) H) ∧ (xs ≠ [] → ys ≠ [] → ∀ p ob, H p = none → ob.dict = none → Q (.ref p) (upd H p (.frz ob (.tup (xs ++ ys)))))
theorem op_catP : OpR X (binaryOp .Add) (rCatP X.K) := by
  intro pins s σ H x y v u Q I rx ry h
  obtain ⟨a, b, xs, ys, rfl, rfl, ha, hb, hz, q0, q1, q2⟩ := h
  by_cases hx : xs = []
  · exact op_catA pins s σ H _ _ v u Q I rx ry ⟨a, b, xs, ys, rfl, rfl, ha, hb, hz, q0, fun h => absurd hx h, fun h => absurd hx h⟩
  · cases rx
    cases ry
    obtain ⟨its, r1, p1, _⟩ := I.tuple ha
    obtain ⟨its2, r2, p2, _⟩ := I.tuple hb
    refine HT.cat_tup p1 p2 (fun z => hx (r1.nil_iff.mp z)) (fun z => ⟨.ref a, H, I, rfl, q1 hx (r2.nil_iff.mp z)⟩) (fun z => ?_) (by rw [← r1.length, ← r2.length]; exact hz)
    refine ⟨.ref s.heap.objs.size, _, I.laid (t' := s.toks) (o := .frz { cls := .type "tuple", data := .seq (its ++ its2).toArray } (.tup (xs ++ ys))) (fun b ob q => Heap.get?_push_of_some _ q) (Nat.le_refl _) ?_, rfl, q2 hx (fun w => z (r2.nil_iff.mpr w)) _ _ (I.hok.fresh (Nat.le_refl _)) rfl⟩
    exact ⟨Heap.get?_push_size _ rfl, by rw [List.length_append]; exact hz, _, r1.append r2, IsTup.new _ _⟩
inductive cCatP (s1 : Sl) (s2 : Sl) (d : D) : Prop
  | mk (xs : List D) (ys : List D) : s1 = .va (plT xs) → s2 = .va (plT ys) → xs.length + ys.length ≤ 1000000 → d = plT (xs ++ ys) → cCatP s1 s2 d
theorem ok_catP : OpOk X (rCatP X.K) cCatP := fun F H ρ σ v1 v2 s1 s2 d Q st o1 o2 ⟨xs, ys, e1, e2, hz, e⟩ k => by
  subst e1; subst e2; subst e
  cases (show Rp X.K F v1 (.dict [(.tuple xs, .none)]) from o1) with
  | plt hs ho ha =>
    rename_i a oa vs
    cases (show Rp X.K F v2 (.dict [(.tuple ys, .none)]) from o2) with
    | plt gs go ga =>
      rename_i b ob us
      refine ⟨a, b, vs, us, rfl, rfl, .inl (.inr ⟨_, st.sub _ _ hs⟩), .inl (.inr ⟨_, st.sub _ _ gs⟩), by rw [dpAll_len ha, dpAll_len ga]; exact line_of hz, fun hv => ?_, fun hv hu => ?_, fun hv hu p ob hp hob => ?_⟩
      · refine k _ H F (Same.refl F) (fun _ _ q => q) ?_
        rw [dpAll_nil ha hv]
        exact .plt gs go ga
      · refine k _ H F (Same.refl F) (fun _ _ q => q) ?_
        rw [dpAll_nil ga hu, List.append_nil]
        exact .plt hs ho ha
      · have hF : F p = none := st.sub.free hp
        have eF : Same F (upd F p (.frz ob (.tup (vs ++ us)))) := same_new hF
        exact k _ _ _ eF (fun _ _ q => q.grow hp _) (.plt upd_same hob (dpAll_mono eF _ _ (dpAll_app ha ga)))
theorem ae_addP (h : AE X a ρ fun R1 ρ1 => AE X b ρ1 fun R2 ρ2 => ∃ d, cCatP (rsSl ρ2 R1) (rsSl ρ2 R2) d ∧ Φ (.v d) ρ2) : AE X (.BinOp a .Add b pos) ρ Φ := ae_bin op_catP ok_catP h
theorem c_catP {s1 s2 : Sl} {xs ys : List D} {Ψ : D → Prop} (h1 : s1 = .va (plT xs)) (h2 : s2 = .va (plT ys)) (h3 : xs.length + ys.length ≤ 1000000) (q : Ψ (plT (xs ++ ys))) : ∃ d, cCatP s1 s2 d ∧ Ψ d := ⟨_, ⟨xs, ys, h1, h2, h3, rfl⟩, q⟩
/-- t.index(k), t a plain tuple of numbers -/
theorem ae_indexP {apos cpos : Pos} (h : AE X o ρ fun R1 ρ1 => ∃ ns : List Int, (∃ i, R1 = .al i) ∧ rsSl ρ1 R1 = .va (plT (ns.map .int)) ∧ AE X e ρ1 fun R2 ρ2 => ∃ k : Int, rsSl ρ2 R2 = .va (.int k) ∧ k ∈ ns ∧ Φ (.v (.int (ns.idxOf k : Nat))) ρ2)
    (hbase : attributeBase o "index" X.env (eval o X.env) = eval o X.env := by rfl)
    (hfew : ((backTo cpos (starEach [e] X.env)).all (fun x => !x.1) && (backToKw cpos (keywordEach [] X.env)).all (fun x => x.1.isSome)
      && decide ([e].length + ([] : List Keyword).length + (if ([] : List Keyword).isEmpty then 0 else 1) < 30)) = true := by rfl)
    (hline : (apos.endLine == cpos.line) = true := by rfl) (hs : starEach [e] X.env = (false, eval e X.env) :: starEach [] X.env := by rfl) (hplain : (backTo cpos (starEach [] X.env)).any (·.1) = false := by rfl) :
    AE X (.Call (.Attribute o "index" apos) [e] [] cpos) ρ Φ := by
  refine ⟨⟨fun pins s σ H Q I ⟨F, ρτ, στ, hl, st, k⟩ => ?_⟩⟩
  refine wpAny_Call_method_late hbase hfew hline rfl (thn (h.pe.run pins s σ H (fun x H1 => ∃ (t : Addr) (ns : List Int) (F1 : Hp) (ρ1 : List Sl) (ob : Obj), x = .ref t ∧ Same F F1 ∧ ρ1.length = σ.length ∧ StOk X.K F1 H1 (ρ1 ++ ρτ) (σ ++ στ) ∧ F1 t = some (.frz ob (.tup (ns.map V.int))) ∧ ob.dict = none ∧
      AE X e ρ1 fun R2 ρ2 => ∃ k : Int, rsSl ρ2 R2 = .va (.int k) ∧ k ∈ ns ∧ Φ (.v (.int (ns.idxOf k : Nat))) ρ2) I ⟨F, ρτ, στ, hl, st, fun v H1 F1 R ρ1 e1 l1 ro ⟨ns, _, en, q⟩ => ?_⟩) fun v s1 ⟨x, H1, I1, r1, t, ns, F1, ρ1, ob, ex, e1, l1, st1, ft, od, q⟩ => ?_)
  · have o := ro.slOk l1
    rw [en] at o
    cases (show Rp X.K F1 v (.dict [(.tuple (ns.map .int), .none)]) from o) with
    | plt hs ho ha =>
      rw [dpAll_ints ha] at hs
      exact ⟨_, ns, F1, ρ1, _, rfl, e1, l1, ro.st l1, hs, ho, q⟩
  · subst ex
    cases r1
    obtain ⟨g1, g2⟩ := I1.hok t _ (st1.sub _ _ ft)
    obtain ⟨_, its, rv, ⟨o2, ho2, hc2, n2, hd2⟩⟩ := g2
    refine ⟨"tuple", "tuple.index", PySem.F.plainAttrs_tuple, PySem.F.slot_tuple_index, PySem.F.type_tuple_index, ⟨o2, ho2, hc2⟩, fun a e => ?_, ?_⟩
    · cases e
      exact ⟨ob, g1, od⟩
    · have hA := (pa_1 (X := X) (a := e) hs).run cpos pins s1 σ H1 (fun vs H2 => ∃ (kk : Int) (F2 : Hp) (ρ2 : List Sl), vs = [V.int kk] ∧ kk ∈ ns ∧ Same F1 F2 ∧ ρ2.length = σ.length ∧ StOk X.K F2 H2 (ρ2 ++ ρτ) (σ ++ στ) ∧ Φ (.v (.int (ns.idxOf kk : Nat))) ρ2) I1
        ⟨ρ1, _, q, F1, ρτ, στ, l1, st1, fun v H2 F2 R ρ2 e2 l2 ro ⟨kk, en, hm, q⟩ => by
          have o := ro.slOk l2
          rw [en] at o
          exact ⟨kk, F2, ρ2, by rw [dp_int o], hm, e2, l2, ro.st l2, q⟩⟩
      rw [hs] at hA ⊢
      refine Calls.callWith_builtin (by show (false || (backTo cpos (starEach [] X.env)).any (·.1)) = false; rw [hplain] <;> rfl) (Calls.evalArgs_plain ?_)
      refine thn hA fun us s2 ⟨vs, H2, I2, r2, kk, F2, ρ2, ev, hm, e2, l2, st2, q⟩ => ?_
      subst ev
      obtain ⟨u, rfl, ru⟩ := r2.one
      obtain ⟨tk, rfl⟩ := ru
      have ht2 : SqT X.K H2 t (ns.map V.int) := .inl (.inr ⟨ob, st2.sub _ _ (e2 _ _ ft)⟩)
      obtain ⟨its2, rv2, ⟨o3, ho3, hc3, n3, hd3⟩, _⟩ := I2.tuple ht2
      refine SeqAt.tuple_index_ints ⟨o3, ho3, hc3, n3, hd3⟩ (by simpa using rv2.ints) hm ?_
      exact ⟨.int (ns.idxOf kk : Nat), H2, I2.tok _, ⟨_, rfl⟩, k _ H2 F2 (.v (.int (ns.idxOf kk : Nat))) ρ2 (e1.trans e2) l2 ⟨st2, .int _⟩ q⟩
end
end Ab
namespace Ab
open PySem PySem.Spec PyProof.Rows L2
section
variable {X : Cx} {ρ : List Sl} {Φ : Rs → List Sl → Prop} {a b e e2 : Expr} {pos p : Pos}
/-- a built-in type by its name -/
theorem pe_tyN {x : Str} {T : String} {pos : Pos} (hg : Gl X x) (hm : X.mg x = none) (hv : bootBuiltins x = some (.type T)) (hn : x ≠ "__name__" := by decide) (hd : (x == ("__debug__" : Str)) = false := by decide) : PE X (.Name x pos) (tC (.ty T)) :=
  ⟨fun pins s σ H Q I h => ld_blt I hg hm hv ⟨.ty T, H, I, rfl, h⟩ hn hd⟩
/-- the type's name of what a slot holds -/
def slTy : Sl → Option String
  | .va .none => some "NoneType"
  | .va (.bool _) => some "bool"
  | .va (.int _) => some "int"
  | .va (.str _) => some "str"
  | .va (.tuple _) => some "tuple"
  | .va (.list _) => some "list"
  | .va (.dict [(.tuple _, .none)]) => some "tuple"
  | .ce (.lst _) => some "list"
  | _ => none
theorem slTy_ok {K : PySem.W.Frag} {F H : Hp} {v : V} {s : Sl} {T : String} (sub : Same F H) (h : SlOk K F H v s) (e : slTy s = some T) : TyX K H v (.type T) := by
  unfold slTy at e
  split at e
  · cases e; rw [dp_none h]; exact .base .non
  · cases e; rw [dp_bool h]; exact .base (.bl _)
  · cases e; rw [dp_int h]; exact .base (.int _)
  · cases e; rw [dp_str h]; exact .base (.str _)
  · cases e
    rename_i ds
    cases (show Rp K F v (.tuple ds) from h) with
    | tup hs ha => exact .base (.tup (sub _ _ hs))
  · cases e
    rename_i ds
    cases (show Rp K F v (.list ds) from h) with
    | lst hs ha => exact .base (.lst (sub _ _ hs))
  · cases e
    rename_i ds
    cases (show Rp K F v (.dict [(.tuple ds, .none)]) from h) with
    | plt hs ho ha => exact .fTuple (sub _ _ hs)
  · cases e
    obtain ⟨a, rfl, _, vs, h1, _⟩ := h
    exact .base (.lst h1)
  · cases e
theorem ae_isi {x : Str} {T : String} {q : Pos} (hm : X.mg "isinstance" = none) (hmx : X.mg x = none) (hv : bootBuiltins x = some (.type T))
    (h : AE X a ρ fun R ρ1 => ∃ S r, slTy (rsSl ρ1 R) = some S ∧ kitB S T = some r ∧ Φ (.v (.bool r)) ρ1)
    (hg : Gl X "isinstance" := by rfl) (hgx : Gl X x := by rfl) (hn : x ≠ "__name__" := by decide) (hd : (x == ("__debug__" : Str)) = false := by decide)
    (hs : starEach [a, .Name x q] X.env = (false, eval a X.env) :: starEach [.Name x q] X.env := by rfl) (hs2 : starEach [.Name x q] X.env = (false, eval (.Name x q) X.env) :: starEach [] X.env := by rfl) (hpl : (backTo pos (starEach [.Name x q] X.env)).any (·.1) = false := by rfl) :
    AE X (.Call (.Name "isinstance" p) [a, .Name x q] [] pos) ρ Φ :=
  .of (pe_callB call_isi hg hm PyProof.Rows.boot_isinstance (pa_cons (pe_any (e := a)) (pa_cons (pe_tyN hgx hmx hv hn hd) pa_nil hs2) hs) (by decide) (by decide) hs hpl) fun σ H Q ⟨F, ρτ, στ, hl, st, k⟩ =>
    ⟨ρ, _, h, F, ρτ, στ, hl, st, fun v H1 F1 R ρ1 e1 l1 ro ⟨S, r, eS, eK, q⟩ =>
      ⟨v, .ty T, .type S, .type T, r, rfl, .ty T, slTy_ok (ro.st l1).sub (ro.slOk l1) eS, kit_ty eK, k _ H1 F1 (.v (.bool r)) ρ1 e1 l1 ⟨ro.st l1, .bl r⟩ q⟩⟩
theorem c_isi {s : Sl} {S T : String} {r : Bool} {Ψ : Bool → Prop} (h1 : slTy s = some S) (h2 : kitB S T = some r) (q : Ψ r) : ∃ S r, slTy s = some S ∧ kitB S T = some r ∧ Ψ r := ⟨S, r, h1, h2, q⟩
/-! ### is None, is True -/
inductive cIsN (s1 s2 : Sl) (d : D) : Prop
  | mk (x : D) : s1 = .va x → x ≠ .none → s2 = .va .none → d = .bool false → cIsN s1 s2 d
theorem ok_isN : OpOk X (fun x y H Q => y = .non ∧ Q (.bl (decide (x = .non))) H) cIsN := fun F H ρ σ v1 v2 s1 s2 d Q st o1 o2 ⟨x, e1, hx, e2, e⟩ k => by
  subst e1; subst e2; subst e
  refine ⟨dp_none o2, ?_⟩
  have : decide (v1 = V.non) = false := by
    rw [decide_eq_false_iff_not]
    rintro rfl
    cases (show Rp X.K F .non x from o1)
    exact hx rfl
  rw [this]
  exact k _ H F (Same.refl F) (fun _ _ q => q) (.bl _)
theorem op_isIB : OpR X (compareOp .Is) (fun x y H Q => ∃ a b, x = .int a ∧ y = .bl b ∧ Q (.bl false) H) := by
  intro pins s σ H x y v u Q I rx ry h
  obtain ⟨a, b, rfl, rfl, q⟩ := h
  obtain ⟨t, rfl⟩ := rx
  cases (show u = Value.bool b from ry)
  exact wpAny_is_other rfl (fun z => nomatch z) ⟨.bl false, H, I, rfl, q⟩
inductive cIsIB (s1 s2 : Sl) (d : D) : Prop
  | mk (i : Int) (b : Bool) : s1 = .va (.int i) → s2 = .va (.bool b) → d = .bool false → cIsIB s1 s2 d
theorem ok_isIB : OpOk X (fun x y H Q => ∃ a b, x = .int a ∧ y = .bl b ∧ Q (.bl false) H) cIsIB := fun F H ρ σ v1 v2 s1 s2 d Q st o1 o2 ⟨i, b, e1, e2, e⟩ k => by
  subst e1; subst e2; subst e
  exact ⟨i, b, dp_int o1, dp_bool o2, k _ H F (Same.refl F) (fun _ _ q => q) (.bl _)⟩
theorem at_isN {Φ : Bool → List Sl → Prop} (h : AE X a ρ fun R1 ρ1 => AE X b ρ1 fun R2 ρ2 => ∃ k, cIsN (rsSl ρ2 R1) (rsSl ρ2 R2) (.bool k) ∧ Φ k ρ2) : AT X (.Compare a [.Is] [b] pos) ρ Φ := at_cmp op_isN ok_isN (nomark _) h
theorem at_isIB {Φ : Bool → List Sl → Prop} (h : AE X a ρ fun R1 ρ1 => AE X b ρ1 fun R2 ρ2 => ∃ k, cIsIB (rsSl ρ2 R1) (rsSl ρ2 R2) (.bool k) ∧ Φ k ρ2) : AT X (.Compare a [.Is] [b] pos) ρ Φ := at_cmp op_isIB ok_isIB (nomark _) h
/-! ### zip of two tuples -/
def slTup : Sl → Option (List D)
  | .va (.tuple ds) => some ds
  | .va (.dict [(.tuple ds, .none)]) => some ds
  | _ => none
theorem slTup_F {K : PySem.W.Frag} {F H : Hp} {v : V} {s : Sl} {ds : List D} (h : SlOk K F H v s) (e : slTup s = some ds) : ∃ a vs, v = .ref a ∧ Rd F a (.tup vs) ∧ RpAll K F vs ds := by
  unfold slTup at e
  split at e
  · cases e
    cases (show Rp K F v (.tuple ds) from h) with
    | tup hs ha => exact ⟨_, _, rfl, .inl hs, ha⟩
  · cases e
    cases (show Rp K F v (.dict [(.tuple ds, .none)]) from h) with
    | plt hs ho ha => exact ⟨_, _, rfl, .inr ⟨_, hs⟩, ha⟩
  · cases e
theorem rd_mono {F F' : Hp} {a : Addr} {u : HO} (e : Same F F') (h : Rd F a u) : Rd F' a u := h.imp (e _ _) fun ⟨o, h⟩ => ⟨o, e _ _ h⟩
theorem zipD_len (ds es : List D) : (zipD ds es).length = min ds.length es.length := by simp [zipD]
theorem walkD_zipT {K : PySem.W.Frag} {F : Hp} {a b : Addr} {vs us : List V} {ds es : List D} (h1 : Rd F a (.tup vs)) (h2 : Rd F b (.tup us)) (r1 : RpAll K F vs ds) (r2 : RpAll K F us es) : WalkD K F (RZ.ItzT K a b) (zipD ds es) := by
  have l1 := dpAll_len r1
  have l2 := dpAll_len r2
  have hl := zipD_len ds es
  refine ⟨fun i H hi s => ?_, fun H s => ⟨vs, us, .inl (rd_mono s h1), .inl (rd_mono s h2), by omega⟩, fun i H x H' hi s y => ?_⟩
  · have k1 : i < vs.length := by omega
    have k2 : i < us.length := by omega
    exact ⟨vs, us, vs[i], us[i], .inl (rd_mono s h1), .inl (rd_mono s h2), by simp [k1], by simp [k2]⟩
  · obtain ⟨T, x, y, rfl, hT, rfl, hx, hy⟩ := y
    obtain ⟨d, g1, g2⟩ := dpAll_get' r1 (hx vs (.inl (rd_mono s h1)))
    obtain ⟨e, g3, g4⟩ := dpAll_get' r2 (hy us (.inl (rd_mono s h2)))
    exact .inr (.inl ⟨T, x, y, d, e, rfl, hT, rfl, zipD_get g1 g3, g2, g4⟩)
theorem ai_zipT {elts : List Expr} {kk : Nat} {tpos : Pos} (hm : X.mg "zip" = none) {Φ : List D → List Sl → Prop} (h : AE X e ρ fun R1 ρ1 => AE X e2 ρ1 fun R2 ρ2 => ∃ ds es, slTup (rsSl ρ2 R1) = some ds ∧ slTup (rsSl ρ2 R2) = some es ∧ Φ (zipD ds es) ρ2)
    (hg : Gl X "zip" := by rfl) (hs : starEach [e, e2] X.env = (false, eval e X.env) :: starEach [e2] X.env := by rfl) (hs2 : starEach [e2] X.env = (false, eval e2 X.env) :: starEach [] X.env := by rfl) (hpl : (backTo pos (starEach [e2] X.env)).any (·.1) = false := by rfl) :
    AI X (.Tuple elts kk tpos) (.Call (.Name "zip" p) [e, e2] [] pos) ρ Φ := by
  refine .of (RZ.pi_zipA hg hm (pa_cons (pe_any (e := e)) (pa_cons (pe_any (e := e2)) pa_nil hs2) hs) hs hpl) fun σ H R ⟨F, ρτ, στ, hl, st, k⟩ => ?_
  refine two (Q := fun _ _ => True) (r := fun v1 v2 H2 _ => ∃ a b xs ys, [v1, v2] = [V.ref a, V.ref b] ∧ ((SqL X.K H2 a xs ∧ SqL X.K H2 b ys ∧ R (Itz X.K a b) H2) ∨ (SqT X.K H2 a xs ∧ SqT X.K H2 b ys ∧ R (RZ.ItzT X.K a b) H2)))
    (Ga := fun s1 s2 ρ2 => ∃ ds es, slTup s1 = some ds ∧ slTup s2 = some es ∧ Φ (zipD ds es) ρ2) hl st h fun s1 s2 ρ2 F2 H2 v1 v2 ⟨ds, es, g1, g2, q⟩ e l t o1 o2 => ?_
  obtain ⟨a, vs, rfl, h1, r1⟩ := slTup_F o1 g1
  obtain ⟨b, us, rfl, h2, r2⟩ := slTup_F o2 g2
  exact ⟨a, b, vs, us, rfl, .inr ⟨.inl (rd_mono t.sub h1), .inl (rd_mono t.sub h2), k _ H2 F2 _ ρ2 e l t (walkD_zipT h1 h2 r1 r2) q⟩⟩
theorem c_zip {s1 s2 : Sl} {ds es : List D} {Ψ : List D → Prop} (h1 : slTup s1 = some ds) (h2 : slTup s2 = some es) (q : Ψ (zipD ds es)) : ∃ ds es, slTup s1 = some ds ∧ slTup s2 = some es ∧ Ψ (zipD ds es) := ⟨ds, es, h1, h2, q⟩
end
end Ab
namespace Ab
open PySem PySem.Spec PyProof.Rows L2
/-! ### sorted(set(xs)), xs pairs of small numbers -/
def pairAb (p : Int × Int) : D := .tuple [.int p.1, .int p.2]
theorem pairs_keys {K : PySem.W.Frag} {F : Hp} : ∀ {l : List (Int × Int)} {vs : List V}, RpAll K F vs (l.map pairAb) → ∃ ks : List (Addr × (Int × Int)), vs = ks.map (fun q => V.ref q.1) ∧ ks.map (·.2) = l ∧ ∀ q ∈ ks, F q.1 = some (.tup [.int q.2.1, .int q.2.2])
  | [], _, h => by cases h; exact ⟨[], rfl, rfl, by simp⟩
  | p :: l, _, h => by
    cases h with
    | cons h1 h2 =>
      obtain ⟨ks, e1, e2, e3⟩ := pairs_keys h2
      cases (show Rp K F _ (.tuple [.int p.1, .int p.2]) from h1) with
      | tup hs ha =>
        have := dpAll_ints (ns := [p.1, p.2]) ha
        subst this
        refine ⟨(_, p) :: ks, by rw [List.map_cons, ← e1], by rw [List.map_cons, e2], fun q hq => ?_⟩
        rcases List.mem_cons.mp hq with rfl | hq
        · exact hs
        · exact e3 q hq
def l2 (p : Int × Int) : List Int := [p.1, p.2]
def unl2 (r : List Int) : Int × Int := (r.getD 0 0, r.getD 1 0)
theorem unl2_l2 (p : Int × Int) : unl2 (l2 p) = p := rfl
section
variable {X : Cx} {ρ : List Sl} {Φ : Rs → List Sl → Prop} {a : Expr} {pos qpos p q : Pos}
theorem ae_sortSet (xo : XOk X) (hm : X.mg "sorted" = none) (hms : X.mg "set" = none)
    (h : AE X a ρ fun R ρ1 => ∃ l : List (Int × Int), slLst (rsSl ρ1 R) = some (l.map pairAb) ∧ l.length < 64 ∧ (∀ p ∈ l, 0 ≤ p.1 ∧ p.1 < 64 ∧ 0 ≤ p.2 ∧ p.2 < 64) ∧ ∀ l' : List (Int × Int), (∀ p ∈ l', p ∈ l) → l'.Nodup → Φ (.c (.lst (l'.map pairAb))) ρ1)
    (hg : Gl X "sorted" := by rfl) (hgs : Gl X "set" := by rfl) (na : starEach [a] X.env = (false, eval a X.env) :: starEach [] X.env := by rfl)
    (nb : starEach [.Call (.Name "set" q) [a] [] qpos] X.env = (false, eval (.Call (.Name "set" q) [a] [] qpos) X.env) :: starEach [] X.env := by rfl) (hpl : (backTo pos (starEach [] X.env)).any (·.1) = false := by rfl) (hpl2 : (backTo qpos (starEach [] X.env)).any (·.1) = false := by rfl) :
    AE X (.Call (.Name "sorted" p) [.Call (.Name "set" q) [a] [] qpos] [] pos) ρ Φ := by
  have hu : X.A.units + 64 < cLine := by have := xo.units; omega
  refine .of (pe_callB (cr_sortedT xo.calm) hg hm PyProof.Rows.boot_sorted (pa_cons (pe_callTy (cr_setOfT xo.calm hu) hgs hms PyProof.Rows.boot_set (pa_1 na) (by decide) (by decide) na hpl2) pa_nil nb) (by decide) (by decide) nb hpl) fun σ H Q ⟨F, ρτ, στ, hl, st, k⟩ => ?_
  refine ⟨ρ, _, h, F, ρτ, στ, hl, st, fun v H1 F1 R ρ1 e1 l1 ro ⟨l, el, hz, hb, qq⟩ => ?_⟩
  have s1 := ro.st l1
  obtain ⟨b, vs, rfl, hs, ha⟩ := slLst_F s1.sub (ro.slOk l1) el
  obtain ⟨ks, ev, ek, et⟩ := pairs_keys ha
  subst ev
  have mk : ∀ {p : Addr × List Int}, p ∈ ks.map (fun q => (q.1, l2 q.2)) → ∃ q ∈ ks, p = (q.1, l2 q.2) := fun {p} hp => by
    obtain ⟨q, hq, e⟩ := List.mem_map.mp hp
    exact ⟨q, hq, e.symm⟩
  refine ⟨b, ks.map fun q => (q.1, l2 q.2), rfl, by rw [List.map_map]; exact SqL.of hs, fun p hp => ?_, by rw [List.length_map]; rw [← ek, List.length_map] at hz; exact hz, fun c L hc hL hall => ?_⟩
  · obtain ⟨q, hq, rfl⟩ := mk hp
    exact SqT.of (s1.sub _ _ (et q hq))
  · have s2 : StOk X.K F1 (upd H1 c (SetTO X.prog X.w c L)) (ρ1 ++ ρτ) (σ ++ στ) := s1.side hc _
    refine ⟨c, L, 2, 64, rfl, upd_same, fun p hp => ?_, by decide, fun p hp => ?_, fun L' d hp hnd hz' _ hd => ?_⟩
    · obtain ⟨q, hq, rfl⟩ := mk (hL p hp)
      exact SqT.of (s2.sub _ _ (et q hq))
    · obtain ⟨q, hq, rfl⟩ := mk (hL p hp)
      have hq2 : q.2 ∈ l := by rw [← ek]; exact List.mem_map.mpr ⟨q, hq, rfl⟩
      obtain ⟨b1, b2, b3, b4⟩ := hb _ hq2
      refine ⟨rfl, fun m hm => ?_⟩
      simp only [l2, List.mem_cons, List.not_mem_nil, or_false] at hm
      rcases hm with rfl | rfl
      · exact ⟨b1, b2⟩
      · exact ⟨b3, b4⟩
    · have mem' : ∀ p ∈ L', ∃ q ∈ ks, p = (q.1, l2 q.2) := fun p hp' => mk (hL p (hp.mem_iff.mp hp'))
      have hr : ∀ L' : List (Addr × List Int), (∀ p ∈ L', ∃ q ∈ ks, p = (q.1, l2 q.2)) → RpAll X.K F1 (L'.map fun q => V.ref q.1) ((L'.map fun q => unl2 q.2).map pairAb) := by
        intro L'
        induction L' with
        | nil => intro _; exact .nil
        | cons p L' ih =>
          intro hm
          obtain ⟨q, hq, rfl⟩ := hm p List.mem_cons_self
          exact .cons (.tup (et q hq) (ints_dpAll [q.2.1, q.2.2])) (ih fun x hx => hm x (List.mem_cons_of_mem _ hx))
      refine k _ _ F1 (.c (.lst _)) ρ1 e1 l1 (newL s2 hd (hr L' mem')) (qq (L'.map fun q => unl2 q.2) (fun x hx => ?_) ?_)
      · obtain ⟨p, hp', rfl⟩ := List.mem_map.mp hx
        obtain ⟨q, hq, rfl⟩ := mem' p hp'
        rw [← ek]
        exact List.mem_map.mpr ⟨q, hq, rfl⟩
      · have hnd : (L'.map (·.2)).Nodup := hnd
        have key : ∀ L' : List (Addr × List Int), (∀ p ∈ L', ∃ q ∈ ks, p = (q.1, l2 q.2)) → (L'.map (·.2)).Nodup → (L'.map fun q => unl2 q.2).Nodup := by
          intro L'
          induction L' with
          | nil => intro _ _; exact List.nodup_nil
          | cons p L' ih =>
            intro hm nd
            rw [List.map_cons, List.nodup_cons] at nd ⊢
            refine ⟨fun hx => ?_, ih (fun x hx => hm x (List.mem_cons_of_mem _ hx)) nd.2⟩
            obtain ⟨p2, hp2, e⟩ := List.mem_map.mp hx
            obtain ⟨q, _, rfl⟩ := hm p List.mem_cons_self
            obtain ⟨q2, _, rfl⟩ := hm p2 (List.mem_cons_of_mem _ hp2)
            have e' : q2.2 = q.2 := e
            exact nd.1 (List.mem_map.mpr ⟨_, hp2, by show l2 q2.2 = l2 q.2; rw [e']⟩)
        exact key L' mem' hnd
end
end Ab
namespace Ab
open PySem PySem.Spec PyProof.Rows L2
section
variable {X : Cx} {ρ : List Sl} {κ : Nat → Bool} {k : Ks} {a b : Expr} {pos : Pos}
/-- x, y = a, b where a name is a cell: by way of a tuple -/
theorem as_parC (xo : XOk X) {N : List Str} {i j : Nat} {x y : Str} {px py pt pos : Pos} {kt k2 pt2} (hX : X.N = N) (hi : At N i x) (hj : At N j y)
    (h : AE X a ρ fun R ρ1 => ∃ r1 ρ1', Rets ρ1 R r1 ρ1' ∧ AE X b ρ1' fun R2 ρ2 => ∃ r2 ρ2', Rets ρ2 R2 r2 ρ2' ∧ ∃ ρ3 ρ4, SetAt ρ2' i (outSl r1) ρ3 ∧ SetAt ρ3 j (outSl r2) ρ4 ∧ k.nx ρ4)
    (hki : κ i = false := by rfl) (hkj : κ j = false := by rfl) (hx : Loc X.env.scope x := by first | exact Or.inl rfl | exact Or.inr rfl) (hy : Loc X.env.scope y := by first | exact Or.inl rfl | exact Or.inr rfl)
    (hfx : X.fn x = true ∨ X.env.scope.names.lookup x = some .local := by first | exact .inl rfl | exact .inr rfl) (hfy : X.fn y = true ∨ X.env.scope.names.lookup y = some .local := by first | exact .inl rfl | exact .inr rfl)
    (hw : swappedStores [.Tuple [.Name x px, .Name y py] kt pt] (.Tuple [a, b] k2 pt2) X.env = pure none := by rfl)
    (hs : swapsWithSole [.Tuple [.Name x px, .Name y py] kt pt] (.Tuple [a, b] k2 pt2) pos.line X.env = pure false := by rfl)
    (hz : (assignEach [.Tuple [.Name x px, .Name y py] kt pt] X.env).map (·.2) = [assign (.Tuple [.Name x px, .Name y py] kt pt) X.env] := by rfl)
    (h1 : starEach [a, b] X.env = (false, eval a X.env) :: starEach [b] X.env := by rfl) (h2 : starEach [b] X.env = (false, eval b X.env) :: starEach [] X.env := by rfl)
    (hs1 : (assignEach ([.Name x px, .Name y py]) X.env).map (·.2) = assign (.Name x px) X.env :: (assignEach [.Name y py] X.env).map (·.2) := by rfl) (hs2 : (assignEach ([.Name y py]) X.env).map (·.2) = assign (.Name y py) X.env :: (assignEach [] X.env).map (·.2) := by rfl)
    (hn : (assignEach [.Name x px, .Name y py] X.env).length = 2 := by rfl) (hst : (assignEach [.Name x px, .Name y py] X.env).findIdx? (·.1) = none := by rfl) :
    AS X κ (.Assign [.Tuple [.Name x px, .Name y py] kt pt] (.Tuple [a, b] k2 pt2) pos) ρ k := by
  refine .of (ps_asg (pe_tup (pa_cons (pe_any (e := a)) (pa_cons (pe_any (e := b)) pa_nil h2) h1)) (pg_tup xo.calm (pgs_cons (pg_name xo.nd (hX ▸ hi.get) hx hfx) (pgs_cons (pg_name xo.nd (hX ▸ hj.get) hy hfy) pgs_nil hs2) hs1) hn hst) hs hw hz) fun D σ H ⟨F, ρτ, στ, hl, s, n, rest⟩ => ?_
  refine ⟨ρ, _, h, F, ρτ, στ, hl, s, fun v H1 F1 R ρ1 e1 l1 ro ⟨r1, ρ1', q1, hb⟩ => ?_⟩
  obtain ⟨l1', s1⟩ := q1.ok ro l1
  refine ⟨ρ1', _, hb, F1, ρτ ++ [outSl r1], στ ++ [some v], l1', s1, fun w H2 F2 R2 ρ2 e2 l2 ro2 ⟨r2, ρ2', q2, ρ3, ρ4, t1, t2, hk⟩ => ?_⟩
  obtain ⟨l2', s2⟩ := q2.ok ro2 l2
  refine ⟨by show 2 ≤ sizeLine; decide, fun p hp => ?_⟩
  refine ⟨p, [v, w], rfl, SqT.of upd_same, rfl, v, [w], rfl, w, [], rfl, rfl, ?_⟩
  have hτ : ρτ.length = στ.length := by
    have := s.len
    simp only [List.length_append] at this
    omega
  have s2 := s2.side hp (.tup [v, w])
  have s2' : StOk X.K F2 (upd H2 p (.tup [v, w])) (ρ2' ++ (ρτ ++ outSl r1 :: [outSl r2])) (σ ++ (στ ++ some v :: [some w])) := by
    simpa using s2
  have s3 := s2'.put2 l2' hτ t1.eq.2
  rw [← t1.eq.1] at s3
  have l3 : ρ3.length = (σ.set i (some v)).length := by rw [t1.len, List.length_set]; exact l2'
  have s4 := StOk.put s3 l3 t2.eq.2
  rw [← t2.eq.1] at s4
  exact n _ _ F2 ρ4 (e1.trans e2) (by rw [List.length_set, List.length_set]) (by rw [t2.len, l3, List.length_set]) ((kept_set hki).trans (kept_set hkj)) s4 hk
end
end Ab
namespace Ab
open PySem PySem.Spec PyProof.Rows L2
section
variable {X : Cx} {ρ : List Sl} {Φ : Rs → List Sl → Prop} {a b : Expr} {pos p : Pos}
/-! ### built-ins of two numbers -/
theorem ae_two {id : String} {x : Str} {f : Int → Int → Int} (hc : CallR X (.builtin id) (fun xs H Q => ∃ i j, xs = [.int i, .int j] ∧ Q (.int (f i j)) H)) (hm : X.mg x = none) (hv : bootBuiltins x = some (.builtin id))
    (h : AE X a ρ fun R1 ρ1 => AE X b ρ1 fun R2 ρ2 => ∃ d, cII (fun i j => .int (f i j)) (rsSl ρ2 R1) (rsSl ρ2 R2) d ∧ Φ (.v d) ρ2)
    (hg : Gl X x := by rfl) (hn : x ≠ "__name__" := by decide) (hdb : (x == ("__debug__" : Str)) = false := by decide)
    (h1 : starEach [a, b] X.env = (false, eval a X.env) :: starEach [b] X.env := by rfl) (h2 : starEach [b] X.env = (false, eval b X.env) :: starEach [] X.env := by rfl) (hpl : (backTo pos (starEach [b] X.env)).any (·.1) = false := by rfl) :
    AE X (.Call (.Name x p) [a, b] [] pos) ρ Φ :=
  .of (pe_callB hc hg hm hv (pa_cons (pe_any (e := a)) (pa_cons (pe_any (e := b)) pa_nil h2) h1) hn hdb h1 hpl) fun σ H Q ⟨F, ρτ, στ, hl, st, k⟩ =>
    two (Q := fun _ _ => True) (r := fun v1 v2 H2 _ => ∃ i j, [v1, v2] = [V.int i, V.int j] ∧ Q (.int (f i j)) H2) (Ga := fun s1 s2 ρ2 => ∃ d, cII (fun i j => .int (f i j)) s1 s2 d ∧ Φ (.v d) ρ2) hl st h fun s1 s2 ρ2 F2 H2 v1 v2 ⟨d, ⟨i, j, e1, e2, e3⟩, q⟩ e l t o1 o2 => by
      subst e1; subst e2; subst e3
      exact ⟨i, j, by rw [dp_int o1, dp_int o2], k _ H2 F2 (.v (.int (f i j))) ρ2 e l ⟨t, .int _⟩ q⟩
theorem b_max : bootBuiltins "max" = some (.builtin "max") := rfl
theorem b_min : bootBuiltins "min" = some (.builtin "min") := rfl
theorem ae_max2 (xo : XOk X) (hm : X.mg "max" = none) (h : AE X a ρ fun R1 ρ1 => AE X b ρ1 fun R2 ρ2 => ∃ d, cII (fun i j => .int (if j > i then j else i)) (rsSl ρ2 R1) (rsSl ρ2 R2) d ∧ Φ (.v d) ρ2)
    (hg : Gl X "max" := by rfl) (h1 : starEach [a, b] X.env = (false, eval a X.env) :: starEach [b] X.env := by rfl) (h2 : starEach [b] X.env = (false, eval b X.env) :: starEach [] X.env := by rfl) (hpl : (backTo pos (starEach [b] X.env)).any (·.1) = false := by rfl) :
    AE X (.Call (.Name "max" p) [a, b] [] pos) ρ Φ := ae_two (call_max2 xo.calm) hm b_max h hg (by decide) (by decide) h1 h2 hpl
theorem ae_min2 (xo : XOk X) (hm : X.mg "min" = none) (h : AE X a ρ fun R1 ρ1 => AE X b ρ1 fun R2 ρ2 => ∃ d, cII (fun i j => .int (if j < i then j else i)) (rsSl ρ2 R1) (rsSl ρ2 R2) d ∧ Φ (.v d) ρ2)
    (hg : Gl X "min" := by rfl) (h1 : starEach [a, b] X.env = (false, eval a X.env) :: starEach [b] X.env := by rfl) (h2 : starEach [b] X.env = (false, eval b X.env) :: starEach [] X.env := by rfl) (hpl : (backTo pos (starEach [b] X.env)).any (·.1) = false := by rfl) :
    AE X (.Call (.Name "min" p) [a, b] [] pos) ρ Φ := ae_two (call_min2 xo.calm) hm b_min h hg (by decide) (by decide) h1 h2 hpl
/-! ### a tuple of plain tuples of numbers == () -/
def plI (r : List Int) : D := plT (r.map .int)
theorem dp_plI {K : PySem.W.Frag} {F H : Hp} (e : Same F H) : ∀ {rs : List (List Int)} {vs : List V}, RpAll K F vs (rs.map plI) → DpAll K H vs (rs.map fun r => .tuple (r.map .int))
  | [], _, h => by cases h; exact .nil
  | r :: rs, _, h => by
    cases h with
    | cons h1 h2 =>
      refine .cons ?_ (dp_plI e h2)
      cases (show Rp K F _ (.dict [(.tuple (r.map .int), .none)]) from h1) with
      | plt hs ho ha =>
        rw [dpAll_ints ha] at hs
        have : ∀ ns : List Int, DpAll K H (ns.map V.int) (ns.map PyData.int) := by
          intro ns
          induction ns with
          | nil => exact .nil
          | cons n ns ih => exact .cons (.int n) ih
        exact .tup (.inl (.inr ⟨_, e _ _ hs⟩)) (this r)
theorem shaped_rows (rs : List (List Int)) : SeqAt.shaped (.tuple (rs.map fun r => PyData.tuple (r.map .int))) = true := by
  have c : ∀ l : List Int, PyData.canLayAll0 (l.map PyData.int) = true := by
    intro l
    induction l with
    | nil => rfl
    | cons a l ih => rw [List.map_cons]; unfold PyData.canLayAll0; rw [ih]; rfl
  have d : ∀ l : List Int, PyData.depthAll (l.map PyData.int) ≤ 1 := by
    intro l
    induction l with
    | nil => decide
    | cons a l ih =>
      rw [List.map_cons]; unfold PyData.depthAll
      have e : (PyData.int a).depth ≤ 1 := by simp [PyData.depth]
      omega
  have c2 : ∀ rs : List (List Int), PyData.canLayAll0 (rs.map fun r => PyData.tuple (r.map .int)) = true := by
    intro rs
    induction rs with
    | nil => rfl
    | cons r rs ih =>
      rw [List.map_cons]; unfold PyData.canLayAll0; rw [ih]
      have := c r
      simp [PyData.canLay0, this]
  have d2 : ∀ rs : List (List Int), PyData.depthAll (rs.map fun r => PyData.tuple (r.map .int)) ≤ 3 := by
    intro rs
    induction rs with
    | nil => decide
    | cons r rs ih =>
      rw [List.map_cons]; unfold PyData.depthAll
      have := d r
      have e : (PyData.tuple (r.map .int)).depth ≤ 3 := by unfold PyData.depth; omega
      omega
  unfold SeqAt.shaped
  rw [Bool.and_eq_true]
  constructor
  · simpa [PyData.canLay0] using c2 rs
  · rw [decide_eq_true_iff]
    have := d2 rs
    unfold PyData.depth
    omega
inductive cEqPl (s1 s2 : Sl) (d : D) : Prop
  | mk (rs : List (List Int)) : s1 = .va (.tuple (rs.map plI)) → s2 = .va (.tuple []) → d = .bool (decide (rs = [])) → cEqPl s1 s2 d
theorem ok_eqPl : OpOk X (rEqD X.K) cEqPl := fun F H ρ σ v1 v2 s1 s2 d Q st o1 o2 ⟨rs, e1, e2, e⟩ k => by
  subst e1; subst e2; subst e
  cases (show Rp X.K F v1 (.tuple (rs.map plI)) from o1) with
  | tup hs ha =>
    refine ⟨.tuple (rs.map fun r => .tuple (r.map .int)), .tuple [], .tup (SqT.of (st.sub _ _ hs)) (dp_plI st.sub ha), ?_, shaped_rows rs, rfl, ?_⟩
    · cases (show Rp X.K F v2 (.tuple []) from o2) with
      | tup gs ga => cases ga; exact .tup (SqT.of (st.sub _ _ gs)) .nil
    · have : PyData.eqv (.tuple (rs.map fun r => .tuple (r.map .int))) (.tuple []) = decide (rs = []) := by
        cases rs with
        | nil => rfl
        | cons r rs => simp [PyData.eqv, PyData.eqvAll]
      rw [this]
      exact k _ H F (Same.refl F) (fun _ _ q => q) (.bl _)
theorem at_eqPl {Φ : Bool → List Sl → Prop} (xo : XOk X) (h : AE X a ρ fun R1 ρ1 => AE X b ρ1 fun R2 ρ2 => ∃ k, cEqPl (rsSl ρ2 R1) (rsSl ρ2 R2) (.bool k) ∧ Φ k ρ2) : AT X (.Compare a [.Eq] [b] pos) ρ Φ :=
  at_cmp (op_eqD (by have := xo.units; omega)) ok_eqPl (nomark _) h
/-! ### f(k = v, l = w) -/
theorem kbn_of {K : PySem.W.Frag} {x qual : Str} {st : Stmt} {f : Addr} {fd : FuncData} {ps : List Str} (F : L2.Fun K x qual st f fd)
    (h : ∀ (kV doc pm : Value) (an : Option Addr) (cdv ct : Value) (ws : List Value), ws.length = ps.length → bindArgs (PySem.W.fnOf x qual (defArgs st) (defBody st) (defScope st) .none kV doc pm an cdv ct) ⟨[], ps.zip ws⟩ = pure (ps.zip ws)) :
    L2.KBn K fd ps 0 ps (fun _ ws => ws) (fun _ zs => zs) := by
  obtain ⟨oc, od, kV, doc, pm, an, cdv, ct, osl, rfl, lk, hcd⟩ := F.ex
  refine ⟨fun s us ws _ l1 l2 => ?_, fun _ r => r⟩
  have : us = [] := List.length_eq_zero_iff.mp l1
  subst this
  exact .of_eq (h kV doc pm an cdv ct ws l2)
theorem pe_callN0 {CX : CXT} {k : Nat} {f : Addr} {fd : FuncData} {ps ks : List Str} {sp : Sp} {E : XK} {x : Str} {p pos : Pos} {kws : List Keyword} {tk : TA} {g : List Value → List Value → List Value} {gV : List V → List V → List V}
    (F : FnOk X.prog X.w X.K X.mg X.base CX k f fd ps sp) (hr : Room k X.A) (hg : Gl X x) (hm : X.mg x = some (.ref f)) (hk : PySem.W.keepIn X.K (.ref f) = true) (hb : L2.KBn X.K fd ps 0 ks g gV) (hx : Passes CX X E)
    (hkw : PK X kws tk) (hall : (backToKw pos (keywordEach kws X.env)).all (·.1.isSome) = true := by rfl) (hks : (backToKw pos (keywordEach kws X.env)).filterMap (·.1) = ks := by rfl)
    (hdb : (x == ("__debug__" : Str)) = false := by decide) (hpl : ((backTo pos (starEach [] X.env)).any (·.1) || (backToKw pos (keywordEach kws X.env)).any (·.1.isNone)) = false := by rfl) :
    PE X (.Call (.Name x p) [] kws pos) (fun σ H Q => tk σ H fun zs H2 => zs.length = ks.length ∧ sp (gV [] zs) H2 Q E) := by
  refine ⟨fun pins s σ H Q I h => ?_⟩
  refine wpAny_Call_Name_kw (ld_glob I hg hm ?_ hdb)
  refine PySem.W.callWith_KW0 (h₀ := X.base) I.ok.mod.kin hk hall ?_ hpl
  refine thn (hkw.run pos pins s σ H _ I h) fun ws s2 ⟨zs, H2, I2, rz, l2, q2⟩ => ⟨I2.kIn, ?_⟩
  rw [hks]
  exact run_fnN F hr hb hx I2 .nil rz rfl l2 q2
theorem ae_callKw {x : Str} {ps : List Str} {k : Nat} {S : Spc} {p pos p1 p2 : Pos} {n1 n2 : Option Str} {f : Addr} {fd : FuncData} (Fn : FnOk X.prog X.w X.K X.mg X.base CX0 k f fd ps (spP X.K ps.length S)) (hm : X.mg x = some (.ref f)) (hk : PySem.W.keepIn X.K (.ref f) = true)
    (hb : L2.KBn X.K fd ps 0 ps (fun _ ws => ws) (fun _ zs => zs)) (h2 : ps.length = 2) (hr : Room k X.A)
    (h : AE X a ρ fun R1 ρ1 => AE X b ρ1 fun R2 ρ2 => ∃ d1 d2, rsSl ρ2 R1 = .va d1 ∧ rsSl ρ2 R2 = .va d2 ∧ S [d1, d2] fun R => Φ R ρ2) (hg : Gl X x := by rfl)
    (hall : (backToKw pos (keywordEach [⟨n1, a, p1⟩, ⟨n2, b, p2⟩] X.env)).all (·.1.isSome) = true := by rfl) (hks : (backToKw pos (keywordEach [⟨n1, a, p1⟩, ⟨n2, b, p2⟩] X.env)).filterMap (·.1) = ps := by rfl)
    (hdb : (x == ("__debug__" : Str)) = false := by decide) (hpl : ((backTo pos (starEach [] X.env)).any (·.1) || (backToKw pos (keywordEach [⟨n1, a, p1⟩, ⟨n2, b, p2⟩] X.env)).any (·.1.isNone)) = false := by rfl) :
    AE X (.Call (.Name x p) [] [⟨n1, a, p1⟩, ⟨n2, b, p2⟩] pos) ρ Φ := by
  refine .of (pe_callN0 Fn hr hg hm hk hb pass0 (pk_cons (pe_any (e := a)) (pk_cons (pe_any (e := b)) pk_nil)) hall hks hdb hpl) fun σ H Q ⟨F, ρτ, στ, hl, st, kk⟩ => ?_
  refine two (Q := fun _ _ => True) (r := fun v1 v2 H2 _ => [v1, v2].length = ps.length ∧ spP X.K ps.length S [v1, v2] H2 Q _) (Ga := fun s1 s2 ρ2 => ∃ d1 d2, s1 = .va d1 ∧ s2 = .va d2 ∧ S [d1, d2] fun R => Φ R ρ2) hl st h fun s1 s2 ρ2 F2 H2 v1 v2 ⟨d1, d2, e1, e2, hS⟩ e l t o1 o2 => ?_
  subst e1; subst e2
  refine ⟨h2.symm, h2.symm, F2, ρ2 ++ ρτ, σ ++ στ, [d1, d2], _, t, .cons o1 (.cons o2 .nil), hS, fun v H3 F3 R e3 ro q => ?_⟩
  refine kk v H3 F3 R ρ2 (e.trans e3) l ?_ q
  cases R with
  | v d => exact ro
  | c c =>
    have ro : StOk X.K F3 H3 ((ρ2 ++ ρτ) ++ [.ce c]) ((σ ++ στ) ++ [some v]) := ro
    rw [List.append_assoc, List.append_assoc] at ro
    exact ro
  | al i => exact ro.elim
end
theorem fnOk_of {P : Program} {w : World} {K : PySem.W.Frag} {mg : Str → Option Value} {base : Heap} {x : Str} {st : Stmt} {f : Addr} {fd : FuncData} {N ps : List Str} {k : Nat} {S : Spc} (Fn : Fun K x x st f fd) (Sc : FnScope N ps (defScope st)) (hl : ps.length ≤ N.length)
    (body : ∀ (cdv : Value) (A : Around) (outer : List Env) (s : Shared) (H : Hp) (E : XK) (ds : List D) (Φ : Rs → Prop), Room k (A.deeper (envOfC x (defScope st) s.heap.objs.size f cdv)) → XOk (cxOf CX0 P w K mg base N x (defScope st) f cdv A outer s H E).nox →
      S ds Φ → ds.length = ps.length → ASs (cxOf CX0 P w K mg base N x (defScope st) f cdv A outer s H E).nox k0 (defBody st) (entry ds (N.length - ps.length)) (kP Φ)) :
    FnOk P w K mg base CX0 (k + 1) f fd ps (spP K ps.length S) := by
  refine Fn.ok Sc (fun vs H Q E h => h.1) (fun cdv A outer s H vs Q E hr h => ?_)
  obtain ⟨hlen, F, ρτ, στ, ds, Φ, s0, hd, hS, kk⟩ := h
  have hdl : ds.length = ps.length := (dpAll_len hd).symm.trans hlen
  refine ⟨_, (body cdv A outer s H E ds Φ hr ⟨rfl, Sc.nd, units_of hr⟩ hS hdl).ps, ?_⟩
  have e1 : (entry ds (N.length - ps.length)).length = (L2.start N vs).length := by
    unfold entry L2.start
    simp only [List.length_append, List.length_map, List.length_replicate]
    omega
  have fin : ∀ {σ' : L2.St} {H' F' : Hp} {ρ' : List Sl} {r : Rs} {v : V}, Same F F' → ρ'.length = σ'.length → StOk K F' H' (ρ' ++ (ρτ ++ [outSl r])) (σ' ++ (στ ++ [some v])) → (∀ i, r ≠ .al i) → Φ r → Q v H' := by
    intro σ' H' F' ρ' r v e l s' nal hΦ
    refine kk v H' F' r e ?_ hΦ
    have s2 := s'.leave l
    cases r with
    | v d =>
      have h3 : StOk K F' H' ρτ στ := s2.left s0.len
      refine ⟨h3, ?_⟩
      obtain ⟨u, g1, g2⟩ := s2.va ρτ.length d (by rw [List.getElem?_append_right (Nat.le_refl _), Nat.sub_self]; rfl)
      rw [s0.len, List.getElem?_append_right (Nat.le_refl _), Nat.sub_self] at g1
      cases g1
      exact g2
    | c c => exact s2
    | al i => exact absurd rfl (nal i)
  have nosp : ∀ (σ : L2.St) (D' : L2.St → Hp → Prop), WNx K k0 F ρτ στ σ noBk D' := fun σ D' σ' H' F' ρ' _ _ _ _ _ q => q.elim
  refine ⟨F, ρτ, στ, e1, ?_, fun σ' H' F' ρ' e l1 l2 _ s' q => ?_, fun v σ' H' F' ρ' r na e l1 l2 _ s' q => ?_, nosp _ _, nosp _ _⟩
  · have := s0.enter hd (N.length - ps.length)
    rw [← hlen] at this ⊢
    exact this
  · exact fin (r := .v .none) e (l2.trans l1.symm) (StOk.addVa' s' .non) (fun i z => nomatch z) q
  · exact fin e (l2.trans l1.symm) s' na q
theorem fnOk_by {P : Program} {w : World} {K : PySem.W.Frag} {mg : Str → Option Value} {base : Heap} {x : Str} {st : Stmt} {f : Addr} {fd : FuncData} {N ps : List Str} {k : Nat} {S : Spc} (Fn : Fun K x x st f fd) (Sc : FnScope N ps (defScope st)) (hl : ps.length ≤ N.length)
    (body : ∀ (cdv : Value) (A : Around) (outer : List Env) (s : Shared) (H : Hp) (E : XK) (ds : List D) (Φ : Rs → Prop), Room k (A.deeper (envOfC x (defScope st) s.heap.objs.size f cdv)) → XOk (cxOf CX0 P w K mg base N x (defScope st) f cdv A outer s H E).nox →
      (cxOf CX0 P w K mg base N x (defScope st) f cdv A outer s H E).nox.N = N → S ds Φ → ASs (cxOf CX0 P w K mg base N x (defScope st) f cdv A outer s H E).nox k0 (defBody st) (entry ds (N.length - ps.length)) (kP Φ)) :
    FnOk P w K mg base CX0 (k + 1) f fd ps (spP K ps.length S) := fnOk_of Fn Sc hl fun cdv A outer s H E ds Φ hr xo hS _ => body cdv A outer s H E ds Φ hr xo rfl hS
end Ab
namespace K69
open PySem PySem.Spec PyProof.Rows L2 Ab
local macro_rules | `(tactic| nofun) => `(tactic| first | exact SetAt.zero | exact SetAt.succ .zero | exact SetAt.succ (.succ .zero) | exact SetAt.succ (.succ (.succ .zero)) | exact SetAt.succ (.succ (.succ (.succ .zero))) | exact SetAt.succ (.succ (.succ (.succ (.succ .zero)))) | exact SetAt.succ (.succ (.succ (.succ (.succ (.succ .zero))))) | exact SetAt.succ (.succ (.succ (.succ (.succ (.succ (.succ .zero)))))) | exact SetAt.succ (.succ (.succ (.succ (.succ (.succ (.succ (.succ .zero))))))) | exact SetAt.succ (.succ (.succ (.succ (.succ (.succ (.succ (.succ (.succ .zero)))))))) | exact SetAt.succ (.succ (.succ (.succ (.succ (.succ (.succ (.succ (.succ (.succ .zero))))))))) | exact SetAt.succ (.succ (.succ (.succ (.succ (.succ (.succ (.succ (.succ (.succ (.succ .zero)))))))))) | exact SetAt.succ (.succ (.succ (.succ (.succ (.succ (.succ (.succ (.succ (.succ (.succ (.succ .zero))))))))))) | exact SetAt.succ (.succ (.succ (.succ (.succ (.succ (.succ (.succ (.succ (.succ (.succ (.succ (.succ .zero)))))))))))) | exact SetAt.succ (.succ (.succ (.succ (.succ (.succ (.succ (.succ (.succ (.succ (.succ (.succ (.succ (.succ .zero))))))))))))) | exact SetAt.succ (.succ (.succ (.succ (.succ (.succ (.succ (.succ (.succ (.succ (.succ (.succ (.succ (.succ (.succ .zero)))))))))))))) | exact SetAt.succ (.succ (.succ (.succ (.succ (.succ (.succ (.succ (.succ (.succ (.succ (.succ (.succ (.succ (.succ (.succ .zero))))))))))))))) | exact SetAt.succ (.succ (.succ (.succ (.succ (.succ (.succ (.succ (.succ (.succ (.succ (.succ (.succ (.succ (.succ (.succ (.succ .zero)))))))))))))))) | exact SetAt.succ (.succ (.succ (.succ (.succ (.succ (.succ (.succ (.succ (.succ (.succ (.succ (.succ (.succ (.succ (.succ (.succ (.succ .zero))))))))))))))))) | exact SetAt.succ (.succ (.succ (.succ (.succ (.succ (.succ (.succ (.succ (.succ (.succ (.succ (.succ (.succ (.succ (.succ (.succ (.succ (.succ .zero)))))))))))))))))) | exact SetAt.succ (.succ (.succ (.succ (.succ (.succ (.succ (.succ (.succ (.succ (.succ (.succ (.succ (.succ (.succ (.succ (.succ (.succ (.succ (.succ .zero))))))))))))))))))) | exact SetAt.succ (.succ (.succ (.succ (.succ (.succ (.succ (.succ (.succ (.succ (.succ (.succ (.succ (.succ (.succ (.succ (.succ (.succ (.succ (.succ (.succ .zero)))))))))))))))))))))
local macro_rules | `(tactic| ac_rfl) => `(tactic| with_reducible first | exact At.zero | exact At.succ .zero | exact At.succ (.succ .zero) | exact At.succ (.succ (.succ .zero)) | exact At.succ (.succ (.succ (.succ .zero))) | exact At.succ (.succ (.succ (.succ (.succ .zero)))) | exact At.succ (.succ (.succ (.succ (.succ (.succ .zero))))) | exact At.succ (.succ (.succ (.succ (.succ (.succ (.succ .zero)))))) | exact At.succ (.succ (.succ (.succ (.succ (.succ (.succ (.succ .zero))))))) | exact At.succ (.succ (.succ (.succ (.succ (.succ (.succ (.succ (.succ .zero)))))))) | exact At.succ (.succ (.succ (.succ (.succ (.succ (.succ (.succ (.succ (.succ .zero))))))))) | exact At.succ (.succ (.succ (.succ (.succ (.succ (.succ (.succ (.succ (.succ (.succ .zero)))))))))) | exact At.succ (.succ (.succ (.succ (.succ (.succ (.succ (.succ (.succ (.succ (.succ (.succ .zero))))))))))) | exact At.succ (.succ (.succ (.succ (.succ (.succ (.succ (.succ (.succ (.succ (.succ (.succ (.succ .zero)))))))))))) | exact At.succ (.succ (.succ (.succ (.succ (.succ (.succ (.succ (.succ (.succ (.succ (.succ (.succ (.succ .zero))))))))))))) | exact At.succ (.succ (.succ (.succ (.succ (.succ (.succ (.succ (.succ (.succ (.succ (.succ (.succ (.succ (.succ .zero)))))))))))))) | exact At.succ (.succ (.succ (.succ (.succ (.succ (.succ (.succ (.succ (.succ (.succ (.succ (.succ (.succ (.succ (.succ .zero))))))))))))))) | exact At.succ (.succ (.succ (.succ (.succ (.succ (.succ (.succ (.succ (.succ (.succ (.succ (.succ (.succ (.succ (.succ (.succ .zero)))))))))))))))) | exact At.succ (.succ (.succ (.succ (.succ (.succ (.succ (.succ (.succ (.succ (.succ (.succ (.succ (.succ (.succ (.succ (.succ (.succ .zero))))))))))))))))) | exact At.succ (.succ (.succ (.succ (.succ (.succ (.succ (.succ (.succ (.succ (.succ (.succ (.succ (.succ (.succ (.succ (.succ (.succ (.succ .zero)))))))))))))))))) | exact At.succ (.succ (.succ (.succ (.succ (.succ (.succ (.succ (.succ (.succ (.succ (.succ (.succ (.succ (.succ (.succ (.succ (.succ (.succ (.succ .zero))))))))))))))))))) | exact At.succ (.succ (.succ (.succ (.succ (.succ (.succ (.succ (.succ (.succ (.succ (.succ (.succ (.succ (.succ (.succ (.succ (.succ (.succ (.succ (.succ .zero)))))))))))))))))))))
local macro_rules | `(tactic| infer_instance) => `(tactic| first
  | (show AE _ _ _ _; first | refine ae_nm (by assumption) (by ac_rfl) ?_ | refine ae_int ?_ | refine ae_add ?_ | refine ae_ix ?_ | refine ae_sub ?_ | refine ae_pow ?_ | refine ae_mul ?_ | refine ae_mod ?_ | refine ae_fdv ?_ | refine ae_tup ?_ | refine ae_lst ?_ | refine ae_t1 call_int1 ok_int1 (by assumption) b_int ?_ | refine ae_b1 call_len_seq ok_len (by assumption) b_len ?_ | refine ae_b1 call_abs ok_abs (by assumption) b_abs ?_ | refine ae_t1L call_list_of ok_listOf (by assumption) b_list ?_ | refine ae_t1 call_tuple_of ok_tupOf (by assumption) b_tuple ?_ | refine ae_ifExp ?_ | refine ae_bl ?_ | refine ae_non ?_ | refine ae_neg ?_)
  | (show AS _ _ _ _ _; first | refine as_st (by assumption) (by assumption) (by ac_rfl) ?_ | refine as_if ?_ | refine as_ret ?_ | refine as_expr ?_ | refine as_par (by assumption) (by assumption) (by ac_rfl) (by ac_rfl) ?_ | refine as_pass ?_ | refine as_continue ?_ | refine as_break ?_)
  | (show AT _ _ _ _; first | refine at_gt ?_ | refine at_ge ?_ | refine at_lt ?_ | refine at_le ?_ | refine at_eqI ?_ | refine at_neI ?_ | refine at_not ?_)
  | (show AAs _ _ _ _; first | refine aa_one ?_ | refine aa_nil ?_)
  | (show ∃ d, cII _ _ _ _ ∧ _; first | refine c_ii rfl rfl ?_ | refine c_iib rfl rfl ?_)
  | (show ∃ d, cIx _ _ _ ∧ _; first | refine c_ix rfl rfl rfl ?_)
  | (show ∃ d, cIIc _ _ _ _ _ ∧ _; first | refine c_iic rfl rfl (by first | omega | exact ⟨by omega, by omega⟩ | (unfold CMul; omega) | (unfold CPow; decide)) ?_)
  | (show ∃ ρ', Puts _ _ _ ρ' ∧ _; first | refine puts_v (by nofun) ?_ | refine puts_c (by nofun) ?_ | refine puts_av rfl (by nofun) ?_ | refine puts_ac rfl (by nofun) (by nofun) ?_)
  | (show ∃ a ρ', Fz _ _ a ρ' ∧ _; first | refine fz_v ?_ | refine fz_av rfl ?_ | refine fz_c ?_ | refine fz_ac rfl (by nofun) ?_ | refine fz_bx rfl ?_)
  | (show ∃ a ρ', Rets _ _ a ρ' ∧ _; first | refine rets_v ?_ | refine rets_av rfl ?_ | refine rets_c ?_ | refine rets_ac rfl (by nofun) ?_)
  | (show ∃ ρ3 ρ4, SetAt _ _ (outSl _) ρ3 ∧ SetAt ρ3 _ (outSl _) ρ4 ∧ _; first | refine c_par (by nofun) (by nofun) ?_)
  | (show ∃ a ρ', Fz _ _ (.d a) ρ' ∧ _; first | refine fzd_v ?_ | refine fzd_av rfl ?_ | refine fzd_c ?_ | refine fzd_ac rfl (by nofun) ?_)
  | refine c_len rfl ?_
  | refine c_int1 rfl ?_
  | refine c_abs rfl ?_
  | refine c_items rfl ?_
  | refine c_tup rfl ?_
  | refine c_ds2 ?_
  | refine c_ds0 ?_
  | refine c_ds1 ?_
  | refine c_ds3 ?_
  | refine And.intro rfl ?_)
local macro_rules | `(tactic| rfl') => `(tactic| first | infer_instance | refine as_cons ?_ | refine as_nil ?_)
def topS (i : Nat) : Stmt := PySem.Challenge.pw_onlysums_k69_orders_that_keep_conditions.main.body.getD i (.Pass ⟨0, 0, 0, 0⟩)
abbrev sTake : Stmt := topS 8
section
variable {P : Program} {w : World} {K : PySem.W.Frag} {mg : Str → Option Value} {base : Heap}
theorem scTake : FnScope ["box", "many", "digit", "raw"] ["box", "many"] (defScope sTake) := ⟨rfl, rfl, rfl, by decide +kernel, rfl, by decide +kernel, by decide +kernel⟩
def SpTake : Spc := fun ds Φ => ∃ n : Int, ds = [.int n] ∧ 1 ≤ n ∧ n < 1000000 ∧ ∀ r : Int, 0 ≤ r → r < n → Φ (.v (.int r))
theorem ok_take {f : Addr} {fd : FuncData} (Fn : Fun K "_law_take" "_law_take" sTake f fd) (hm : mg "_law_take" = some (.ref f)) (hb : L2.Binds K fd ["box", "many"] []) (mInt : mg "int" = none) : FnB P w K mg base "_law_take" ["box", "many"] 1 SpTake := by
  refine fnB_by Fn scTake hm hb (by decide) fun cdv A outer s H E ds Φ hr xo hX hS => ?_
  obtain ⟨n, rfl, h1, h2, q⟩ := hS
  refine as_open 0 rfl fun g m b1 b2 b3 => ⟨_, .zero, ?_⟩
  repeat rfl'
  refine ⟨fun hc => ?_, fun hc => ?_⟩
  · have hc : 0 < g := by simpa using hc
    repeat rfl'
    refine as_setItem 0 ?_
    repeat rfl'
    refine c_box0 rfl rfl .zero ?_
    refine as_close 0 rfl (Int.ediv_nonneg b1 (by omega)) b2 b3 .zero ?_
    repeat rfl'
    exact q _ (Int.emod_nonneg _ (by omega)) (Int.emod_lt_of_pos _ (by omega))
  · repeat rfl'
    refine as_setItem 0 ?_
    repeat rfl'
    refine c_box1 rfl rfl .zero ?_
    refine as_close 0 rfl b1 (by omega) (by omega) .zero ?_
    refine as_open 0 rfl fun g m b1 b2 b3 => ⟨_, .zero, ?_⟩
    refine as_cons ?_
    refine as_ret ?_
    refine ae_close 0 ?_
    repeat rfl'
    refine ⟨_, _, _, _, rfl, rfl, ⟨b1, b2, b3⟩, .zero, ?_⟩
    repeat rfl'
    exact q _ (Int.emod_nonneg _ (by omega)) (Int.emod_lt_of_pos _ (by omega))
end
end K69
namespace K69
open PySem PySem.Spec PyProof.Rows L2 Ab
local macro_rules | `(tactic| nofun) => `(tactic| first | exact SetAt.zero | exact SetAt.succ .zero | exact SetAt.succ (.succ .zero) | exact SetAt.succ (.succ (.succ .zero)) | exact SetAt.succ (.succ (.succ (.succ .zero))) | exact SetAt.succ (.succ (.succ (.succ (.succ .zero)))) | exact SetAt.succ (.succ (.succ (.succ (.succ (.succ .zero))))) | exact SetAt.succ (.succ (.succ (.succ (.succ (.succ (.succ .zero)))))) | exact SetAt.succ (.succ (.succ (.succ (.succ (.succ (.succ (.succ .zero))))))) | exact SetAt.succ (.succ (.succ (.succ (.succ (.succ (.succ (.succ (.succ .zero)))))))) | exact SetAt.succ (.succ (.succ (.succ (.succ (.succ (.succ (.succ (.succ (.succ .zero))))))))) | exact SetAt.succ (.succ (.succ (.succ (.succ (.succ (.succ (.succ (.succ (.succ (.succ .zero)))))))))) | exact SetAt.succ (.succ (.succ (.succ (.succ (.succ (.succ (.succ (.succ (.succ (.succ (.succ .zero))))))))))) | exact SetAt.succ (.succ (.succ (.succ (.succ (.succ (.succ (.succ (.succ (.succ (.succ (.succ (.succ .zero)))))))))))) | exact SetAt.succ (.succ (.succ (.succ (.succ (.succ (.succ (.succ (.succ (.succ (.succ (.succ (.succ (.succ .zero))))))))))))) | exact SetAt.succ (.succ (.succ (.succ (.succ (.succ (.succ (.succ (.succ (.succ (.succ (.succ (.succ (.succ (.succ .zero)))))))))))))) | exact SetAt.succ (.succ (.succ (.succ (.succ (.succ (.succ (.succ (.succ (.succ (.succ (.succ (.succ (.succ (.succ (.succ .zero))))))))))))))) | exact SetAt.succ (.succ (.succ (.succ (.succ (.succ (.succ (.succ (.succ (.succ (.succ (.succ (.succ (.succ (.succ (.succ (.succ .zero)))))))))))))))) | exact SetAt.succ (.succ (.succ (.succ (.succ (.succ (.succ (.succ (.succ (.succ (.succ (.succ (.succ (.succ (.succ (.succ (.succ (.succ .zero))))))))))))))))) | exact SetAt.succ (.succ (.succ (.succ (.succ (.succ (.succ (.succ (.succ (.succ (.succ (.succ (.succ (.succ (.succ (.succ (.succ (.succ (.succ .zero)))))))))))))))))) | exact SetAt.succ (.succ (.succ (.succ (.succ (.succ (.succ (.succ (.succ (.succ (.succ (.succ (.succ (.succ (.succ (.succ (.succ (.succ (.succ (.succ .zero))))))))))))))))))) | exact SetAt.succ (.succ (.succ (.succ (.succ (.succ (.succ (.succ (.succ (.succ (.succ (.succ (.succ (.succ (.succ (.succ (.succ (.succ (.succ (.succ (.succ .zero)))))))))))))))))))))
local macro_rules | `(tactic| ac_rfl) => `(tactic| with_reducible first | exact At.zero | exact At.succ .zero | exact At.succ (.succ .zero) | exact At.succ (.succ (.succ .zero)) | exact At.succ (.succ (.succ (.succ .zero))) | exact At.succ (.succ (.succ (.succ (.succ .zero)))) | exact At.succ (.succ (.succ (.succ (.succ (.succ .zero))))) | exact At.succ (.succ (.succ (.succ (.succ (.succ (.succ .zero)))))) | exact At.succ (.succ (.succ (.succ (.succ (.succ (.succ (.succ .zero))))))) | exact At.succ (.succ (.succ (.succ (.succ (.succ (.succ (.succ (.succ .zero)))))))) | exact At.succ (.succ (.succ (.succ (.succ (.succ (.succ (.succ (.succ (.succ .zero))))))))) | exact At.succ (.succ (.succ (.succ (.succ (.succ (.succ (.succ (.succ (.succ (.succ .zero)))))))))) | exact At.succ (.succ (.succ (.succ (.succ (.succ (.succ (.succ (.succ (.succ (.succ (.succ .zero))))))))))) | exact At.succ (.succ (.succ (.succ (.succ (.succ (.succ (.succ (.succ (.succ (.succ (.succ (.succ .zero)))))))))))) | exact At.succ (.succ (.succ (.succ (.succ (.succ (.succ (.succ (.succ (.succ (.succ (.succ (.succ (.succ .zero))))))))))))) | exact At.succ (.succ (.succ (.succ (.succ (.succ (.succ (.succ (.succ (.succ (.succ (.succ (.succ (.succ (.succ .zero)))))))))))))) | exact At.succ (.succ (.succ (.succ (.succ (.succ (.succ (.succ (.succ (.succ (.succ (.succ (.succ (.succ (.succ (.succ .zero))))))))))))))) | exact At.succ (.succ (.succ (.succ (.succ (.succ (.succ (.succ (.succ (.succ (.succ (.succ (.succ (.succ (.succ (.succ (.succ .zero)))))))))))))))) | exact At.succ (.succ (.succ (.succ (.succ (.succ (.succ (.succ (.succ (.succ (.succ (.succ (.succ (.succ (.succ (.succ (.succ (.succ .zero))))))))))))))))) | exact At.succ (.succ (.succ (.succ (.succ (.succ (.succ (.succ (.succ (.succ (.succ (.succ (.succ (.succ (.succ (.succ (.succ (.succ (.succ .zero)))))))))))))))))) | exact At.succ (.succ (.succ (.succ (.succ (.succ (.succ (.succ (.succ (.succ (.succ (.succ (.succ (.succ (.succ (.succ (.succ (.succ (.succ (.succ .zero))))))))))))))))))) | exact At.succ (.succ (.succ (.succ (.succ (.succ (.succ (.succ (.succ (.succ (.succ (.succ (.succ (.succ (.succ (.succ (.succ (.succ (.succ (.succ (.succ .zero)))))))))))))))))))))
local macro_rules | `(tactic| infer_instance) => `(tactic| first
  | (show AE _ _ _ _; first | refine ae_nm (by assumption) (by ac_rfl) ?_ | refine ae_int ?_ | refine ae_add ?_ | refine ae_ix ?_ | refine ae_sub ?_ | refine ae_pow ?_ | refine ae_mul ?_ | refine ae_mod ?_ | refine ae_fdv ?_ | refine ae_tup ?_ | refine ae_lst ?_ | refine ae_t1 call_int1 ok_int1 (by assumption) b_int ?_ | refine ae_b1 call_len_seq ok_len (by assumption) b_len ?_ | refine ae_b1 call_abs ok_abs (by assumption) b_abs ?_ | refine ae_t1L call_list_of ok_listOf (by assumption) b_list ?_ | refine ae_t1 call_tuple_of ok_tupOf (by assumption) b_tuple ?_ | refine ae_ifExp ?_ | refine ae_bl ?_ | refine ae_non ?_ | refine ae_neg ?_)
  | (show AS _ _ _ _ _; first | refine as_st (by assumption) (by assumption) (by ac_rfl) ?_ | refine as_if ?_ | refine as_ret ?_ | refine as_expr ?_ | refine as_par (by assumption) (by assumption) (by ac_rfl) (by ac_rfl) ?_ | refine as_pass ?_ | refine as_continue ?_ | refine as_break ?_)
  | (show AT _ _ _ _; first | refine at_gt ?_ | refine at_ge ?_ | refine at_lt ?_ | refine at_le ?_ | refine at_eqI ?_ | refine at_neI ?_ | refine at_not ?_)
  | (show AAs _ _ _ _; first | refine aa_one ?_ | refine aa_nil ?_)
  | (show ∃ d, cII _ _ _ _ ∧ _; first | refine c_ii rfl rfl ?_ | refine c_iib rfl rfl ?_)
  | (show ∃ d, cIx _ _ _ ∧ _; first | refine c_ix rfl rfl rfl ?_)
  | (show ∃ d, cIIc _ _ _ _ _ ∧ _; first | refine c_iic rfl rfl (by first | omega | exact ⟨by omega, by omega⟩ | (unfold CMul; omega) | (unfold CPow; decide)) ?_)
  | (show ∃ ρ', Puts _ _ _ ρ' ∧ _; first | refine puts_v (by nofun) ?_ | refine puts_c (by nofun) ?_ | refine puts_av rfl (by nofun) ?_ | refine puts_ac rfl (by nofun) (by nofun) ?_)
  | (show ∃ a ρ', Fz _ _ a ρ' ∧ _; first | refine fz_v ?_ | refine fz_av rfl ?_ | refine fz_c ?_ | refine fz_ac rfl (by nofun) ?_ | refine fz_bx rfl ?_)
  | (show ∃ a ρ', Rets _ _ a ρ' ∧ _; first | refine rets_v ?_ | refine rets_av rfl ?_ | refine rets_c ?_ | refine rets_ac rfl (by nofun) ?_)
  | (show ∃ ρ3 ρ4, SetAt _ _ (outSl _) ρ3 ∧ SetAt ρ3 _ (outSl _) ρ4 ∧ _; first | refine c_par (by nofun) (by nofun) ?_)
  | (show ∃ a ρ', Fz _ _ (.d a) ρ' ∧ _; first | refine fzd_v ?_ | refine fzd_av rfl ?_ | refine fzd_c ?_ | refine fzd_ac rfl (by nofun) ?_)
  | refine c_len rfl ?_
  | refine c_int1 rfl ?_
  | refine c_abs rfl ?_
  | refine c_items rfl ?_
  | refine c_tup rfl ?_
  | refine c_ds2 ?_
  | refine c_ds0 ?_
  | refine c_ds1 ?_
  | refine c_ds3 ?_
  | refine And.intro rfl ?_)
local macro_rules | `(tactic| rfl') => `(tactic| first | infer_instance | refine as_cons ?_ | refine as_nil ?_)

abbrev sBox : Stmt := topS 7
abbrev sPick : Stmt := topS 9
abbrev sShuf : Stmt := topS 10
section
variable {P : Program} {w : World} {K : PySem.W.Frag} {mg : Str → Option Value} {base : Heap}
theorem scPick : FnScope ["box", "some"] ["box", "some"] (defScope sPick) := ⟨rfl, rfl, rfl, by decide +kernel, rfl, by decide +kernel, by decide +kernel⟩
def SpPick : Spc := fun ds Φ => ∃ xs : List D, ds = [.list xs] ∧ 1 ≤ xs.length ∧ xs.length < 1000000 ∧ ∀ d, d ∈ xs → Φ (.v d)
theorem ok_pick {f : Addr} {fd : FuncData} (Fn : Fun K "_law_pick" "_law_pick" sPick f fd) (hm : mg "_law_pick" = some (.ref f)) (hb : L2.Binds K fd ["box", "some"] []) (mLen : mg "len" = none)
    (gT : FnB P w K mg base "_law_take" ["box", "many"] 1 SpTake) : FnB P w K mg base "_law_pick" ["box", "some"] 2 SpPick := by
  refine fnB_by Fn scPick hm hb (by decide) fun cdv A outer s H E ds Φ hr xo hX hS => ?_
  obtain ⟨xs, rfl, h1, h2, q⟩ := hS
  repeat rfl'
  refine ae_callB gT hr ?_
  repeat rfl'
  refine ⟨0, [_], rfl, rfl, rfl, _, rfl, by omega, by omega, fun r r0 r1 => ?_⟩
  obtain ⟨x, e1, e2⟩ := atI_nat (xs := xs) r0 r1
  refine c_ix rfl rfl e1 ?_
  repeat rfl'
  exact q _ e2
theorem scShuf : FnScope ["box", "some", "left", "found", "turn"] ["box", "some"] (defScope sShuf) := ⟨rfl, rfl, rfl, by decide +kernel, rfl, by decide +kernel, by decide +kernel⟩
def SpShuf : Spc := fun ds Φ => ∃ xs : List D, ds = [.list xs] ∧ xs.length < 1000000 ∧ ∀ ys, ys.Perm xs → Φ (.c (.lst ys))
theorem ok_shuf {f : Addr} {fd : FuncData} (Fn : Fun K "_law_shuffled" "_law_shuffled" sShuf f fd) (hm : mg "_law_shuffled" = some (.ref f)) (hb : L2.Binds K fd ["box", "some"] []) (mLen : mg "len" = none) (mList : mg "list" = none) (mRange : mg "range" = none)
    (gT : FnB P w K mg base "_law_take" ["box", "many"] 1 SpTake) : FnB P w K mg base "_law_shuffled" ["box", "some"] 2 SpShuf := by
  refine fnB_by Fn scShuf hm hb (by decide) fun cdv A outer s H E ds Φ hr xo hX hS => ?_
  obtain ⟨xs, rfl, h2, q⟩ := hS
  repeat rfl'
  refine as_for xo ?_
  refine ai_range1 ?_ mRange
  repeat rfl'
  refine ⟨_, rfl, by constructor <;> omega, fun i ρ => ∃ (ls fs : List D) (t : Sl), ρ = [.ce .box, .va (.list xs), .ce (.lst ls), .ce (.lst fs), t] ∧ (fs ++ ls).Perm xs ∧ ls.length + i = xs.length, ⟨_, _, _, rfl, by simp, by simp⟩, ?_, ?_⟩
  · rintro i d ρ2 hd ⟨ls, fs, t, rfl, hp, hn⟩
    have hlen : i < xs.length := by
      have := (List.getElem?_eq_some_iff.mp hd).1
      rw [intsFrom_len] at this
      omega
    have hpl := hp.length_eq
    rw [List.length_append] at hpl
    refine ⟨_, ag_nm hX (by ac_rfl) (by nofun) xo, ?_⟩
    refine as_cons ?_
    refine as_expr ?_
    refine ae_append 3 ?_ _
    refine ae_popAt 2 ?_ _
    refine ae_callB gT hr ?_
    repeat rfl'
    refine ⟨0, [_], rfl, rfl, rfl, _, rfl, by omega, by omega, fun r r0 r1 => ?_⟩
    have h3 : r.toNat < ls.length := by omega
    refine ⟨ls, r, r.toNat, ls[r.toNat], _, rfl, rfl, ⟨by omega, by omega⟩, seq_nat r0 r1, List.getElem?_eq_getElem h3, by nofun, ?_⟩
    refine c_app .v rfl (by omega) (by nofun) ?_
    refine as_nil ⟨_, _, _, rfl, ?_, ?_⟩
    · refine List.Perm.trans ?_ hp
      rw [List.append_assoc]
      exact List.Perm.append_left _ (perm_erase _ _ h3)
    · rw [List.length_eraseIdx, if_pos h3]
      omega
  · rintro ρ2 ⟨ls, fs, t, rfl, hp, hn⟩
    rw [intsFrom_len] at hn
    have : ls = [] := List.length_eq_zero_iff.mp (by omega)
    subst this
    repeat rfl'
    exact q _ (by simpa using hp)
end
end K69
namespace K69
open PySem PySem.Spec PyProof.Rows L2 Ab
local macro_rules | `(tactic| nofun) => `(tactic| first | exact SetAt.zero | exact SetAt.succ .zero | exact SetAt.succ (.succ .zero) | exact SetAt.succ (.succ (.succ .zero)) | exact SetAt.succ (.succ (.succ (.succ .zero))) | exact SetAt.succ (.succ (.succ (.succ (.succ .zero)))) | exact SetAt.succ (.succ (.succ (.succ (.succ (.succ .zero))))) | exact SetAt.succ (.succ (.succ (.succ (.succ (.succ (.succ .zero)))))) | exact SetAt.succ (.succ (.succ (.succ (.succ (.succ (.succ (.succ .zero))))))) | exact SetAt.succ (.succ (.succ (.succ (.succ (.succ (.succ (.succ (.succ .zero)))))))) | exact SetAt.succ (.succ (.succ (.succ (.succ (.succ (.succ (.succ (.succ (.succ .zero))))))))) | exact SetAt.succ (.succ (.succ (.succ (.succ (.succ (.succ (.succ (.succ (.succ (.succ .zero)))))))))) | exact SetAt.succ (.succ (.succ (.succ (.succ (.succ (.succ (.succ (.succ (.succ (.succ (.succ .zero))))))))))) | exact SetAt.succ (.succ (.succ (.succ (.succ (.succ (.succ (.succ (.succ (.succ (.succ (.succ (.succ .zero)))))))))))) | exact SetAt.succ (.succ (.succ (.succ (.succ (.succ (.succ (.succ (.succ (.succ (.succ (.succ (.succ (.succ .zero))))))))))))) | exact SetAt.succ (.succ (.succ (.succ (.succ (.succ (.succ (.succ (.succ (.succ (.succ (.succ (.succ (.succ (.succ .zero)))))))))))))) | exact SetAt.succ (.succ (.succ (.succ (.succ (.succ (.succ (.succ (.succ (.succ (.succ (.succ (.succ (.succ (.succ (.succ .zero))))))))))))))) | exact SetAt.succ (.succ (.succ (.succ (.succ (.succ (.succ (.succ (.succ (.succ (.succ (.succ (.succ (.succ (.succ (.succ (.succ .zero)))))))))))))))) | exact SetAt.succ (.succ (.succ (.succ (.succ (.succ (.succ (.succ (.succ (.succ (.succ (.succ (.succ (.succ (.succ (.succ (.succ (.succ .zero))))))))))))))))) | exact SetAt.succ (.succ (.succ (.succ (.succ (.succ (.succ (.succ (.succ (.succ (.succ (.succ (.succ (.succ (.succ (.succ (.succ (.succ (.succ .zero)))))))))))))))))) | exact SetAt.succ (.succ (.succ (.succ (.succ (.succ (.succ (.succ (.succ (.succ (.succ (.succ (.succ (.succ (.succ (.succ (.succ (.succ (.succ (.succ .zero))))))))))))))))))) | exact SetAt.succ (.succ (.succ (.succ (.succ (.succ (.succ (.succ (.succ (.succ (.succ (.succ (.succ (.succ (.succ (.succ (.succ (.succ (.succ (.succ (.succ .zero)))))))))))))))))))))
local macro_rules | `(tactic| ac_rfl) => `(tactic| with_reducible first | exact At.zero | exact At.succ .zero | exact At.succ (.succ .zero) | exact At.succ (.succ (.succ .zero)) | exact At.succ (.succ (.succ (.succ .zero))) | exact At.succ (.succ (.succ (.succ (.succ .zero)))) | exact At.succ (.succ (.succ (.succ (.succ (.succ .zero))))) | exact At.succ (.succ (.succ (.succ (.succ (.succ (.succ .zero)))))) | exact At.succ (.succ (.succ (.succ (.succ (.succ (.succ (.succ .zero))))))) | exact At.succ (.succ (.succ (.succ (.succ (.succ (.succ (.succ (.succ .zero)))))))) | exact At.succ (.succ (.succ (.succ (.succ (.succ (.succ (.succ (.succ (.succ .zero))))))))) | exact At.succ (.succ (.succ (.succ (.succ (.succ (.succ (.succ (.succ (.succ (.succ .zero)))))))))) | exact At.succ (.succ (.succ (.succ (.succ (.succ (.succ (.succ (.succ (.succ (.succ (.succ .zero))))))))))) | exact At.succ (.succ (.succ (.succ (.succ (.succ (.succ (.succ (.succ (.succ (.succ (.succ (.succ .zero)))))))))))) | exact At.succ (.succ (.succ (.succ (.succ (.succ (.succ (.succ (.succ (.succ (.succ (.succ (.succ (.succ .zero))))))))))))) | exact At.succ (.succ (.succ (.succ (.succ (.succ (.succ (.succ (.succ (.succ (.succ (.succ (.succ (.succ (.succ .zero)))))))))))))) | exact At.succ (.succ (.succ (.succ (.succ (.succ (.succ (.succ (.succ (.succ (.succ (.succ (.succ (.succ (.succ (.succ .zero))))))))))))))) | exact At.succ (.succ (.succ (.succ (.succ (.succ (.succ (.succ (.succ (.succ (.succ (.succ (.succ (.succ (.succ (.succ (.succ .zero)))))))))))))))) | exact At.succ (.succ (.succ (.succ (.succ (.succ (.succ (.succ (.succ (.succ (.succ (.succ (.succ (.succ (.succ (.succ (.succ (.succ .zero))))))))))))))))) | exact At.succ (.succ (.succ (.succ (.succ (.succ (.succ (.succ (.succ (.succ (.succ (.succ (.succ (.succ (.succ (.succ (.succ (.succ (.succ .zero)))))))))))))))))) | exact At.succ (.succ (.succ (.succ (.succ (.succ (.succ (.succ (.succ (.succ (.succ (.succ (.succ (.succ (.succ (.succ (.succ (.succ (.succ (.succ .zero))))))))))))))))))) | exact At.succ (.succ (.succ (.succ (.succ (.succ (.succ (.succ (.succ (.succ (.succ (.succ (.succ (.succ (.succ (.succ (.succ (.succ (.succ (.succ (.succ .zero)))))))))))))))))))))
local macro_rules | `(tactic| infer_instance) => `(tactic| first
  | (show AE _ _ _ _; first | refine ae_nm (by assumption) (by ac_rfl) ?_ | refine ae_int ?_ | refine ae_add ?_ | refine ae_ix ?_ | refine ae_sub ?_ | refine ae_pow ?_ | refine ae_mul ?_ | refine ae_mod ?_ | refine ae_fdv ?_ | refine ae_tup ?_ | refine ae_lst ?_ | refine ae_t1 call_int1 ok_int1 (by assumption) b_int ?_ | refine ae_b1 call_len_seq ok_len (by assumption) b_len ?_ | refine ae_b1 call_abs ok_abs (by assumption) b_abs ?_ | refine ae_t1L call_list_of ok_listOf (by assumption) b_list ?_ | refine ae_t1 call_tuple_of ok_tupOf (by assumption) b_tuple ?_ | refine ae_ifExp ?_ | refine ae_bl ?_ | refine ae_non ?_ | refine ae_neg ?_)
  | (show AS _ _ _ _ _; first | refine as_st (by assumption) (by assumption) (by ac_rfl) ?_ | refine as_if ?_ | refine as_ret ?_ | refine as_expr ?_ | refine as_par (by assumption) (by assumption) (by ac_rfl) (by ac_rfl) ?_ | refine as_pass ?_ | refine as_continue ?_ | refine as_break ?_)
  | (show AT _ _ _ _; first | refine at_gt ?_ | refine at_ge ?_ | refine at_lt ?_ | refine at_le ?_ | refine at_eqI ?_ | refine at_neI ?_ | refine at_not ?_)
  | (show AAs _ _ _ _; first | refine aa_one ?_ | refine aa_nil ?_)
  | (show ∃ d, cII _ _ _ _ ∧ _; first | refine c_ii rfl rfl ?_ | refine c_iib rfl rfl ?_)
  | (show ∃ d, cIx _ _ _ ∧ _; first | refine c_ix rfl rfl rfl ?_)
  | (show ∃ d, cIIc _ _ _ _ _ ∧ _; first | refine c_iic rfl rfl (by first | omega | exact ⟨by omega, by omega⟩ | (unfold CMul; omega) | (unfold CPow; decide)) ?_)
  | (show ∃ ρ', Puts _ _ _ ρ' ∧ _; first | refine puts_v (by nofun) ?_ | refine puts_c (by nofun) ?_ | refine puts_av rfl (by nofun) ?_ | refine puts_ac rfl (by nofun) (by nofun) ?_)
  | (show ∃ a ρ', Fz _ _ a ρ' ∧ _; first | refine fz_v ?_ | refine fz_av rfl ?_ | refine fz_c ?_ | refine fz_ac rfl (by nofun) ?_ | refine fz_bx rfl ?_)
  | (show ∃ a ρ', Rets _ _ a ρ' ∧ _; first | refine rets_v ?_ | refine rets_av rfl ?_ | refine rets_c ?_ | refine rets_ac rfl (by nofun) ?_)
  | (show ∃ ρ3 ρ4, SetAt _ _ (outSl _) ρ3 ∧ SetAt ρ3 _ (outSl _) ρ4 ∧ _; first | refine c_par (by nofun) (by nofun) ?_)
  | (show ∃ a ρ', Fz _ _ (.d a) ρ' ∧ _; first | refine fzd_v ?_ | refine fzd_av rfl ?_ | refine fzd_c ?_ | refine fzd_ac rfl (by nofun) ?_)
  | refine c_len rfl ?_
  | refine c_int1 rfl ?_
  | refine c_abs rfl ?_
  | refine c_items rfl ?_
  | refine c_tup rfl ?_
  | refine c_ds2 ?_
  | refine c_ds0 ?_
  | refine c_ds1 ?_
  | refine c_ds3 ?_
  | refine And.intro rfl ?_)
local macro_rules | `(tactic| rfl') => `(tactic| first | infer_instance | refine as_cons ?_ | refine as_nil ?_)

section
variable {P : Program} {w : World} {K : PySem.W.Frag} {mg : Str → Option Value} {base : Heap}
theorem scBox : FnScope ["script", "k", "cell", "great"] ["script", "k"] (defScope sBox) := ⟨rfl, rfl, rfl, by decide +kernel, rfl, by decide +kernel, by decide +kernel⟩
def SpBox : Spc := fun ds Φ => ∃ (ns : List Int) (k : Nat), ds = [lockL (ns.map PyData.int), .int k] ∧ k < 1000 ∧ Φ (.c .box)
theorem atI_int {ns : List Int} {r : Int} (h0 : 0 ≤ r) (h1 : r < ns.length) : ∃ x : Int, atI (ns.map PyData.int) r = some (.int x) := by
  obtain ⟨x, e1, e2⟩ := atI_nat (xs := ns.map PyData.int) h0 (by rw [List.length_map]; exact h1)
  obtain ⟨y, _, rfl⟩ := List.mem_map.mp e2
  exact ⟨y, e1⟩
theorem ok_box {f : Addr} {fd : FuncData} (Fn : Fun K "_law_box" "_law_box" sBox f fd) (hm : mg "_law_box" = some (.ref f)) (hb : L2.Binds K fd ["script", "k"] []) (mLen : mg "len" = none) (mAbs : mg "abs" = none) (mInt : mg "int" = none) : FnP P w K mg base "_law_box" ["script", "k"] 1 SpBox := by
  refine fnP_by Fn scBox hm hb (by decide) fun cdv A outer s H E ds Φ hr xo hX hS => ?_
  obtain ⟨ns, k, rfl, hk, q⟩ := hS
  refine as_cons ?_
  repeat infer_instance
  refine as_cons ?_
  refine as_cut (fun ρ => ∃ c : Int, ρ = [.va (lockL (ns.map PyData.int)), .va (.int k), .va (.int c), .no] ∧ 0 ≤ c) ?_ ?_
  · repeat rfl'
    have hl : ((ns.map PyData.int).length : Int) = ns.length := by rw [List.length_map]
    refine ⟨fun hc => ?_, fun hc => ?_⟩
    · have hc : (k : Int) < ns.length := by simpa using hc
      repeat rfl'
      obtain ⟨x, hx⟩ := atI_int (ns := ns) (r := k) (by omega) hc
      refine c_ix rfl rfl hx ?_
      repeat rfl'
      exact ⟨_, rfl, by split <;> omega⟩
    · repeat rfl'
      refine ⟨fun hd => ?_, fun hd => ?_⟩
      · have hd : (0 : Int) < ns.length := by simpa using hd
        repeat rfl'
        obtain ⟨x, hx⟩ := atI_int (ns := ns) (r := k % ((ns.map PyData.int).length : Int)) (Int.emod_nonneg _ (by omega)) (by rw [hl]; exact Int.emod_lt_of_pos _ (by omega))
        refine c_ix rfl rfl hx ?_
        repeat rfl'
        exact ⟨_, rfl, by omega⟩
      · repeat rfl'
        exact ⟨_, rfl, by omega⟩
  · rintro ρ' ⟨c, rfl, hc⟩
    refine as_cons ?_
    refine as_cut (fun ρ => ∃ g : Int, ρ = [.va (lockL (ns.map PyData.int)), .va (.int k), .va (.int c), .va (.int g)] ∧ 0 ≤ g) ?_ ?_
    · repeat rfl'
      refine ⟨fun hd => ?_, fun hd => ?_⟩
      · repeat rfl'
        exact ⟨_, rfl, hc⟩
      · repeat rfl'
        exact ⟨_, rfl, by omega⟩
    · rintro ρ' ⟨g, rfl, hg⟩
      refine as_cons ?_
      refine as_ret ?_
      refine ae_box ?_
      repeat rfl'
      refine ⟨_, _, rfl, hg, by omega, by omega, ?_⟩
      repeat rfl'
      exact q
end
end K69
namespace K69
open PySem PySem.Spec PyProof.Rows L2 Ab
local macro_rules | `(tactic| nofun) => `(tactic| first | exact SetAt.zero | exact SetAt.succ .zero | exact SetAt.succ (.succ .zero) | exact SetAt.succ (.succ (.succ .zero)) | exact SetAt.succ (.succ (.succ (.succ .zero))) | exact SetAt.succ (.succ (.succ (.succ (.succ .zero)))) | exact SetAt.succ (.succ (.succ (.succ (.succ (.succ .zero))))) | exact SetAt.succ (.succ (.succ (.succ (.succ (.succ (.succ .zero)))))) | exact SetAt.succ (.succ (.succ (.succ (.succ (.succ (.succ (.succ .zero))))))) | exact SetAt.succ (.succ (.succ (.succ (.succ (.succ (.succ (.succ (.succ .zero)))))))) | exact SetAt.succ (.succ (.succ (.succ (.succ (.succ (.succ (.succ (.succ (.succ .zero))))))))) | exact SetAt.succ (.succ (.succ (.succ (.succ (.succ (.succ (.succ (.succ (.succ (.succ .zero)))))))))) | exact SetAt.succ (.succ (.succ (.succ (.succ (.succ (.succ (.succ (.succ (.succ (.succ (.succ .zero))))))))))) | exact SetAt.succ (.succ (.succ (.succ (.succ (.succ (.succ (.succ (.succ (.succ (.succ (.succ (.succ .zero)))))))))))) | exact SetAt.succ (.succ (.succ (.succ (.succ (.succ (.succ (.succ (.succ (.succ (.succ (.succ (.succ (.succ .zero))))))))))))) | exact SetAt.succ (.succ (.succ (.succ (.succ (.succ (.succ (.succ (.succ (.succ (.succ (.succ (.succ (.succ (.succ .zero)))))))))))))) | exact SetAt.succ (.succ (.succ (.succ (.succ (.succ (.succ (.succ (.succ (.succ (.succ (.succ (.succ (.succ (.succ (.succ .zero))))))))))))))) | exact SetAt.succ (.succ (.succ (.succ (.succ (.succ (.succ (.succ (.succ (.succ (.succ (.succ (.succ (.succ (.succ (.succ (.succ .zero)))))))))))))))) | exact SetAt.succ (.succ (.succ (.succ (.succ (.succ (.succ (.succ (.succ (.succ (.succ (.succ (.succ (.succ (.succ (.succ (.succ (.succ .zero))))))))))))))))) | exact SetAt.succ (.succ (.succ (.succ (.succ (.succ (.succ (.succ (.succ (.succ (.succ (.succ (.succ (.succ (.succ (.succ (.succ (.succ (.succ .zero)))))))))))))))))) | exact SetAt.succ (.succ (.succ (.succ (.succ (.succ (.succ (.succ (.succ (.succ (.succ (.succ (.succ (.succ (.succ (.succ (.succ (.succ (.succ (.succ .zero))))))))))))))))))) | exact SetAt.succ (.succ (.succ (.succ (.succ (.succ (.succ (.succ (.succ (.succ (.succ (.succ (.succ (.succ (.succ (.succ (.succ (.succ (.succ (.succ (.succ .zero)))))))))))))))))))))
local macro_rules | `(tactic| ac_rfl) => `(tactic| with_reducible first | exact At.zero | exact At.succ .zero | exact At.succ (.succ .zero) | exact At.succ (.succ (.succ .zero)) | exact At.succ (.succ (.succ (.succ .zero))) | exact At.succ (.succ (.succ (.succ (.succ .zero)))) | exact At.succ (.succ (.succ (.succ (.succ (.succ .zero))))) | exact At.succ (.succ (.succ (.succ (.succ (.succ (.succ .zero)))))) | exact At.succ (.succ (.succ (.succ (.succ (.succ (.succ (.succ .zero))))))) | exact At.succ (.succ (.succ (.succ (.succ (.succ (.succ (.succ (.succ .zero)))))))) | exact At.succ (.succ (.succ (.succ (.succ (.succ (.succ (.succ (.succ (.succ .zero))))))))) | exact At.succ (.succ (.succ (.succ (.succ (.succ (.succ (.succ (.succ (.succ (.succ .zero)))))))))) | exact At.succ (.succ (.succ (.succ (.succ (.succ (.succ (.succ (.succ (.succ (.succ (.succ .zero))))))))))) | exact At.succ (.succ (.succ (.succ (.succ (.succ (.succ (.succ (.succ (.succ (.succ (.succ (.succ .zero)))))))))))) | exact At.succ (.succ (.succ (.succ (.succ (.succ (.succ (.succ (.succ (.succ (.succ (.succ (.succ (.succ .zero))))))))))))) | exact At.succ (.succ (.succ (.succ (.succ (.succ (.succ (.succ (.succ (.succ (.succ (.succ (.succ (.succ (.succ .zero)))))))))))))) | exact At.succ (.succ (.succ (.succ (.succ (.succ (.succ (.succ (.succ (.succ (.succ (.succ (.succ (.succ (.succ (.succ .zero))))))))))))))) | exact At.succ (.succ (.succ (.succ (.succ (.succ (.succ (.succ (.succ (.succ (.succ (.succ (.succ (.succ (.succ (.succ (.succ .zero)))))))))))))))) | exact At.succ (.succ (.succ (.succ (.succ (.succ (.succ (.succ (.succ (.succ (.succ (.succ (.succ (.succ (.succ (.succ (.succ (.succ .zero))))))))))))))))) | exact At.succ (.succ (.succ (.succ (.succ (.succ (.succ (.succ (.succ (.succ (.succ (.succ (.succ (.succ (.succ (.succ (.succ (.succ (.succ .zero)))))))))))))))))) | exact At.succ (.succ (.succ (.succ (.succ (.succ (.succ (.succ (.succ (.succ (.succ (.succ (.succ (.succ (.succ (.succ (.succ (.succ (.succ (.succ .zero))))))))))))))))))) | exact At.succ (.succ (.succ (.succ (.succ (.succ (.succ (.succ (.succ (.succ (.succ (.succ (.succ (.succ (.succ (.succ (.succ (.succ (.succ (.succ (.succ .zero)))))))))))))))))))))
local macro_rules | `(tactic| infer_instance) => `(tactic| first
  | (show AE _ _ _ _; first | refine ae_nm (by assumption) (by ac_rfl) ?_ | refine ae_int ?_ | refine ae_add ?_ | refine ae_ix ?_ | refine ae_sub ?_ | refine ae_pow ?_ | refine ae_mul ?_ | refine ae_mod ?_ | refine ae_fdv ?_ | refine ae_tup ?_ | refine ae_lst ?_ | refine ae_t1 call_int1 ok_int1 (by assumption) b_int ?_ | refine ae_b1 call_len_seq ok_len (by assumption) b_len ?_ | refine ae_b1 call_abs ok_abs (by assumption) b_abs ?_ | refine ae_t1L call_list_of ok_listOf (by assumption) b_list ?_ | refine ae_t1 call_tuple_of ok_tupOf (by assumption) b_tuple ?_ | refine ae_ifExp ?_ | refine ae_bl ?_ | refine ae_non ?_ | refine ae_neg ?_ | refine ae_and ?_ | refine ae_one ?_ | refine ae_or ?_ | refine ae_not ?_)
  | (show AS _ _ _ _ _; first | refine as_st (by assumption) (by assumption) (by ac_rfl) ?_ | refine as_if ?_ | refine as_ret ?_ | refine as_expr ?_ | refine as_par (by assumption) (by assumption) (by ac_rfl) (by ac_rfl) ?_ | refine as_pass ?_ | refine as_continue ?_ | refine as_break ?_)
  | (show AT _ _ _ _; first | refine at_gt ?_ | refine at_ge ?_ | refine at_lt ?_ | refine at_le ?_ | refine at_eqI ?_ | refine at_neI ?_ | refine at_not ?_)
  | (show AAs _ _ _ _; first | refine aa_one ?_ | refine aa_nil ?_)
  | (show ∃ d, cII _ _ _ _ ∧ _; first | refine c_ii rfl rfl ?_ | refine c_iib rfl rfl ?_)
  | (show ∃ d, cIx _ _ _ ∧ _; first | refine c_ix rfl rfl rfl ?_)
  | (show ∃ d, cIIc _ _ _ _ _ ∧ _; first | refine c_iic rfl rfl (by first | omega | exact ⟨by omega, by omega⟩ | (unfold CMul; omega) | (unfold CPow; decide)) ?_)
  | (show ∃ ρ', Puts _ _ _ ρ' ∧ _; first | refine puts_v (by nofun) ?_ | refine puts_c (by nofun) ?_ | refine puts_av rfl (by nofun) ?_ | refine puts_ac rfl (by nofun) (by nofun) ?_)
  | (show ∃ a ρ', Fz _ _ a ρ' ∧ _; first | refine fz_v ?_ | refine fz_av rfl ?_ | refine fz_c ?_ | refine fz_ac rfl (by nofun) ?_ | refine fz_bx rfl ?_)
  | (show ∃ a ρ', Rets _ _ a ρ' ∧ _; first | refine rets_v ?_ | refine rets_av rfl ?_ | refine rets_c ?_ | refine rets_ac rfl (by nofun) ?_)
  | (show ∃ ρ3 ρ4, SetAt _ _ (outSl _) ρ3 ∧ SetAt ρ3 _ (outSl _) ρ4 ∧ _; first | refine c_par (by nofun) (by nofun) ?_)
  | (show ∃ a ρ', Fz _ _ (.d a) ρ' ∧ _; first | refine fzd_v ?_ | refine fzd_av rfl ?_ | refine fzd_c ?_ | refine fzd_ac rfl (by nofun) ?_)
  | refine c_len rfl ?_
  | refine c_int1 rfl ?_
  | refine c_abs rfl ?_
  | refine c_items rfl ?_
  | refine c_tup rfl ?_
  | refine c_ds2 ?_
  | refine c_ds0 ?_
  | refine c_ds1 ?_
  | refine c_ds3 ?_
  | refine And.intro rfl ?_)
local macro_rules | `(tactic| rfl') => `(tactic| first | infer_instance | refine as_cons ?_ | refine as_nil ?_)

abbrev sMay : Stmt := topS 2
section
variable {P : Program} {w : World} {K : PySem.W.Frag} {mg : Str → Option Value} {base : Heap}
def rowD (r : List Int) : D := .tuple (r.map .int)
def prsD (ps : List (Int × Int)) : D := .tuple (ps.map pairAb)
def mayF (ps : List (Int × Int)) (row : List Int) (n : Int) : Bool := !decide (n ∈ row) && ps.all fun p => !decide (p.2 = n) || decide (p.1 ∈ row)
theorem scMay : FnScope ["pairs", "row", "name", "one", "two"] ["pairs", "row", "name"] (defScope sMay) := ⟨rfl, rfl, rfl, by decide +kernel, rfl, by decide +kernel, by decide +kernel⟩
def SpMay : Spc := fun ds Φ => ∃ (ps : List (Int × Int)) (row : List Int) (n : Int), ds = [prsD ps, rowD row, .int n] ∧ ps.length < 1000000 ∧ Φ (.v (.bool (mayF ps row n)))
theorem ok_may {f : Addr} {fd : FuncData} (Fn : Fun K "may_follow" "may_follow" sMay f fd) (hm : mg "may_follow" = some (.ref f)) (hb : L2.Binds K fd ["pairs", "row", "name"] []) (mAll : mg "all" = none) : FnP P w K mg base "may_follow" ["pairs", "row", "name"] 1 SpMay := by
  refine fnP_by Fn scMay hm hb (by decide) fun cdv A outer s H E ds Φ hr xo hX hS => ?_
  obtain ⟨ps, row, n, rfl, hz, q⟩ := hS
  repeat rfl'
  refine ae_cmp op_notIn_seq ok_notInI rfl ?_
  repeat rfl'
  refine ⟨_, ⟨n, row, rfl, rfl, rfl⟩, ?_⟩
  refine ⟨_, rfl, fun hn => ?_, fun hn => ?_⟩
  · repeat rfl'
    refine ae_b1 (cr_all xo.calm) ok_all mAll b_all ?_
    refine ae_lcF (own := [("one", 3), ("two", 4)]) (Int × Int) xo ?_ (blk_of (sc := defScope sMay) hX rfl (by decide +kernel))
    refine ai_tup ?_
    repeat rfl'
    refine ⟨_, _, .alv rfl, ?_⟩
    refine ⟨ps, pairAb, fun p => decide (p.2 = n), fun p => .bool (decide (p.1 ∈ row)), _, rfl, hz, .cons (.cons .nil (by nofun)) (by nofun), by simp [notCe, entry], ?_, ?_⟩
    · rintro p hp
      refine ⟨_, fun s H C cl fp => ag_pair hX (by ac_rfl) (by ac_rfl) (by nofun) (by nofun) (xo.blk s H C cl fp), fun s H C cl fp => ats_one ?_⟩
      repeat rfl'
      refine ⟨fun h => ⟨h, fun s H C cl fp => ?_⟩, fun h => ⟨h, .cons (.cons .nil (by nofun)) (by nofun)⟩⟩
      refine ae_cmp op_in_seq ok_inI rfl ?_
      repeat rfl'
      exact ⟨_, ⟨p.1, row, rfl, rfl, rfl⟩, _, .v, .cons (.cons .nil (by nofun)) (by nofun)⟩
    · refine ⟨_, ⟨(ps.filter fun p => decide (p.2 = n)).map fun p => decide (p.1 ∈ row), ?_, rfl⟩, ?_⟩
      · show some _ = some _
        rw [List.map_map]; rfl
      · repeat rfl'
        have e : mayF ps row n = ((ps.filter fun p => decide (p.2 = n)).map fun p => decide (p.1 ∈ row)).all id := by
          unfold mayF
          have hn' : (!decide (n ∈ row)) = true := hn
          rw [hn', Bool.true_and, List.all_map, List.all_filter]
          congr 1
        exact e ▸ q
  · repeat rfl'
    have e : mayF ps row n = false := by
      unfold mayF
      have hn' : (!decide (n ∈ row)) = false := hn
      rw [hn', Bool.false_and]
    exact e ▸ q
end
end K69
namespace K69
open PySem PySem.Spec PyProof.Rows L2 Ab
local macro_rules | `(tactic| nofun) => `(tactic| first | exact SetAt.zero | exact SetAt.succ .zero | exact SetAt.succ (.succ .zero) | exact SetAt.succ (.succ (.succ .zero)) | exact SetAt.succ (.succ (.succ (.succ .zero))) | exact SetAt.succ (.succ (.succ (.succ (.succ .zero)))) | exact SetAt.succ (.succ (.succ (.succ (.succ (.succ .zero))))) | exact SetAt.succ (.succ (.succ (.succ (.succ (.succ (.succ .zero)))))) | exact SetAt.succ (.succ (.succ (.succ (.succ (.succ (.succ (.succ .zero))))))) | exact SetAt.succ (.succ (.succ (.succ (.succ (.succ (.succ (.succ (.succ .zero)))))))) | exact SetAt.succ (.succ (.succ (.succ (.succ (.succ (.succ (.succ (.succ (.succ .zero))))))))) | exact SetAt.succ (.succ (.succ (.succ (.succ (.succ (.succ (.succ (.succ (.succ (.succ .zero)))))))))) | exact SetAt.succ (.succ (.succ (.succ (.succ (.succ (.succ (.succ (.succ (.succ (.succ (.succ .zero))))))))))) | exact SetAt.succ (.succ (.succ (.succ (.succ (.succ (.succ (.succ (.succ (.succ (.succ (.succ (.succ .zero)))))))))))) | exact SetAt.succ (.succ (.succ (.succ (.succ (.succ (.succ (.succ (.succ (.succ (.succ (.succ (.succ (.succ .zero))))))))))))) | exact SetAt.succ (.succ (.succ (.succ (.succ (.succ (.succ (.succ (.succ (.succ (.succ (.succ (.succ (.succ (.succ .zero)))))))))))))) | exact SetAt.succ (.succ (.succ (.succ (.succ (.succ (.succ (.succ (.succ (.succ (.succ (.succ (.succ (.succ (.succ (.succ .zero))))))))))))))) | exact SetAt.succ (.succ (.succ (.succ (.succ (.succ (.succ (.succ (.succ (.succ (.succ (.succ (.succ (.succ (.succ (.succ (.succ .zero)))))))))))))))) | exact SetAt.succ (.succ (.succ (.succ (.succ (.succ (.succ (.succ (.succ (.succ (.succ (.succ (.succ (.succ (.succ (.succ (.succ (.succ .zero))))))))))))))))) | exact SetAt.succ (.succ (.succ (.succ (.succ (.succ (.succ (.succ (.succ (.succ (.succ (.succ (.succ (.succ (.succ (.succ (.succ (.succ (.succ .zero)))))))))))))))))) | exact SetAt.succ (.succ (.succ (.succ (.succ (.succ (.succ (.succ (.succ (.succ (.succ (.succ (.succ (.succ (.succ (.succ (.succ (.succ (.succ (.succ .zero))))))))))))))))))) | exact SetAt.succ (.succ (.succ (.succ (.succ (.succ (.succ (.succ (.succ (.succ (.succ (.succ (.succ (.succ (.succ (.succ (.succ (.succ (.succ (.succ (.succ .zero)))))))))))))))))))))
local macro_rules | `(tactic| ac_rfl) => `(tactic| with_reducible first | exact At.zero | exact At.succ .zero | exact At.succ (.succ .zero) | exact At.succ (.succ (.succ .zero)) | exact At.succ (.succ (.succ (.succ .zero))) | exact At.succ (.succ (.succ (.succ (.succ .zero)))) | exact At.succ (.succ (.succ (.succ (.succ (.succ .zero))))) | exact At.succ (.succ (.succ (.succ (.succ (.succ (.succ .zero)))))) | exact At.succ (.succ (.succ (.succ (.succ (.succ (.succ (.succ .zero))))))) | exact At.succ (.succ (.succ (.succ (.succ (.succ (.succ (.succ (.succ .zero)))))))) | exact At.succ (.succ (.succ (.succ (.succ (.succ (.succ (.succ (.succ (.succ .zero))))))))) | exact At.succ (.succ (.succ (.succ (.succ (.succ (.succ (.succ (.succ (.succ (.succ .zero)))))))))) | exact At.succ (.succ (.succ (.succ (.succ (.succ (.succ (.succ (.succ (.succ (.succ (.succ .zero))))))))))) | exact At.succ (.succ (.succ (.succ (.succ (.succ (.succ (.succ (.succ (.succ (.succ (.succ (.succ .zero)))))))))))) | exact At.succ (.succ (.succ (.succ (.succ (.succ (.succ (.succ (.succ (.succ (.succ (.succ (.succ (.succ .zero))))))))))))) | exact At.succ (.succ (.succ (.succ (.succ (.succ (.succ (.succ (.succ (.succ (.succ (.succ (.succ (.succ (.succ .zero)))))))))))))) | exact At.succ (.succ (.succ (.succ (.succ (.succ (.succ (.succ (.succ (.succ (.succ (.succ (.succ (.succ (.succ (.succ .zero))))))))))))))) | exact At.succ (.succ (.succ (.succ (.succ (.succ (.succ (.succ (.succ (.succ (.succ (.succ (.succ (.succ (.succ (.succ (.succ .zero)))))))))))))))) | exact At.succ (.succ (.succ (.succ (.succ (.succ (.succ (.succ (.succ (.succ (.succ (.succ (.succ (.succ (.succ (.succ (.succ (.succ .zero))))))))))))))))) | exact At.succ (.succ (.succ (.succ (.succ (.succ (.succ (.succ (.succ (.succ (.succ (.succ (.succ (.succ (.succ (.succ (.succ (.succ (.succ .zero)))))))))))))))))) | exact At.succ (.succ (.succ (.succ (.succ (.succ (.succ (.succ (.succ (.succ (.succ (.succ (.succ (.succ (.succ (.succ (.succ (.succ (.succ (.succ .zero))))))))))))))))))) | exact At.succ (.succ (.succ (.succ (.succ (.succ (.succ (.succ (.succ (.succ (.succ (.succ (.succ (.succ (.succ (.succ (.succ (.succ (.succ (.succ (.succ .zero)))))))))))))))))))))
local macro_rules | `(tactic| infer_instance) => `(tactic| first
  | (show AE _ _ _ _; first | refine ae_nm (by assumption) (by ac_rfl) ?_ | refine ae_int ?_ | refine ae_add ?_ | refine ae_ix ?_ | refine ae_sub ?_ | refine ae_pow ?_ | refine ae_mul ?_ | refine ae_mod ?_ | refine ae_fdv ?_ | refine ae_tup ?_ | refine ae_lst ?_ | refine ae_t1 call_int1 ok_int1 (by assumption) b_int ?_ | refine ae_b1 call_len_seq ok_len (by assumption) b_len ?_ | refine ae_b1 call_abs ok_abs (by assumption) b_abs ?_ | refine ae_t1L call_list_of ok_listOf (by assumption) b_list ?_ | refine ae_t1 call_tuple_of ok_tupOf (by assumption) b_tuple ?_ | refine ae_ifExp ?_ | refine ae_bl ?_ | refine ae_non ?_ | refine ae_neg ?_ | refine ae_and ?_ | refine ae_one ?_ | refine ae_or ?_ | refine ae_not ?_)
  | (show AS _ _ _ _ _; first | refine as_st (by assumption) (by assumption) (by ac_rfl) ?_ | refine as_if ?_ | refine as_ret ?_ | refine as_expr ?_ | refine as_par (by assumption) (by assumption) (by ac_rfl) (by ac_rfl) ?_ | refine as_pass ?_ | refine as_continue ?_ | refine as_break ?_)
  | (show AT _ _ _ _; first | refine at_gt ?_ | refine at_ge ?_ | refine at_lt ?_ | refine at_le ?_ | refine at_eqI ?_ | refine at_neI ?_ | refine at_not ?_)
  | (show AAs _ _ _ _; first | refine aa_one ?_ | refine aa_nil ?_)
  | (show ∃ d, cII _ _ _ _ ∧ _; first | refine c_ii rfl rfl ?_ | refine c_iib rfl rfl ?_)
  | (show ∃ d, cIx _ _ _ ∧ _; first | refine c_ix rfl rfl rfl ?_)
  | (show ∃ d, cIIc _ _ _ _ _ ∧ _; first | refine c_iic rfl rfl (by first | omega | exact ⟨by omega, by omega⟩ | (unfold CMul; omega) | (unfold CPow; decide)) ?_)
  | (show ∃ ρ', Puts _ _ _ ρ' ∧ _; first | refine puts_v (by nofun) ?_ | refine puts_c (by nofun) ?_ | refine puts_av rfl (by nofun) ?_ | refine puts_ac rfl (by nofun) (by nofun) ?_)
  | (show ∃ a ρ', Fz _ _ a ρ' ∧ _; first | refine fz_v ?_ | refine fz_av rfl ?_ | refine fz_c ?_ | refine fz_ac rfl (by nofun) ?_ | refine fz_bx rfl ?_)
  | (show ∃ a ρ', Rets _ _ a ρ' ∧ _; first | refine rets_v ?_ | refine rets_av rfl ?_ | refine rets_c ?_ | refine rets_ac rfl (by nofun) ?_)
  | (show ∃ ρ3 ρ4, SetAt _ _ (outSl _) ρ3 ∧ SetAt ρ3 _ (outSl _) ρ4 ∧ _; first | refine c_par (by nofun) (by nofun) ?_)
  | (show ∃ a ρ', Fz _ _ (.d a) ρ' ∧ _; first | refine fzd_v ?_ | refine fzd_av rfl ?_ | refine fzd_c ?_ | refine fzd_ac rfl (by nofun) ?_)
  | refine c_len rfl ?_
  | refine c_int1 rfl ?_
  | refine c_abs rfl ?_
  | refine c_items rfl ?_
  | refine c_tup rfl ?_
  | refine c_catT rfl rfl (by omega) ?_
  | refine c_cat rfl rfl (by omega) ?_
  | refine c_ds2 ?_
  | refine c_ds0 ?_
  | refine c_ds1 ?_
  | refine c_ds3 ?_
  | refine And.intro rfl ?_)
local macro_rules | `(tactic| rfl') => `(tactic| first | infer_instance | refine as_cons ?_ | refine as_nil ?_)

abbrev sExt : Stmt := topS 3
section
variable {P : Program} {w : World} {K : PySem.W.Frag} {mg : Str → Option Value} {base : Heap}
def names (m : Nat) : List Int := (List.range m).map fun i : Nat => (i : Int)
def extR (m : Nat) (ps : List (Int × Int)) : Nat → List (List Int)
  | 0 => [[]]
  | t + 1 => (extR m ps t).flatMap fun r => ((names m).filter (mayF ps r)).map fun x => r ++ [x]
theorem names_len {m : Nat} : (names m).length = m := by simp [names]
theorem extR_len {m : Nat} {ps : List (Int × Int)} : ∀ t : Nat, (extR m ps t).length ≤ m ^ t ∧ ((extR m ps t).flatMap fun _ => names m).length ≤ m ^ (t + 1)
  | 0 => by simp [extR, names_len]
  | t + 1 => by
    obtain ⟨h1, h2⟩ := extR_len (m := m) (ps := ps) t
    have a : ∀ l : List (List Int), (l.flatMap fun r => ((names m).filter (mayF ps r)).map fun x => r ++ [x]).length ≤ (l.flatMap fun _ => names m).length := by
      intro l
      induction l with
      | nil => simp
      | cons r l ih =>
        simp only [List.flatMap_cons, List.length_append, List.length_map]
        have := List.length_filter_le (mayF ps r) (names m)
        omega
    have b : ∀ l : List (List Int), (l.flatMap fun _ => names m).length = l.length * m := by
      intro l
      induction l with
      | nil => simp
      | cons r l ih => simp only [List.flatMap_cons, List.length_append, ih, names_len, List.length_cons, Nat.add_mul]; omega
    have c : (extR m ps (t + 1)).length ≤ m ^ (t + 1) := Nat.le_trans (a _) h2
    refine ⟨c, ?_⟩
    rw [b, Nat.pow_succ]
    exact Nat.mul_le_mul_right _ c
theorem extR_row {m : Nat} {ps : List (Int × Int)} : ∀ (t : Nat) (r : List Int), r ∈ extR m ps t → r.length = t
  | 0, r, h => by simp only [extR, List.mem_singleton] at h; subst h; rfl
  | t + 1, r, h => by
    simp only [extR, List.mem_flatMap, List.mem_map] at h
    obtain ⟨a, ha, x, hx, rfl⟩ := h
    rw [List.length_append, extR_row t a ha]; rfl
theorem extR_next (m : Nat) (ps : List (Int × Int)) (t : Nat) : ((extR m ps t).flatMap fun r => ((names m).filter (mayF ps r)).map fun x => rowD (r ++ [x])) = (extR m ps (t + 1)).map rowD := by
  simp only [extR, List.map_flatMap, List.map_map]
  rfl
theorem intsFrom0 (m : Nat) : Ab.intsFrom 0 m = (names m).map PyData.int := by
  unfold Ab.intsFrom names
  rw [List.map_map]
  congr 1
  funext i
  simp
theorem scExt : FnScope ["many", "pairs", "rows", "turn", "row", "name"] ["many", "pairs"] (defScope sExt) := ⟨rfl, rfl, rfl, by decide +kernel, rfl, by decide +kernel, by decide +kernel⟩
def SpExt : Spc := fun ds Φ => ∃ (m : Nat) (ps : List (Int × Int)), ds = [.int m, prsD ps] ∧ m ≤ 6 ∧ ps.length < 1000000 ∧ Φ (.v (.tuple ((extR m ps m).map rowD)))
theorem ok_ext {f : Addr} {fd : FuncData} (Fn : Fun K "extensions" "extensions" sExt f fd) (hm : mg "extensions" = some (.ref f)) (hb : L2.Binds K fd ["many", "pairs"] []) (mRange : mg "range" = none) (mTuple : mg "tuple" = none)
    (gM : FnP P w K mg base "may_follow" ["pairs", "row", "name"] 1 SpMay) : FnP P w K mg base "extensions" ["many", "pairs"] 2 SpExt := by
  refine fnP_by Fn scExt hm hb (by decide) fun cdv A outer s H E ds Φ hr xo hX hS => ?_
  obtain ⟨m, ps, rfl, hm6, hz, q⟩ := hS
  repeat rfl'
  refine as_for xo ?_
  refine ai_range1 ?_ mRange
  repeat rfl'
  refine ⟨_, rfl, by constructor <;> omega, fun i ρ => ∃ t : Sl, ρ = [.va (.int m), .va (prsD ps), .ce (.lst ((extR m ps i).map rowD)), t, .no, .no], ⟨_, rfl⟩, ?_, ?_⟩
  · rintro i d ρ2 hd ⟨t, rfl⟩
    have hi : i < m := by
      have := (List.getElem?_eq_some_iff.mp hd).1
      rw [intsFrom_len] at this
      omega
    refine ⟨_, ag_nm hX (by ac_rfl) (by nofun) xo, ?_⟩
    repeat rfl'
    refine as_stF2 (own := [("row", 4), ("name", 5)]) (vs1 := [5]) (List Int) Int xo hX (by ac_rfl) ?_ (blk_of (sc := defScope sExt) hX rfl (by decide +kernel)) (by decide)
    refine ai_list ?_
    repeat rfl'
    refine ⟨_, _, .alc rfl (by nofun), ?_⟩
    refine ⟨extR m ps i, rowD, _, fun _ => names m, fun _ x => .int x, fun r x => mayF ps r x, fun r x => rowD (r ++ [x]), rfl, .cons (.cons .nil (by nofun)) (by nofun), by simp [notCe], ?_, ?_, ?_⟩
    · have h1 := (extR_len (m := m) (ps := ps) i).2
      have h2 : m ^ (i + 1) ≤ 6 ^ 6 := Nat.le_trans (Nat.pow_le_pow_left hm6 _) (Nat.pow_le_pow_right (by decide) (by omega))
      have h3 : (6 : Nat) ^ 6 = 46656 := by decide
      show ((extR m ps i).flatMap fun _ => names m).length < 1000000
      omega
    · intro r hr'
      refine ⟨_, fun s H C cl fp => ag_nm hX (by ac_rfl) (by nofun) (xo.blk s H C cl fp), fun s H C cl fp => ai_range1 ?_ mRange⟩
      repeat rfl'
      refine ⟨m, rfl, by constructor <;> omega, by rw [Int.toNat_natCast]; exact intsFrom0 m, _, .cons .nil (by nofun), ?_, .cons (.cons .nil (by nofun)) (by nofun)⟩
      intro x hx
      refine ⟨_, fun s H C cl fp => ag_nm hX (by ac_rfl) (by nofun) (xo.blk s H C cl fp), fun s H C cl fp => ats_one (at_val ?_)⟩
      refine ae_call gM hr ?_
      repeat rfl'
      refine ⟨[_, _, _], rfl, rfl, ps, r, x, rfl, hz, ?_⟩
      refine ⟨_, rfl, fun h => ⟨h, fun s H C cl fp => ?_⟩, fun h => ⟨h, .cons .nil (by nofun)⟩⟩
      refine ae_addT ?_
      repeat rfl'
      have hl := extR_row i r hr'
      refine c_catT rfl rfl (by simp only [List.length_map, List.length_cons, List.length_nil]; omega) ?_
      exact ⟨_, fz_eq (by simp [rowD]), .cons .nil (by nofun)⟩
    · repeat rfl'
      exact ⟨_, congrArg (fun z => [_, _, Sl.ce (.lst z), _, _, _]) (extR_next m ps i)⟩
  · rintro ρ2 ⟨t, rfl⟩
    rw [intsFrom_len]
    repeat rfl'
    exact q
end
end K69
namespace K69
open PySem PySem.Spec PyProof.Rows L2 Ab
local macro_rules | `(tactic| nofun) => `(tactic| first | exact SetAt.zero | exact SetAt.succ .zero | exact SetAt.succ (.succ .zero) | exact SetAt.succ (.succ (.succ .zero)) | exact SetAt.succ (.succ (.succ (.succ .zero))) | exact SetAt.succ (.succ (.succ (.succ (.succ .zero)))) | exact SetAt.succ (.succ (.succ (.succ (.succ (.succ .zero))))) | exact SetAt.succ (.succ (.succ (.succ (.succ (.succ (.succ .zero)))))) | exact SetAt.succ (.succ (.succ (.succ (.succ (.succ (.succ (.succ .zero))))))) | exact SetAt.succ (.succ (.succ (.succ (.succ (.succ (.succ (.succ (.succ .zero)))))))) | exact SetAt.succ (.succ (.succ (.succ (.succ (.succ (.succ (.succ (.succ (.succ .zero))))))))) | exact SetAt.succ (.succ (.succ (.succ (.succ (.succ (.succ (.succ (.succ (.succ (.succ .zero)))))))))) | exact SetAt.succ (.succ (.succ (.succ (.succ (.succ (.succ (.succ (.succ (.succ (.succ (.succ .zero))))))))))) | exact SetAt.succ (.succ (.succ (.succ (.succ (.succ (.succ (.succ (.succ (.succ (.succ (.succ (.succ .zero)))))))))))) | exact SetAt.succ (.succ (.succ (.succ (.succ (.succ (.succ (.succ (.succ (.succ (.succ (.succ (.succ (.succ .zero))))))))))))) | exact SetAt.succ (.succ (.succ (.succ (.succ (.succ (.succ (.succ (.succ (.succ (.succ (.succ (.succ (.succ (.succ .zero)))))))))))))) | exact SetAt.succ (.succ (.succ (.succ (.succ (.succ (.succ (.succ (.succ (.succ (.succ (.succ (.succ (.succ (.succ (.succ .zero))))))))))))))) | exact SetAt.succ (.succ (.succ (.succ (.succ (.succ (.succ (.succ (.succ (.succ (.succ (.succ (.succ (.succ (.succ (.succ (.succ .zero)))))))))))))))) | exact SetAt.succ (.succ (.succ (.succ (.succ (.succ (.succ (.succ (.succ (.succ (.succ (.succ (.succ (.succ (.succ (.succ (.succ (.succ .zero))))))))))))))))) | exact SetAt.succ (.succ (.succ (.succ (.succ (.succ (.succ (.succ (.succ (.succ (.succ (.succ (.succ (.succ (.succ (.succ (.succ (.succ (.succ .zero)))))))))))))))))) | exact SetAt.succ (.succ (.succ (.succ (.succ (.succ (.succ (.succ (.succ (.succ (.succ (.succ (.succ (.succ (.succ (.succ (.succ (.succ (.succ (.succ .zero))))))))))))))))))) | exact SetAt.succ (.succ (.succ (.succ (.succ (.succ (.succ (.succ (.succ (.succ (.succ (.succ (.succ (.succ (.succ (.succ (.succ (.succ (.succ (.succ (.succ .zero)))))))))))))))))))))
local macro_rules | `(tactic| ac_rfl) => `(tactic| with_reducible first | exact At.zero | exact At.succ .zero | exact At.succ (.succ .zero) | exact At.succ (.succ (.succ .zero)) | exact At.succ (.succ (.succ (.succ .zero))) | exact At.succ (.succ (.succ (.succ (.succ .zero)))) | exact At.succ (.succ (.succ (.succ (.succ (.succ .zero))))) | exact At.succ (.succ (.succ (.succ (.succ (.succ (.succ .zero)))))) | exact At.succ (.succ (.succ (.succ (.succ (.succ (.succ (.succ .zero))))))) | exact At.succ (.succ (.succ (.succ (.succ (.succ (.succ (.succ (.succ .zero)))))))) | exact At.succ (.succ (.succ (.succ (.succ (.succ (.succ (.succ (.succ (.succ .zero))))))))) | exact At.succ (.succ (.succ (.succ (.succ (.succ (.succ (.succ (.succ (.succ (.succ .zero)))))))))) | exact At.succ (.succ (.succ (.succ (.succ (.succ (.succ (.succ (.succ (.succ (.succ (.succ .zero))))))))))) | exact At.succ (.succ (.succ (.succ (.succ (.succ (.succ (.succ (.succ (.succ (.succ (.succ (.succ .zero)))))))))))) | exact At.succ (.succ (.succ (.succ (.succ (.succ (.succ (.succ (.succ (.succ (.succ (.succ (.succ (.succ .zero))))))))))))) | exact At.succ (.succ (.succ (.succ (.succ (.succ (.succ (.succ (.succ (.succ (.succ (.succ (.succ (.succ (.succ .zero)))))))))))))) | exact At.succ (.succ (.succ (.succ (.succ (.succ (.succ (.succ (.succ (.succ (.succ (.succ (.succ (.succ (.succ (.succ .zero))))))))))))))) | exact At.succ (.succ (.succ (.succ (.succ (.succ (.succ (.succ (.succ (.succ (.succ (.succ (.succ (.succ (.succ (.succ (.succ .zero)))))))))))))))) | exact At.succ (.succ (.succ (.succ (.succ (.succ (.succ (.succ (.succ (.succ (.succ (.succ (.succ (.succ (.succ (.succ (.succ (.succ .zero))))))))))))))))) | exact At.succ (.succ (.succ (.succ (.succ (.succ (.succ (.succ (.succ (.succ (.succ (.succ (.succ (.succ (.succ (.succ (.succ (.succ (.succ .zero)))))))))))))))))) | exact At.succ (.succ (.succ (.succ (.succ (.succ (.succ (.succ (.succ (.succ (.succ (.succ (.succ (.succ (.succ (.succ (.succ (.succ (.succ (.succ .zero))))))))))))))))))) | exact At.succ (.succ (.succ (.succ (.succ (.succ (.succ (.succ (.succ (.succ (.succ (.succ (.succ (.succ (.succ (.succ (.succ (.succ (.succ (.succ (.succ .zero)))))))))))))))))))))
local macro_rules | `(tactic| infer_instance) => `(tactic| first
  | (show AE _ _ _ _; first | refine ae_nm (by assumption) (by ac_rfl) ?_ | refine ae_int ?_ | refine ae_add ?_ | refine ae_ix ?_ | refine ae_sub ?_ | refine ae_pow ?_ | refine ae_mul ?_ | refine ae_mod ?_ | refine ae_fdv ?_ | refine ae_tup ?_ | refine ae_lst ?_ | refine ae_t1 call_int1 ok_int1 (by assumption) b_int ?_ | refine ae_b1 call_len_seq ok_len (by assumption) b_len ?_ | refine ae_b1 call_abs ok_abs (by assumption) b_abs ?_ | refine ae_t1L call_list_of ok_listOf (by assumption) b_list ?_ | refine ae_t1 call_tuple_of ok_tupOf (by assumption) b_tuple ?_ | refine ae_ifExp ?_ | refine ae_bl ?_ | refine ae_non ?_ | refine ae_neg ?_ | refine ae_and ?_ | refine ae_one ?_ | refine ae_or ?_ | refine ae_not ?_)
  | (show AS _ _ _ _ _; first | refine as_st (by assumption) (by assumption) (by ac_rfl) ?_ | refine as_if ?_ | refine as_ret ?_ | refine as_expr ?_ | refine as_par (by assumption) (by assumption) (by ac_rfl) (by ac_rfl) ?_ | refine as_pass ?_ | refine as_continue ?_ | refine as_break ?_)
  | (show AT _ _ _ _; first | refine at_gt ?_ | refine at_ge ?_ | refine at_lt ?_ | refine at_le ?_ | refine at_eqI ?_ | refine at_neI ?_ | refine at_not ?_)
  | (show AAs _ _ _ _; first | refine aa_one ?_ | refine aa_nil ?_)
  | (show ∃ d, cII _ _ _ _ ∧ _; first | refine c_ii rfl rfl ?_ | refine c_iib rfl rfl ?_)
  | (show ∃ d, cIx _ _ _ ∧ _; first | refine c_ix rfl rfl rfl ?_)
  | (show ∃ d, cIIc _ _ _ _ _ ∧ _; first | refine c_iic rfl rfl (by first | omega | exact ⟨by omega, by omega⟩ | (unfold CMul; omega) | (unfold CPow; decide)) ?_)
  | (show ∃ ρ', Puts _ _ _ ρ' ∧ _; first | refine puts_v (by nofun) ?_ | refine puts_c (by nofun) ?_ | refine puts_av rfl (by nofun) ?_ | refine puts_ac rfl (by nofun) (by nofun) ?_)
  | (show ∃ a ρ', Fz _ _ a ρ' ∧ _; first | refine fz_v ?_ | refine fz_av rfl ?_ | refine fz_c ?_ | refine fz_ac rfl (by nofun) ?_ | refine fz_bx rfl ?_)
  | (show ∃ a ρ', Rets _ _ a ρ' ∧ _; first | refine rets_v ?_ | refine rets_av rfl ?_ | refine rets_c ?_ | refine rets_ac rfl (by nofun) ?_)
  | (show ∃ ρ3 ρ4, SetAt _ _ (outSl _) ρ3 ∧ SetAt ρ3 _ (outSl _) ρ4 ∧ _; first | refine c_par (by nofun) (by nofun) ?_)
  | (show ∃ a ρ', Fz _ _ (.d a) ρ' ∧ _; first | refine fzd_v ?_ | refine fzd_av rfl ?_ | refine fzd_c ?_ | refine fzd_ac rfl (by nofun) ?_)
  | refine c_len rfl ?_
  | refine c_int1 rfl ?_
  | refine c_abs rfl ?_
  | refine c_items rfl ?_
  | refine c_tup rfl ?_
  | refine c_catT rfl rfl (by omega) ?_
  | refine c_cat rfl rfl (by omega) ?_
  | refine c_ds2 ?_
  | refine c_ds0 ?_
  | refine c_ds1 ?_
  | refine c_ds3 ?_
  | refine And.intro rfl ?_)
local macro_rules | `(tactic| rfl') => `(tactic| first | infer_instance | refine as_cons ?_ | refine as_nil ?_)

abbrev sClos : Stmt := topS 1
section
variable {P : Program} {w : World} {K : PySem.W.Frag} {mg : Str → Option Value} {base : Heap}
/-- what follows from pairs -/
inductive Tr (ps : List (Int × Int)) : Int × Int → Prop
  | base {p : Int × Int} : p ∈ ps → Tr ps p
  | step {a b c : Int} : Tr ps (a, b) → Tr ps (b, c) → Tr ps (a, c)
def kp (p : Int × Int) : List Key := [.inl p.1, .inl p.2]
def en (p : Int × Int) : List Key × D := (kp p, .bool true)
def insP (l : List (Int × Int)) (p : Int × Int) : List (Int × Int) := if p ∈ l then l else l ++ [p]
theorem kp_inj {p q : Int × Int} : kp p = kp q ↔ p = q := by
  constructor
  · intro h
    unfold kp at h
    injection h with h1 h2
    injection h2 with h2 h3
    injection h1 with h1
    injection h2 with h2
    exact Prod.ext h1 h2
  · rintro rfl; rfl
theorem put_en (l : List (Int × Int)) (p : Int × Int) : putD (l.map en) (kp p) (.bool true) = (insP l p).map en := by
  have e : ((l.map en).any fun kv => decide (kv.1 = kp p)) = decide (p ∈ l) := by
    rw [List.any_map, Bool.eq_iff_iff, List.any_eq_true, decide_eq_true_iff]
    constructor
    · rintro ⟨x, hx, h⟩
      have : x = p := kp_inj.mp (of_decide_eq_true h)
      exact this ▸ hx
    · intro h
      exact ⟨p, h, by simp [en]⟩
  unfold putD insP
  rw [e]
  by_cases h : p ∈ l
  · rw [if_pos (by simpa using h), if_pos h, List.map_map]
    refine List.map_congr_left fun x _ => ?_
    show (if (en x).1 = kp p then ((en x).1, PyData.bool true) else en x) = en x
    split <;> rfl
  · rw [if_neg (by simpa using h), if_neg h, List.map_append]
    rfl
theorem val_en (l : List (Int × Int)) (p : Int × Int) : (valD (l.map en) (kp p)).isSome = decide (p ∈ l) := by
  unfold valD
  rw [Option.isSome_map, Bool.eq_iff_iff, List.find?_isSome, decide_eq_true_iff]
  constructor
  · rintro ⟨x, hx, h⟩
    obtain ⟨y, hy, rfl⟩ := List.mem_map.mp hx
    have : y = p := kp_inj.mp (of_decide_eq_true h)
    exact this ▸ hy
  · intro h
    exact ⟨en p, List.mem_map.mpr ⟨p, h, rfl⟩, by simp [en]⟩
theorem insP_len (l : List (Int × Int)) (p : Int × Int) : (insP l p).length ≤ l.length + 1 := by
  unfold insP; split <;> simp
theorem mem_insP {l : List (Int × Int)} {p q : Int × Int} : q ∈ insP l p ↔ q ∈ l ∨ q = p := by
  unfold insP
  split
  · rename_i h
    exact ⟨Or.inl, fun h' => h'.elim id fun e => e ▸ h⟩
  · simp
/-- found, as the walk goes on -/
structure Fd (ps l : List (Int × Int)) (n : Nat) : Prop where
  all : ∀ p ∈ ps, p ∈ l
  tr : ∀ p ∈ l, Tr ps p
  len : l.length ≤ ps.length + n
theorem Fd.ins {ps l : List (Int × Int)} {n : Nat} (h : Fd ps l n) {p : Int × Int} (t : Tr ps p) : Fd ps (insP l p) (n + 1) :=
  ⟨fun q hq => mem_insP.mpr (.inl (h.all q hq)), fun q hq => (mem_insP.mp hq).elim (h.tr q) fun e => e ▸ t, Nat.le_trans (insP_len _ _) (by have := h.len; omega)⟩
theorem Fd.up {ps l : List (Int × Int)} {n m : Nat} (h : Fd ps l n) (e : n ≤ m) : Fd ps l m := ⟨h.all, h.tr, by have := h.len; omega⟩
theorem srt_pairs (l : List (Int × Int)) : ∃ qs : List (Int × Int), qs.Perm l ∧ srt (l.map pairAb) = qs.map pairAb := by
  have key : ∀ (ds : List D) (l : List (Int × Int)), ds.Perm (l.map pairAb) → ∃ qs : List (Int × Int), qs.Perm l ∧ ds = qs.map pairAb := by
    intro ds
    induction ds with
    | nil => intro l h; have := h.length_eq; rw [List.length_map] at this; exact ⟨[], by rw [List.length_eq_zero_iff.mp this.symm], rfl⟩
    | cons d ds ih =>
      intro l h
      obtain ⟨p, hp, e⟩ := List.mem_map.mp (h.mem_iff.mp List.mem_cons_self)
      have h1 : l.Perm (p :: l.erase p) := List.perm_cons_erase hp
      have h2 : (d :: ds).Perm (d :: (l.erase p).map pairAb) := by
        have := h.trans (h1.map pairAb)
        rwa [List.map_cons, e] at this
      obtain ⟨qs, h3, h4⟩ := ih _ (List.Perm.cons_inv h2)
      exact ⟨p :: qs, (h3.cons p).trans h1.symm, by rw [List.map_cons, e, h4]⟩
  exact key _ l (srt_perm _)
theorem ds_pairs (l : List (Int × Int)) : DS (l.map pairAb) := by
  refine ⟨fun d hd d' hd' => ?_, .inl fun d hd => ?_, fun d hd => ?_⟩
  · obtain ⟨p, _, rfl⟩ := List.mem_map.mp hd
    obtain ⟨q, _, rfl⟩ := List.mem_map.mp hd'
    rfl
  · obtain ⟨p, _, rfl⟩ := List.mem_map.mp hd
    exact ⟨_, _, rfl⟩
  · obtain ⟨p, _, rfl⟩ := List.mem_map.mp hd
    exact ⟨rfl, by simp [pairAb, PyData.depth, PyData.depthAll]⟩
theorem scClos : FnScope ["many", "pairs", "found", "middle", "ahead", "behind", "one", "two", "pair"] ["many", "pairs"] (defScope sClos) := ⟨rfl, rfl, rfl, by decide +kernel, rfl, by decide +kernel, by decide +kernel⟩
def SpClos : Spc := fun ds Φ => ∃ (m : Nat) (ps : List (Int × Int)), ds = [.int m, prsD ps] ∧ m ≤ 8 ∧ ps.length ≤ 1000 ∧ ∀ qs : List (Int × Int), (∀ p ∈ ps, p ∈ qs) → (∀ q ∈ qs, Tr ps q) → qs.length ≤ 2000 → Φ (.v (prsD qs))
theorem ok_clos {f : Addr} {fd : FuncData} (Fn : Fun K "closed_pairs" "closed_pairs" sClos f fd) (hm : mg "closed_pairs" = some (.ref f)) (hb : L2.Binds K fd ["many", "pairs"] []) (mRange : mg "range" = none) (mTuple : mg "tuple" = none) (mList : mg "list" = none) (mSorted : mg "sorted" = none) :
    FnP P w K mg base "closed_pairs" ["many", "pairs"] 1 SpClos := by
  refine fnP_by Fn scClos hm hb (by decide) fun cdv A outer s H E ds Φ hr xo hX hS => ?_
  obtain ⟨m, ps, rfl, hm8, hz, q⟩ := hS
  refine as_cons ?_
  repeat infer_instance
  refine ae_dcT (own := [("pair", 8)]) xo ?_ (blk_of (sc := defScope sClos) hX rfl (by decide +kernel))
  refine ai_tup ?_
  repeat infer_instance
  refine ⟨_, _, .alv rfl, ?_⟩
  refine ⟨fun i acc => ∃ l, acc = l.map en ∧ (∀ p ∈ ps.take i, p ∈ l) ∧ (∀ p ∈ l, Tr ps p) ∧ l.length ≤ i, _, .cons .nil (by nofun), by simp [notCe, entry], ⟨[], rfl, by simp, by simp, by simp⟩, ?_, ?_⟩
  · rintro i d acc hd ⟨l, rfl, h1, h2, h3⟩
    obtain ⟨p, hp, rfl⟩ := get_map hd
    have hi : i < ps.length := (List.getElem?_eq_some_iff.mp hp).1
    refine ⟨_, fun s H C cl fp => ag_nm hX (by ac_rfl) (by nofun) (xo.blk s H C cl fp), fun s H C cl fp => ats_nil ⟨fun _ => fun s H C cl fp => ?_, fun hb => by cases hb⟩⟩
    repeat infer_instance
    refine ⟨kp p, _, .alv rfl, fun s H C cl fp => ?_⟩
    repeat infer_instance
    refine ⟨.cons .nil (by nofun), by rw [List.length_map]; omega, insP l p, put_en l p, ?_, ?_, ?_⟩
    · intro x hx
      rw [Ab.take_next hp, List.mem_append, List.mem_singleton] at hx
      exact mem_insP.mpr (hx.imp (h1 x) id)
    · intro x hx
      exact (mem_insP.mp hx).elim (h2 x) fun e => e ▸ .base (List.mem_of_getElem? hp)
    · have := insP_len l p
      omega
  · rintro acc ⟨l0, rfl, h1, h2, h3⟩
    rw [List.length_map] at h1 h3
    rw [List.take_length] at h1
    have f0 : Fd ps l0 0 := ⟨h1, h2, h3⟩
    repeat rfl'
    refine as_for xo ?_
    refine ai_range1 ?_ mRange
    repeat rfl'
    refine ⟨m, rfl, by constructor <;> omega, ?_⟩
    rw [Int.toNat_natCast, intsFrom0]
    refine ⟨fun i ρ => ∃ l t3 t4 t5 t6 t7, ρ = [.va (.int m), .va (prsD ps), .ce (.dT (l.map en)), t3, t4, t5, t6, t7, .no] ∧ Fd ps l (i * 64) ∧ notCe t6 = true ∧ notCe t7 = true, ⟨l0, _, _, _, _, _, rfl, f0, rfl, rfl⟩, ?_, ?_⟩
    · rintro i d ρ2 hd ⟨l, t3, t4, t5, t6, t7, rfl, fd, n6, n7⟩
      obtain ⟨mid, hmid, rfl⟩ := get_map hd
      have hi : i < m := by
        have := (List.getElem?_eq_some_iff.mp hmid).1
        rwa [names_len] at this
      refine ⟨_, ag_nm hX (by ac_rfl) (by nofun) xo, ?_⟩
      refine as_cons ?_
      refine as_stF (own := [("one", 6)]) Int xo hX (by ac_rfl) ?_ (blk_of (sc := defScope sClos) hX rfl (by decide +kernel))
      refine ai_range1 ?_ mRange
      repeat infer_instance
      refine ⟨m, rfl, by constructor <;> omega, ?_⟩
      rw [Int.toNat_natCast, intsFrom0]
      refine ⟨names m, .int, fun x => decide ((x, mid) ∈ l), .int, _, rfl, by rw [names_len]; omega, .cons .nil (by nofun), by simpa [notCe] using n6, ?_, ?_⟩
      · intro x hx
        refine ⟨_, fun s H C cl fp => ag_nm hX (by ac_rfl) (by nofun) (xo.blk s H C cl fp), fun s H C cl fp => ats_one (at_din (xo.blk s H C cl fp) ?_)⟩
        repeat infer_instance
        refine ⟨_, .inl ⟨l.map en, kp (x, mid), rfl, rfl, rfl⟩, ?_⟩
        rw [val_en]
        refine ⟨fun h => ⟨h, fun s H C cl fp => ?_⟩, fun h => ⟨h, .cons .nil (by nofun)⟩⟩
        repeat infer_instance
        exact ⟨_, .alv rfl, .cons .nil (by nofun)⟩
      repeat infer_instance
      refine as_cons ?_
      refine as_stF (own := [("two", 7)]) Int xo hX (by ac_rfl) ?_ (blk_of (sc := defScope sClos) hX rfl (by decide +kernel))
      refine ai_range1 ?_ mRange
      repeat infer_instance
      refine ⟨m, rfl, by constructor <;> omega, ?_⟩
      rw [Int.toNat_natCast, intsFrom0]
      refine ⟨names m, .int, fun x => decide ((mid, x) ∈ l), .int, _, rfl, by rw [names_len]; omega, .cons .nil (by nofun), by simpa [notCe] using n7, ?_, ?_⟩
      · intro x hx
        refine ⟨_, fun s H C cl fp => ag_nm hX (by ac_rfl) (by nofun) (xo.blk s H C cl fp), fun s H C cl fp => ats_one (at_din (xo.blk s H C cl fp) ?_)⟩
        repeat infer_instance
        refine ⟨_, .inl ⟨l.map en, kp (mid, x), rfl, rfl, rfl⟩, ?_⟩
        rw [val_en]
        refine ⟨fun h => ⟨h, fun s H C cl fp => ?_⟩, fun h => ⟨h, .cons .nil (by nofun)⟩⟩
        repeat infer_instance
        exact ⟨_, .alv rfl, .cons .nil (by nofun)⟩
      repeat infer_instance
      generalize hA : (names m).filter (fun x => decide ((x, mid) ∈ l)) = LA
      generalize hB : (names m).filter (fun x => decide ((mid, x) ∈ l)) = LB
      have a1 : LA.length ≤ 8 := by
        have := List.length_filter_le (fun x => decide ((x, mid) ∈ l)) (names m)
        rw [names_len, hA] at this
        omega
      have b1 : LB.length ≤ 8 := by
        have := List.length_filter_le (fun x => decide ((mid, x) ∈ l)) (names m)
        rw [names_len, hB] at this
        omega
      have a2 : ∀ x ∈ LA, Tr ps (x, mid) := fun x hx => by
        rw [← hA] at hx
        exact fd.tr _ (by simpa using (List.mem_filter.mp hx).2)
      have b2 : ∀ x ∈ LB, Tr ps (mid, x) := fun x hx => by
        rw [← hB] at hx
        exact fd.tr _ (by simpa using (List.mem_filter.mp hx).2)
      repeat rfl'
      refine as_for xo ?_
      refine ai_list ?_
      repeat infer_instance
      refine ⟨_, _, .alc rfl (by nofun), ?_⟩
      refine ⟨fun j ρ => ∃ l t3 t5 t6 t7, ρ = [.va (.int m), .va (prsD ps), .ce (.dT (l.map en)), t3, .va (.list (LA.map .int)), t5, t6, t7, .no] ∧ Fd ps l (i * 64 + j * 8) ∧ notCe t6 = true ∧ notCe t7 = true ∧ (t5 = .ce (.lst (LB.map .int)) ∨ t5 = .va (.list (LB.map .int))), ⟨l, _, _, _, _, rfl, fd, n6, n7, .inl rfl⟩, ?_, ?_⟩
      · rintro j d ρ2 hd ⟨l, t3, t5, t6, t7, rfl, fd, n6, n7, h5⟩
        obtain ⟨x, hx, rfl⟩ := get_map hd
        have hj : j < LA.length := (List.getElem?_eq_some_iff.mp hx).1
        refine ⟨_, ag_nm hX (by ac_rfl) (by nofun) xo, ?_⟩
        refine as_cons ?_
        refine as_for xo ?_
        refine ai_list ?_
        have fz : ∀ u4 u6 u7 u8 : Sl, Fz [.va (.int m), .va (prsD ps), .ce (.dT (l.map en)), t3, u4, t5, u6, u7, u8] (.al 5) (.d (.list (LB.map .int))) [.va (.int m), .va (prsD ps), .ce (.dT (l.map en)), t3, u4, .va (.list (LB.map .int)), u6, u7, u8] := fun u4 u6 u7 u8 => by
          rcases h5 with rfl | rfl
          · exact .alc rfl (by nofun)
          · exact .alv rfl
        refine ae_nm hX (by ac_rfl) ?_ (by rcases h5 with rfl | rfl <;> rfl)
        refine ⟨_, _, fz _ _ _ _, ?_⟩
        refine ⟨fun n ρ => ∃ l t3 t7, ρ = [.va (.int m), .va (prsD ps), .ce (.dT (l.map en)), t3, .va (.list (LA.map .int)), .va (.list (LB.map .int)), .va (.int x), t7, .no] ∧ Fd ps l (i * 64 + j * 8 + n) ∧ notCe t7 = true, ⟨l, _, _, rfl, fd, n7⟩, ?_, ?_⟩
        · rintro n d ρ2 hd ⟨l, t3, t7, rfl, fd, n7⟩
          obtain ⟨y, hy, rfl⟩ := get_map hd
          have hn : n < LB.length := (List.getElem?_eq_some_iff.mp hy).1
          refine ⟨_, ag_nm hX (by ac_rfl) (by nofun) xo, ?_⟩
          refine as_cons ?_
          refine as_dput xo 2 ?_
          repeat infer_instance
          refine ⟨l.map en, kp (x, y), _, _, .v, rfl, by have := fd.len; rw [List.length_map]; omega, by nofun, ?_⟩
          refine as_nil ⟨insP l (x, y), _, _, by rw [put_en], fd.ins (.step (a2 x (List.mem_of_getElem? hx)) (b2 y (List.mem_of_getElem? hy))), rfl⟩
        · rintro ρ2 ⟨l, t3, t7, rfl, fd, n7⟩
          rw [List.length_map] at fd
          refine as_nil ⟨l, _, _, _, _, rfl, fd.up (by omega), rfl, n7, .inr rfl⟩
      · rintro ρ2 ⟨l, t3, t5, t6, t7, rfl, fd, n6, n7, h5⟩
        rw [List.length_map] at fd
        refine as_nil ⟨l, _, _, _, _, _, rfl, fd.up (by omega), n6, n7⟩
    · rintro ρ2 ⟨l, t3, t4, t5, t6, t7, rfl, fd, n6, n7⟩
      rw [List.length_map, names_len] at fd
      refine as_cons ?_
      refine as_ret ?_
      refine ae_t1 call_tuple_of ok_tupOf mTuple b_tuple ?_
      refine ae_b1L (cr_sortD xo.units) ok_sortD mSorted b_sorted ?_
      refine ae_listDT xo mList ?_
      repeat infer_instance
      refine ⟨l.map en, rfl, ?_⟩
      have e : (l.map en).map (fun kv => tupK kv.1) = l.map pairAb := by rw [List.map_map]; rfl
      rw [e]
      refine c_sortD rfl (ds_pairs l) ?_
      obtain ⟨qs, pq, eq⟩ := srt_pairs l
      rw [eq]
      refine c_tup rfl ?_
      repeat infer_instance
      exact q qs (fun p hp => pq.mem_iff.mpr (fd.all p hp)) (fun p hp => fd.tr p (pq.mem_iff.mp hp)) (by have := fd.len; rw [pq.length_eq]; omega)
end
end K69
namespace K69
open PySem PySem.Spec PyProof.Rows L2 Ab
/-! ### lots: a list of entries, each key once -/
abbrev Lots := List (List Int × Int)
def lotK (r : List Int) : List Key := r.map Sum.inl
def en2 (e : List Int × Int) : List Key × D := (lotK e.1, .int e.2)
theorem lotK_row (r : List Int) : tupK (lotK r) = rowD r := by
  unfold tupK lotK rowD
  rw [List.map_map]
  rfl
theorem lotK_inj : ∀ {r q : List Int}, lotK r = lotK q ↔ r = q
  | [], [] => by simp
  | [], _ :: _ => by simp [lotK]
  | _ :: _, [] => by simp [lotK]
  | a :: r, b :: q => by
    have := lotK_inj (r := r) (q := q)
    unfold lotK at this ⊢
    simp only [List.map_cons, List.cons.injEq, Sum.inl.injEq, this]
def look (l : Lots) (r : List Int) : Option Int := (l.find? fun e => decide (e.1 = r)).map (·.2)
def put2 (l : Lots) (r : List Int) (n : Int) : Lots := if l.any (fun e => decide (e.1 = r)) then l.map fun e => if e.1 = r then (e.1, n) else e else l ++ [(r, n)]
theorem find_en2 (l : Lots) (r : List Int) : (l.map en2).find? (fun kv => decide (kv.1 = lotK r)) = (l.find? fun e => decide (e.1 = r)).map en2 := by
  induction l with
  | nil => rfl
  | cons e l ih =>
    rw [List.map_cons, List.find?_cons, List.find?_cons]
    have : decide ((en2 e).1 = lotK r) = decide (e.1 = r) := by
      rw [Bool.eq_iff_iff, decide_eq_true_iff, decide_eq_true_iff]; exact lotK_inj
    rw [this]
    by_cases h : e.1 = r
    · rw [decide_eq_true h]; rfl
    · rw [decide_eq_false h]; exact ih
theorem val_en2 (l : Lots) (r : List Int) : valD (l.map en2) (lotK r) = (look l r).map PyData.int := by
  unfold valD look
  rw [find_en2, Option.map_map, Option.map_map]
  rfl
theorem put_en2 (l : Lots) (r : List Int) (n : Int) : putD (l.map en2) (lotK r) (.int n) = (put2 l r n).map en2 := by
  have e : ((l.map en2).any fun kv => decide (kv.1 = lotK r)) = l.any fun e => decide (e.1 = r) := by
    rw [List.any_map]
    congr 1
    funext x
    show decide (lotK x.1 = lotK r) = _
    rw [Bool.eq_iff_iff, decide_eq_true_iff, decide_eq_true_iff]; exact lotK_inj
  unfold putD put2
  rw [e]
  split
  · rw [List.map_map, List.map_map]
    refine List.map_congr_left fun x _ => ?_
    show (if lotK x.1 = lotK r then (lotK x.1, PyData.int n) else en2 x) = en2 (if x.1 = r then (x.1, n) else x)
    by_cases h : x.1 = r
    · rw [if_pos (lotK_inj.mpr h), if_pos h]; rfl
    · rw [if_neg fun z => h (lotK_inj.mp z), if_neg h]
  · rw [List.map_append]; rfl
theorem look_cons (e : List Int × Int) (l : Lots) (r : List Int) : look (e :: l) r = if e.1 = r then some e.2 else look l r := by
  unfold look
  rw [List.find?_cons]
  by_cases h : e.1 = r
  · rw [decide_eq_true h, if_pos h]; rfl
  · rw [decide_eq_false h, if_neg h]
theorem look_none {l : Lots} {r : List Int} (h : l.any (fun e => decide (e.1 = r)) = false) : look l r = none := by
  unfold look
  rw [Option.map_eq_none_iff, List.find?_eq_none]
  intro x hx hd
  have : l.any (fun e => decide (e.1 = r)) = true := List.any_eq_true.mpr ⟨x, hx, hd⟩
  rw [h] at this
  cases this
theorem look_app (l m : Lots) (r : List Int) : look (l ++ m) r = (look l r).or (look m r) := by
  induction l with
  | nil => simp [look]
  | cons e l ih =>
    rw [List.cons_append, look_cons, look_cons]
    split
    · rfl
    · exact ih
theorem look_map (l : Lots) (r q : List Int) (n : Int) : look (l.map fun e => if e.1 = r then (e.1, n) else e) q = if q = r then (look l q).map fun _ => n else look l q := by
  induction l with
  | nil => unfold look; split <;> rfl
  | cons e l ih =>
    rw [List.map_cons, look_cons, look_cons, ih]
    by_cases h : e.1 = r
    · rw [if_pos h]
      by_cases hq : e.1 = q
      · rw [if_pos hq, if_pos hq, if_pos (hq.symm.trans h)]; rfl
      · rw [if_neg hq, if_neg hq]
    · rw [if_neg h]
      by_cases hq : e.1 = q
      · rw [if_pos hq, if_pos hq, if_neg fun z => h (hq.trans z)]
      · rw [if_neg hq, if_neg hq]
theorem look_put (l : Lots) (r q : List Int) (n : Int) : look (put2 l r n) q = if q = r then some n else look l q := by
  unfold put2
  cases h : l.any (fun e => decide (e.1 = r)) with
  | true =>
    rw [if_pos rfl, look_map]
    by_cases hq : q = r
    · rw [if_pos hq, if_pos hq]
      subst hq
      obtain ⟨x, hx, hd⟩ := List.any_eq_true.mp h
      have : (look l q).isSome = true := by
        unfold look
        rw [Option.isSome_map, List.find?_isSome]
        exact ⟨x, hx, hd⟩
      obtain ⟨y, hy⟩ := Option.isSome_iff_exists.mp this
      rw [hy]; rfl
    · rw [if_neg hq, if_neg hq]
  | false =>
    rw [if_neg (by simp), look_app]
    by_cases hq : q = r
    · subst hq
      rw [look_none h, if_pos rfl, look_cons, if_pos rfl]; rfl
    · rw [if_neg hq, look_cons, if_neg fun z => hq z.symm]
      cases look l q <;> rfl
theorem put_keys (l : Lots) (r : List Int) (n : Int) : (put2 l r n).map (·.1) = if l.any (fun e => decide (e.1 = r)) then l.map (·.1) else l.map (·.1) ++ [r] := by
  unfold put2
  split
  · rw [List.map_map]
    refine List.map_congr_left fun x _ => ?_
    show (if x.1 = r then (x.1, n) else x).1 = x.1
    split <;> rfl
  · rw [List.map_append]; rfl
theorem put_len (l : Lots) (r : List Int) (n : Int) : (put2 l r n).length ≤ l.length + 1 := by
  have := congrArg List.length (put_keys l r n)
  rw [List.length_map] at this
  rw [this]
  split <;> simp
/-- l stands for S: where S is nought, nothing -/
structure Repr (l : Lots) (S : List Int → Nat) : Prop where
  nd : (l.map (·.1)).Nodup
  val : ∀ r, look l r = if S r = 0 then none else some (S r : Int)
theorem Repr.nil : Repr [] fun _ => 0 := ⟨List.nodup_nil, fun r => rfl⟩
theorem Repr.congr {l : Lots} {S T : List Int → Nat} (h : Repr l S) (e : ∀ r, S r = T r) : Repr l T := ⟨h.nd, fun r => by rw [← e r]; exact h.val r⟩
theorem Repr.put {l : Lots} {S : List Int → Nat} (h : Repr l S) (r : List Int) {n : Nat} (hn : 1 ≤ n) : Repr (put2 l r (((look l r).getD 0) + n)) fun q => S q + if q = r then n else 0 := by
  refine ⟨?_, fun q => ?_⟩
  · rw [put_keys]
    split
    · exact h.nd
    · rename_i hf
      rw [List.nodup_append]
      refine ⟨h.nd, by simp, fun a ha b hb => ?_⟩
      rw [List.mem_singleton] at hb
      subst hb
      rintro rfl
      obtain ⟨e, he, e1⟩ := List.mem_map.mp ha
      exact hf (List.any_eq_true.mpr ⟨e, he, decide_eq_true e1⟩)
  · rw [look_put]
    by_cases hq : q = r
    · subst hq
      rw [if_pos rfl, if_pos rfl, if_neg (by omega), h.val q]
      congr 1
      by_cases hz : S q = 0
      · rw [if_pos hz, hz]; simp
      · rw [if_neg hz]; simp
    · rw [if_neg hq, if_neg hq, h.val q]; rfl
theorem Repr.mem {l : Lots} {S : List Int → Nat} (h : Repr l S) {r : List Int} {n : Int} (hm : (r, n) ∈ l) : (S r : Int) = n ∧ 1 ≤ S r := by
  have hl : ∀ {l : Lots}, (l.map (·.1)).Nodup → (r, n) ∈ l → look l r = some n := by
    intro l
    induction l with
    | nil => intro _ h; cases h
    | cons e l ih =>
      intro nd hm
      rw [List.map_cons, List.nodup_cons] at nd
      rw [look_cons]
      rcases List.mem_cons.mp hm with rfl | hm
      · rw [if_pos rfl]
      · rw [if_neg fun z : e.1 = r => nd.1 (z.symm ▸ List.mem_map.mpr ⟨_, hm, rfl⟩)]
        exact ih nd.2 hm
  have := hl h.nd hm
  rw [h.val r] at this
  split at this
  · cases this
  · injection this with this
    exact ⟨this, by omega⟩
theorem Repr.key {l : Lots} {S : List Int → Nat} (h : Repr l S) {r : List Int} (hr : S r ≠ 0) : (r, (S r : Int)) ∈ l := by
  have := h.val r
  rw [if_neg hr] at this
  unfold look at this
  rw [Option.map_eq_some_iff] at this
  obtain ⟨e, h1, h2⟩ := this
  have h3 := List.find?_some h1
  have h4 := List.mem_of_find?_eq_some h1
  have h5 : e.1 = r := of_decide_eq_true h3
  have : e = (r, (S r : Int)) := Prod.ext h5 h2
  exact this ▸ h4
/-! ### counts -/
def cntN (m : Nat) (ps : List (Int × Int)) (t : Nat) (M : List Int) : Nat := ((extR m ps t).filter fun r => decide (isort r = M)).length
def con (ps : List (Int × Int)) (r : List Int) (xs : List Int) (M : List Int) : Nat := (xs.filter fun x => mayF ps r x && decide (isort (r ++ [x]) = M)).length
theorem mem_isort {r : List Int} {x : Int} : x ∈ isort r ↔ x ∈ r := (isort_perm r).mem_iff
theorem may_isort (ps : List (Int × Int)) (r : List Int) (x : Int) : mayF ps (isort r) x = mayF ps r x := by
  unfold mayF
  simp only [mem_isort]
theorem isort_app (r : List Int) (x : Int) : isort (isort r ++ [x]) = isort (r ++ [x]) :=
  (isort_eq (ns := isort r ++ [x]) (((isort_perm (r ++ [x])).trans ((isort_perm r).symm.append_right _))) (isort_le _)).symm
theorem con_isort (ps : List (Int × Int)) (r xs M : List Int) : con ps (isort r) xs M = con ps r xs M := by
  unfold con
  simp only [may_isort, isort_app]
theorem cnt_next (m : Nat) (ps : List (Int × Int)) (t : Nat) (M : List Int) : cntN m ps (t + 1) M = ((extR m ps t).map fun r => con ps (isort r) (names m) M).sum := by
  unfold cntN
  simp only [con_isort]
  have : ∀ l : List (List Int), ((l.flatMap fun r => ((names m).filter (mayF ps r)).map fun x => r ++ [x]).filter fun r => decide (isort r = M)).length = (l.map fun r => con ps r (names m) M).sum := by
    intro l
    induction l with
    | nil => rfl
    | cons r l ih =>
      rw [List.flatMap_cons, List.filter_append, List.length_append, ih, List.map_cons, List.sum_cons]
      congr 1
      unfold con
      rw [List.filter_map, List.length_map, List.filter_filter]
      congr 2
      funext x
      exact Bool.and_comm _ _
  exact this _
theorem sum_swap {α β : Type} (f : α → β → Nat) : ∀ (l : List α) (k : List β), (l.map fun a => (k.map fun b => f a b).sum).sum = (k.map fun b => (l.map fun a => f a b).sum).sum
  | [], k => by
    induction k with
    | nil => rfl
    | cons b k ih => simp only [List.map_nil, List.sum_nil, List.map_cons, List.sum_cons] at *; omega
  | a :: l, k => by
    rw [List.map_cons, List.sum_cons, sum_swap f l k]
    clear sum_swap
    induction k with
    | nil => rfl
    | cons b k ih => simp only [List.map_cons, List.sum_cons] at *; omega
theorem group {l : Lots} {S : List Int → Nat} (h : Repr l S) (R : List (List Int)) (hS : ∀ M, S M = (R.filter fun r => decide (isort r = M)).length) (g : List Int → Nat) :
    (R.map fun r => g (isort r)).sum = (l.map fun e => e.2.toNat * g e.1).sum := by
  have e1 : ∀ e ∈ l, e.2.toNat * g e.1 = (R.map fun r => if isort r = e.1 then g e.1 else 0).sum := by
    intro e he
    have h1 := (h.mem (r := e.1) (n := e.2) he).1
    have h2 : e.2.toNat = (R.filter fun r => decide (isort r = e.1)).length := by rw [← hS]; omega
    rw [h2]
    clear hS h1 h2
    induction R with
    | nil => simp
    | cons r R ih =>
      rw [List.map_cons, List.sum_cons, ← ih, List.filter_cons]
      by_cases hr : isort r = e.1
      · rw [if_pos (decide_eq_true hr), if_pos hr, List.length_cons, Nat.add_mul]; omega
      · rw [if_neg (by simpa using hr), if_neg hr]; omega
  rw [List.map_congr_left e1, sum_swap (fun (e : List Int × Int) r => if isort r = e.1 then g e.1 else 0) l R]
  congr 1
  refine List.map_congr_left fun r hr => ?_
  have hk : S (isort r) ≠ 0 := by
    rw [hS]
    have : r ∈ R.filter fun q => decide (isort q = isort r) := List.mem_filter.mpr ⟨hr, by simp⟩
    have := List.length_pos_of_mem this
    omega
  have hm := h.key hk
  have one : ∀ (l : Lots), (l.map (·.1)).Nodup → isort r ∈ l.map (·.1) → (l.map fun e => if isort r = e.1 then g e.1 else 0).sum = g (isort r) := by
    intro l
    induction l with
    | nil => intro _ h; cases h
    | cons e l ih =>
      intro nd hm
      rw [List.map_cons, List.nodup_cons] at nd
      rw [List.map_cons, List.sum_cons]
      by_cases he : isort r = e.1
      · rw [if_pos he, he]
        have z : ∀ x ∈ l, (if e.1 = x.1 then g x.1 else 0) = 0 := fun x hx => by
          rw [if_neg fun y : e.1 = x.1 => nd.1 (y.symm ▸ List.mem_map.mpr ⟨x, hx, rfl⟩)]
        rw [List.map_congr_left z]
        clear ih nd hm z
        induction l with
        | nil => rfl
        | cons a l ih => rw [List.map_cons, List.sum_cons, Nat.zero_add]; omega
      · rw [if_neg he, Nat.zero_add]
        refine ih nd.2 ?_
        rcases List.mem_cons.mp hm with h | h
        · exact absurd h he
        · exact h
  exact (one l h.nd (List.mem_map.mpr ⟨_, hm, rfl⟩)).symm
end K69
namespace K69
open PySem PySem.Spec PyProof.Rows L2 Ab
local macro_rules | `(tactic| nofun) => `(tactic| first | exact SetAt.zero | exact SetAt.succ .zero | exact SetAt.succ (.succ .zero) | exact SetAt.succ (.succ (.succ .zero)) | exact SetAt.succ (.succ (.succ (.succ .zero))) | exact SetAt.succ (.succ (.succ (.succ (.succ .zero)))) | exact SetAt.succ (.succ (.succ (.succ (.succ (.succ .zero))))) | exact SetAt.succ (.succ (.succ (.succ (.succ (.succ (.succ .zero)))))) | exact SetAt.succ (.succ (.succ (.succ (.succ (.succ (.succ (.succ .zero))))))) | exact SetAt.succ (.succ (.succ (.succ (.succ (.succ (.succ (.succ (.succ .zero)))))))) | exact SetAt.succ (.succ (.succ (.succ (.succ (.succ (.succ (.succ (.succ (.succ .zero))))))))) | exact SetAt.succ (.succ (.succ (.succ (.succ (.succ (.succ (.succ (.succ (.succ (.succ .zero)))))))))) | exact SetAt.succ (.succ (.succ (.succ (.succ (.succ (.succ (.succ (.succ (.succ (.succ (.succ .zero))))))))))) | exact SetAt.succ (.succ (.succ (.succ (.succ (.succ (.succ (.succ (.succ (.succ (.succ (.succ (.succ .zero)))))))))))) | exact SetAt.succ (.succ (.succ (.succ (.succ (.succ (.succ (.succ (.succ (.succ (.succ (.succ (.succ (.succ .zero))))))))))))) | exact SetAt.succ (.succ (.succ (.succ (.succ (.succ (.succ (.succ (.succ (.succ (.succ (.succ (.succ (.succ (.succ .zero)))))))))))))) | exact SetAt.succ (.succ (.succ (.succ (.succ (.succ (.succ (.succ (.succ (.succ (.succ (.succ (.succ (.succ (.succ (.succ .zero))))))))))))))) | exact SetAt.succ (.succ (.succ (.succ (.succ (.succ (.succ (.succ (.succ (.succ (.succ (.succ (.succ (.succ (.succ (.succ (.succ .zero)))))))))))))))) | exact SetAt.succ (.succ (.succ (.succ (.succ (.succ (.succ (.succ (.succ (.succ (.succ (.succ (.succ (.succ (.succ (.succ (.succ (.succ .zero))))))))))))))))) | exact SetAt.succ (.succ (.succ (.succ (.succ (.succ (.succ (.succ (.succ (.succ (.succ (.succ (.succ (.succ (.succ (.succ (.succ (.succ (.succ .zero)))))))))))))))))) | exact SetAt.succ (.succ (.succ (.succ (.succ (.succ (.succ (.succ (.succ (.succ (.succ (.succ (.succ (.succ (.succ (.succ (.succ (.succ (.succ (.succ .zero))))))))))))))))))) | exact SetAt.succ (.succ (.succ (.succ (.succ (.succ (.succ (.succ (.succ (.succ (.succ (.succ (.succ (.succ (.succ (.succ (.succ (.succ (.succ (.succ (.succ .zero)))))))))))))))))))))
local macro_rules | `(tactic| ac_rfl) => `(tactic| with_reducible first | exact At.zero | exact At.succ .zero | exact At.succ (.succ .zero) | exact At.succ (.succ (.succ .zero)) | exact At.succ (.succ (.succ (.succ .zero))) | exact At.succ (.succ (.succ (.succ (.succ .zero)))) | exact At.succ (.succ (.succ (.succ (.succ (.succ .zero))))) | exact At.succ (.succ (.succ (.succ (.succ (.succ (.succ .zero)))))) | exact At.succ (.succ (.succ (.succ (.succ (.succ (.succ (.succ .zero))))))) | exact At.succ (.succ (.succ (.succ (.succ (.succ (.succ (.succ (.succ .zero)))))))) | exact At.succ (.succ (.succ (.succ (.succ (.succ (.succ (.succ (.succ (.succ .zero))))))))) | exact At.succ (.succ (.succ (.succ (.succ (.succ (.succ (.succ (.succ (.succ (.succ .zero)))))))))) | exact At.succ (.succ (.succ (.succ (.succ (.succ (.succ (.succ (.succ (.succ (.succ (.succ .zero))))))))))) | exact At.succ (.succ (.succ (.succ (.succ (.succ (.succ (.succ (.succ (.succ (.succ (.succ (.succ .zero)))))))))))) | exact At.succ (.succ (.succ (.succ (.succ (.succ (.succ (.succ (.succ (.succ (.succ (.succ (.succ (.succ .zero))))))))))))) | exact At.succ (.succ (.succ (.succ (.succ (.succ (.succ (.succ (.succ (.succ (.succ (.succ (.succ (.succ (.succ .zero)))))))))))))) | exact At.succ (.succ (.succ (.succ (.succ (.succ (.succ (.succ (.succ (.succ (.succ (.succ (.succ (.succ (.succ (.succ .zero))))))))))))))) | exact At.succ (.succ (.succ (.succ (.succ (.succ (.succ (.succ (.succ (.succ (.succ (.succ (.succ (.succ (.succ (.succ (.succ .zero)))))))))))))))) | exact At.succ (.succ (.succ (.succ (.succ (.succ (.succ (.succ (.succ (.succ (.succ (.succ (.succ (.succ (.succ (.succ (.succ (.succ .zero))))))))))))))))) | exact At.succ (.succ (.succ (.succ (.succ (.succ (.succ (.succ (.succ (.succ (.succ (.succ (.succ (.succ (.succ (.succ (.succ (.succ (.succ .zero)))))))))))))))))) | exact At.succ (.succ (.succ (.succ (.succ (.succ (.succ (.succ (.succ (.succ (.succ (.succ (.succ (.succ (.succ (.succ (.succ (.succ (.succ (.succ .zero))))))))))))))))))) | exact At.succ (.succ (.succ (.succ (.succ (.succ (.succ (.succ (.succ (.succ (.succ (.succ (.succ (.succ (.succ (.succ (.succ (.succ (.succ (.succ (.succ .zero)))))))))))))))))))))
local macro_rules | `(tactic| infer_instance) => `(tactic| first
  | (show AE _ _ _ _; first | refine ae_nm (by assumption) (by ac_rfl) ?_ | refine ae_int ?_ | refine ae_add ?_ | refine ae_ix ?_ | refine ae_sub ?_ | refine ae_pow ?_ | refine ae_mul ?_ | refine ae_mod ?_ | refine ae_fdv ?_ | refine ae_tup ?_ | refine ae_lst ?_ | refine ae_t1 call_int1 ok_int1 (by assumption) b_int ?_ | refine ae_b1 call_len_seq ok_len (by assumption) b_len ?_ | refine ae_b1 call_abs ok_abs (by assumption) b_abs ?_ | refine ae_t1L call_list_of ok_listOf (by assumption) b_list ?_ | refine ae_t1 call_tuple_of ok_tupOf (by assumption) b_tuple ?_ | refine ae_ifExp ?_ | refine ae_bl ?_ | refine ae_non ?_ | refine ae_neg ?_ | refine ae_and ?_ | refine ae_one ?_ | refine ae_or ?_ | refine ae_not ?_)
  | (show AS _ _ _ _ _; first | refine as_st (by assumption) (by assumption) (by ac_rfl) ?_ | refine as_if ?_ | refine as_ret ?_ | refine as_expr ?_ | refine as_par (by assumption) (by assumption) (by ac_rfl) (by ac_rfl) ?_ | refine as_pass ?_ | refine as_continue ?_ | refine as_break ?_)
  | (show AT _ _ _ _; first | refine at_gt ?_ | refine at_ge ?_ | refine at_lt ?_ | refine at_le ?_ | refine at_eqI ?_ | refine at_neI ?_ | refine at_not ?_)
  | (show AAs _ _ _ _; first | refine aa_one ?_ | refine aa_nil ?_)
  | (show ∃ d, cII _ _ _ _ ∧ _; first | refine c_ii rfl rfl ?_ | refine c_iib rfl rfl ?_)
  | (show ∃ d, cIx _ _ _ ∧ _; first | refine c_ix rfl rfl rfl ?_)
  | (show ∃ d, cIIc _ _ _ _ _ ∧ _; first | refine c_iic rfl rfl (by first | omega | exact ⟨by omega, by omega⟩ | (unfold CMul; omega) | (unfold CPow; decide)) ?_)
  | (show ∃ ρ', Puts _ _ _ ρ' ∧ _; first | refine puts_v (by nofun) ?_ | refine puts_c (by nofun) ?_ | refine puts_av rfl (by nofun) ?_ | refine puts_ac rfl (by nofun) (by nofun) ?_)
  | (show ∃ a ρ', Fz _ _ a ρ' ∧ _; first | refine fz_v ?_ | refine fz_av rfl ?_ | refine fz_c ?_ | refine fz_ac rfl (by nofun) ?_ | refine fz_bx rfl ?_)
  | (show ∃ a ρ', Rets _ _ a ρ' ∧ _; first | refine rets_v ?_ | refine rets_av rfl ?_ | refine rets_c ?_ | refine rets_ac rfl (by nofun) ?_)
  | (show ∃ ρ3 ρ4, SetAt _ _ (outSl _) ρ3 ∧ SetAt ρ3 _ (outSl _) ρ4 ∧ _; first | refine c_par (by nofun) (by nofun) ?_)
  | (show ∃ a ρ', Fz _ _ (.d a) ρ' ∧ _; first | refine fzd_v ?_ | refine fzd_av rfl ?_ | refine fzd_c ?_ | refine fzd_ac rfl (by nofun) ?_)
  | refine c_len rfl ?_
  | refine c_int1 rfl ?_
  | refine c_abs rfl ?_
  | refine c_items rfl ?_
  | refine c_tup rfl ?_
  | refine c_catT rfl rfl (by omega) ?_
  | refine c_cat rfl rfl (by omega) ?_
  | refine c_ds2 ?_
  | refine c_ds0 ?_
  | refine c_ds1 ?_
  | refine c_ds3 ?_
  | refine And.intro rfl ?_)
local macro_rules | `(tactic| rfl') => `(tactic| first | infer_instance | refine as_cons ?_ | refine as_nil ?_)

abbrev sBegun : Stmt := topS 4
section
variable {P : Program} {w : World} {K : PySem.W.Frag} {mg : Str → Option Value} {base : Heap}
theorem scBegun : FnScope ["many", "pairs", "found", "level", "turn", "longer", "lot", "often", "name", "more"] ["many", "pairs"] (defScope sBegun) := ⟨rfl, rfl, rfl, by decide +kernel, rfl, by decide +kernel, by decide +kernel⟩
def SpBegun : Spc := fun ds Φ => ∃ (m : Nat) (ps : List (Int × Int)), ds = [.int m, prsD ps] ∧ m ≤ 6 ∧ ps.length < 1000000 ∧ ∀ fo : Lots, (∀ M, cntN m ps m M ≠ 0 → look fo M = some (cntN m ps m M : Int)) → Φ (.c (.dT (fo.map en2)))
theorem pow6 {m t : Nat} (h : m ≤ 6) (ht : t ≤ m) : m ^ t ≤ 46656 := by
  have h2 : m ^ t ≤ 6 ^ 6 := Nat.le_trans (Nat.pow_le_pow_left h _) (Nat.pow_le_pow_right (by decide) (by omega))
  have h3 : (6 : Nat) ^ 6 = 46656 := by decide
  omega
theorem isort_nil : isort [] = [] := by simp [isort]
theorem repr0 (m : Nat) (ps : List (Int × Int)) : Repr [([], 1)] (cntN m ps 0) := by
  refine ⟨by simp, fun r => ?_⟩
  have : cntN m ps 0 r = if r = [] then 1 else 0 := by
    unfold cntN extR
    rw [List.filter_cons, List.filter_nil, isort_nil]
    by_cases h : r = []
    · subst h; rfl
    · rw [if_neg (fun z => h (of_decide_eq_true z).symm), if_neg h]; rfl
  rw [this, look_cons]
  by_cases h : r = []
  · subst h; rfl
  · rw [if_neg fun z => h z.symm, if_neg h]; rfl
theorem key_len {m : Nat} {ps : List (Int × Int)} {t : Nat} {l : Lots} (h : Repr l (cntN m ps t)) {e : List Int × Int} (he : e ∈ l) : e.1.length = t := by
  obtain ⟨_, h2⟩ := h.mem (r := e.1) (n := e.2) he
  unfold cntN at h2
  obtain ⟨r, hr⟩ := List.exists_mem_of_length_pos h2
  obtain ⟨h3, h4⟩ := List.mem_filter.mp hr
  have h5 : isort r = e.1 := of_decide_eq_true h4
  rw [← h5, (isort_perm r).length_eq]
  exact extR_row t r h3
def S2 (ps : List (Int × Int)) (m : Nat) (l : Lots) (M : List Int) : Nat := (l.map fun e => e.2.toNat * con ps e.1 (names m) M).sum
theorem S2_end {m : Nat} {ps : List (Int × Int)} {t : Nat} {l : Lots} (h : Repr l (cntN m ps t)) (M : List Int) : S2 ps m l M = cntN m ps (t + 1) M := by
  rw [cnt_next]
  exact (group h (extR m ps t) (fun _ => rfl) fun r => con ps r (names m) M).symm
theorem con_snoc (ps : List (Int × Int)) (r xs : List Int) (x : Int) (M : List Int) : con ps r (xs ++ [x]) M = con ps r xs M + if mayF ps r x = true ∧ M = isort (r ++ [x]) then 1 else 0 := by
  unfold con
  rw [List.filter_append, List.length_append, List.filter_cons, List.filter_nil]
  congr 1
  by_cases h : mayF ps r x = true ∧ M = isort (r ++ [x])
  · rw [if_pos h, if_pos (by rw [h.1, h.2]; simp)]; rfl
  · rw [if_neg h, if_neg (by
      intro z
      rw [Bool.and_eq_true, decide_eq_true_iff] at z
      exact h ⟨z.1, z.2.symm⟩)]; rfl
theorem S2_snoc (ps : List (Int × Int)) (m : Nat) (l : Lots) (e : List Int × Int) (M : List Int) : S2 ps m (l ++ [e]) M = S2 ps m l M + e.2.toNat * con ps e.1 (names m) M := by
  unfold S2
  rw [List.map_append, List.sum_append]
  simp
theorem ok_begun {f : Addr} {fd : FuncData} (Fn : Fun K "begun_many" "begun_many" sBegun f fd) (hm : mg "begun_many" = some (.ref f)) (hb : L2.Binds K fd ["many", "pairs"] []) (mRange : mg "range" = none) (mTuple : mg "tuple" = none) (mSorted : mg "sorted" = none)
    (gM : FnP P w K mg base "may_follow" ["pairs", "row", "name"] 1 SpMay) : FnP P w K mg base "begun_many" ["many", "pairs"] 2 SpBegun := by
  refine fnP_by Fn scBegun hm hb (by decide) fun cdv A outer s H E ds Φ hr xo hX hS => ?_
  obtain ⟨m, ps, rfl, hm6, hz, q⟩ := hS
  refine as_cons ?_
  refine as_par xo hX (by ac_rfl) (by ac_rfl) ?_
  refine ae_disp1T xo ?_
  repeat infer_instance
  refine ⟨lotK [], _, .v, ?_⟩
  repeat infer_instance
  refine ae_disp1T xo ?_
  repeat infer_instance
  refine ⟨lotK [], _, .v, ?_⟩
  repeat infer_instance
  refine as_cons ?_
  refine as_for xo ?_
  refine ai_range1 ?_ mRange
  repeat infer_instance
  refine ⟨m, rfl, by constructor <;> omega, ?_⟩
  rw [Int.toNat_natCast, intsFrom0]
  refine ⟨fun t ρ => ∃ (l fo : Lots) (t4 t6 t7 t8 t9 : Sl), ρ = [.va (.int m), .va (prsD ps), .ce (.dT (fo.map en2)), .ce (.dT (l.map en2)), t4, .no, t6, t7, t8, t9] ∧ Repr l (cntN m ps t) ∧ l.length ≤ m ^ t ∧ (∀ M, cntN m ps t M ≠ 0 → look fo M = some (cntN m ps t M : Int)) ∧ fo.length ≤ (t + 1) * 46656,
    ⟨[([], 1)], [([], 1)], _, _, _, _, _, rfl, repr0 m ps, by simp, ?_, by simp⟩, ?_, ?_⟩
  · intro M hM
    have := (repr0 m ps).val M
    rwa [if_neg hM] at this
  · rintro t d ρ2 hd ⟨l, fo, t4, t6, t7, t8, t9, rfl, re, hl, hf, hfl⟩
    obtain ⟨mid, hmid, rfl⟩ := get_map hd
    have ht : t < m := by
      have := (List.getElem?_eq_some_iff.mp hmid).1
      rwa [names_len] at this
    have hl2 : l.length ≤ 46656 := Nat.le_trans hl (pow6 hm6 (by omega))
    refine ⟨_, ag_nm hX (by ac_rfl) (by nofun) xo, ?_⟩
    refine as_cons ?_
    refine as_st xo hX (by ac_rfl) ?_
    refine ae_newT ?_
    repeat infer_instance
    refine as_cons ?_
    refine as_items xo 3 hX (by ac_rfl) rfl (by nofun) ?_
    refine ⟨fun j ρ => ∃ (L : Lots) (t6 t7 t8 t9 : Sl), ρ = [.va (.int m), .va (prsD ps), .ce (.dT (fo.map en2)), .no, .va (.int mid), .ce (.dT (L.map en2)), t6, t7, t8, t9] ∧ Repr L (S2 ps m (l.take j)) ∧ L.length ≤ j * m, ⟨[], _, _, _, _, rfl, Repr.nil.congr fun _ => rfl, by simp⟩, ?_, ?_⟩
    · rintro j kv ρ2 hkv ⟨L, t6, t7, t8, t9, rfl, rL, hL⟩
      obtain ⟨e, he, rfl⟩ := get_map hkv
      have hj : j < l.length := (List.getElem?_eq_some_iff.mp he).1
      have hel := List.mem_of_getElem? he
      have hlen := key_len re hel
      obtain ⟨n1, n2⟩ := re.mem (r := e.1) (n := e.2) hel
      rw [show tupK (en2 e).1 = rowD e.1 from lotK_row e.1]
      refine ⟨_, ag_pair hX (by ac_rfl) (by ac_rfl) (by nofun) (by nofun) xo, ?_⟩
      refine as_cons ?_
      refine as_for xo ?_
      refine ai_range1 ?_ mRange
      repeat infer_instance
      refine ⟨m, rfl, by constructor <;> omega, ?_⟩
      rw [Int.toNat_natCast, intsFrom0]
      refine ⟨fun i ρ => ∃ (L : Lots) (t8 t9 : Sl), ρ = [.va (.int m), .va (prsD ps), .ce (.dT (fo.map en2)), .no, .va (.int mid), .ce (.dT (L.map en2)), .va (rowD e.1), .va (.int e.2), t8, t9] ∧ Repr L (fun M => S2 ps m (l.take j) M + e.2.toNat * con ps e.1 ((names m).take i) M) ∧ L.length ≤ j * m + i, ⟨L, _, _, rfl, rL.congr fun M => by simp [con], hL⟩, ?_, ?_⟩
      · rintro i d ρ2 hd ⟨L, t8, t9, rfl, rL, hL⟩
        obtain ⟨x, hx, rfl⟩ := get_map hd
        have hi : i < m := by
          have := (List.getElem?_eq_some_iff.mp hx).1
          rwa [names_len] at this
        refine ⟨_, ag_nm hX (by ac_rfl) (by nofun) xo, ?_⟩
        refine as_cons ?_
        refine as_if ?_
        refine at_val ?_
        refine ae_call gM hr ?_
        repeat infer_instance
        refine ⟨[_, _, _], rfl, rfl, ps, e.1, x, rfl, hz, ?_⟩
        refine ⟨_, rfl, fun h => ?_, fun h => ?_⟩
        · refine as_cons ?_
          refine as_st xo hX (by ac_rfl) ?_
          refine ae_t1 call_tuple_of ok_tupOf mTuple b_tuple ?_
          refine ae_b1L cr_sortTI ok_sortTI mSorted b_sorted ?_
          refine ae_addT ?_
          repeat infer_instance
          refine c_catT rfl rfl (by simp only [List.length_map, List.length_cons, List.length_nil]; omega) ?_
          refine c_sortTI (ns := e.1 ++ [x]) (by simp [rsSl]) (by rw [List.length_append]; simp; omega) ?_
          refine c_tup rfl ?_
          rw [show PyData.tuple ((isort (e.1 ++ [x])).map .int) = tupK (lotK (isort (e.1 ++ [x]))) from (lotK_row _).symm]
          repeat infer_instance
          refine as_cons ?_
          refine as_dput xo 5 ?_
          refine ae_add ?_
          refine ae_dget2 xo 5 _ ?_
          repeat infer_instance
          refine ⟨lotK (isort (e.1 ++ [x])), _, .alv rfl, ?_⟩
          repeat infer_instance
          refine ⟨.int 0, _, L.map en2, .v, rfl, ?_⟩
          rw [val_en2, show ((look L (isort (e.1 ++ [x]))).map PyData.int).getD (.int 0) = .int ((look L (isort (e.1 ++ [x]))).getD 0) from by cases look L (isort (e.1 ++ [x])) <;> rfl]
          repeat infer_instance
          refine ⟨L.map en2, lotK (isort (e.1 ++ [x])), _, _, .alv rfl, rfl, by rw [List.length_map]; have : j * m ≤ 46656 * 6 := Nat.mul_le_mul (by omega) hm6; omega, by nofun, ?_⟩
          refine as_nil (as_nil ⟨put2 L (isort (e.1 ++ [x])) ((look L (isort (e.1 ++ [x]))).getD 0 + e.2), _, _, by rw [put_en2], ?_, ?_⟩)
          · have := rL.put (isort (e.1 ++ [x])) (n := cntN m ps t e.1) n2
            rw [n1] at this
            refine this.congr fun M => ?_
            rw [Ab.take_next hx, con_snoc, Nat.mul_add, ← Nat.add_assoc]
            congr 1
            have n3 : e.2.toNat = cntN m ps t e.1 := by omega
            by_cases hM : M = isort (e.1 ++ [x])
            · rw [if_pos hM, if_pos ⟨h, hM⟩, n3]; omega
            · rw [if_neg hM, if_neg fun z => hM z.2]; rfl
          · have := put_len L (isort (e.1 ++ [x])) ((look L (isort (e.1 ++ [x]))).getD 0 + e.2)
            omega
        · refine as_nil (as_nil ⟨L, _, _, rfl, rL.congr fun M => ?_, by omega⟩)
          rw [Ab.take_next hx, con_snoc, if_neg fun z => by rw [h] at z; exact Bool.noConfusion z.1]
          rfl
      · rintro ρ2 ⟨L, t8, t9, rfl, rL, hL⟩
        rw [List.length_map, names_len] at hL
        rw [List.length_map, List.take_length] at rL
        refine as_nil ⟨L, _, _, _, _, rfl, rL.congr fun M => ?_, by rw [Nat.add_mul]; omega⟩
        rw [Ab.take_next he, S2_snoc]
    · rintro ρ2 ⟨L, t6, t7, t8, t9, rfl, rL, hL⟩
      rw [List.length_map, List.take_length] at rL
      rw [List.length_map] at hL
      have rL := rL.congr fun M => S2_end re M
      have hL2 : L.length ≤ m ^ (t + 1) := Nat.le_trans hL (by rw [Nat.pow_succ]; exact Nat.mul_le_mul_right _ hl)
      have hL3 : L.length ≤ 46656 := Nat.le_trans hL2 (pow6 hm6 (by omega))
      refine ⟨_, by nofun, ?_⟩
      refine as_cons ?_
      repeat infer_instance
      refine as_cons ?_
      refine as_items xo 3 hX (by ac_rfl) rfl (by nofun) ?_
      refine ⟨fun j ρ => ∃ (fo2 : Lots) (t6 t7 : Sl), ρ = [.va (.int m), .va (prsD ps), .ce (.dT (fo2.map en2)), .no, .va (.int mid), .no, t6, t7, t8, t9] ∧ (∀ e ∈ L.take j, look fo2 e.1 = some e.2) ∧ fo2.length ≤ fo.length + j, ⟨fo, _, _, rfl, by simp, by simp⟩, ?_, ?_⟩
      · rintro j kv ρ2 hkv ⟨fo2, t6, t7, rfl, hk, hn⟩
        obtain ⟨e, he, rfl⟩ := get_map hkv
        have hj : j < L.length := (List.getElem?_eq_some_iff.mp he).1
        have hel := List.mem_of_getElem? he
        refine ⟨_, ag_pair hX (by ac_rfl) (by ac_rfl) (by nofun) (by nofun) xo, ?_⟩
        refine as_cons ?_
        refine as_dput xo 2 ?_
        repeat infer_instance
        refine ⟨fo2.map en2, lotK e.1, _, _, .alv rfl, rfl, by rw [List.length_map]; have : (t + 1) * 46656 ≤ 6 * 46656 := Nat.mul_le_mul_right _ (by omega); omega, by nofun, ?_⟩
        refine as_nil ⟨put2 fo2 e.1 e.2, _, _, by rw [← put_en2]; rfl, fun e' he' => ?_, by have := put_len fo2 e.1 e.2; omega⟩
        rw [look_put]
        rw [Ab.take_next he, List.mem_append, List.mem_singleton] at he'
        by_cases hq : e'.1 = e.1
        · rw [if_pos hq]
          have hm' : e' ∈ L := he'.elim (fun z => List.mem_of_mem_take z) fun z => z ▸ hel
          have h1 := (rL.mem (r := e.1) (n := e.2) hel).1
          have h2 := (rL.mem (r := e'.1) (n := e'.2) hm').1
          rw [hq] at h2
          rw [← h1, ← h2]
        · rw [if_neg hq]
          rcases he' with h | h
          · exact hk e' h
          · exact absurd (congrArg Prod.fst h) hq
      · rintro ρ2 ⟨fo2, t6, t7, rfl, hk, hn⟩
        rw [List.length_map] at hk hn
        rw [List.take_length] at hk
        refine ⟨_, by nofun, ?_⟩
        refine as_nil ⟨L, fo2, _, _, _, _, _, rfl, rL, hL2, fun M hM => hk _ (rL.key hM), by rw [Nat.add_mul]; omega⟩
  · rintro ρ2 ⟨l, fo, t4, t6, t7, t8, t9, rfl, re, hl, hf, hfl⟩
    rw [List.length_map, names_len] at hf
    repeat rfl'
    exact q fo hf
end
end K69
namespace K69
open PySem PySem.Spec PyProof.Rows L2 Ab
local macro_rules | `(tactic| nofun) => `(tactic| first | exact SetAt.zero | exact SetAt.succ .zero | exact SetAt.succ (.succ .zero) | exact SetAt.succ (.succ (.succ .zero)) | exact SetAt.succ (.succ (.succ (.succ .zero))) | exact SetAt.succ (.succ (.succ (.succ (.succ .zero)))) | exact SetAt.succ (.succ (.succ (.succ (.succ (.succ .zero))))) | exact SetAt.succ (.succ (.succ (.succ (.succ (.succ (.succ .zero)))))) | exact SetAt.succ (.succ (.succ (.succ (.succ (.succ (.succ (.succ .zero))))))) | exact SetAt.succ (.succ (.succ (.succ (.succ (.succ (.succ (.succ (.succ .zero)))))))) | exact SetAt.succ (.succ (.succ (.succ (.succ (.succ (.succ (.succ (.succ (.succ .zero))))))))) | exact SetAt.succ (.succ (.succ (.succ (.succ (.succ (.succ (.succ (.succ (.succ (.succ .zero)))))))))) | exact SetAt.succ (.succ (.succ (.succ (.succ (.succ (.succ (.succ (.succ (.succ (.succ (.succ .zero))))))))))) | exact SetAt.succ (.succ (.succ (.succ (.succ (.succ (.succ (.succ (.succ (.succ (.succ (.succ (.succ .zero)))))))))))) | exact SetAt.succ (.succ (.succ (.succ (.succ (.succ (.succ (.succ (.succ (.succ (.succ (.succ (.succ (.succ .zero))))))))))))) | exact SetAt.succ (.succ (.succ (.succ (.succ (.succ (.succ (.succ (.succ (.succ (.succ (.succ (.succ (.succ (.succ .zero)))))))))))))) | exact SetAt.succ (.succ (.succ (.succ (.succ (.succ (.succ (.succ (.succ (.succ (.succ (.succ (.succ (.succ (.succ (.succ .zero))))))))))))))) | exact SetAt.succ (.succ (.succ (.succ (.succ (.succ (.succ (.succ (.succ (.succ (.succ (.succ (.succ (.succ (.succ (.succ (.succ .zero)))))))))))))))) | exact SetAt.succ (.succ (.succ (.succ (.succ (.succ (.succ (.succ (.succ (.succ (.succ (.succ (.succ (.succ (.succ (.succ (.succ (.succ .zero))))))))))))))))) | exact SetAt.succ (.succ (.succ (.succ (.succ (.succ (.succ (.succ (.succ (.succ (.succ (.succ (.succ (.succ (.succ (.succ (.succ (.succ (.succ .zero)))))))))))))))))) | exact SetAt.succ (.succ (.succ (.succ (.succ (.succ (.succ (.succ (.succ (.succ (.succ (.succ (.succ (.succ (.succ (.succ (.succ (.succ (.succ (.succ .zero))))))))))))))))))) | exact SetAt.succ (.succ (.succ (.succ (.succ (.succ (.succ (.succ (.succ (.succ (.succ (.succ (.succ (.succ (.succ (.succ (.succ (.succ (.succ (.succ (.succ .zero)))))))))))))))))))))
local macro_rules | `(tactic| ac_rfl) => `(tactic| with_reducible first | exact At.zero | exact At.succ .zero | exact At.succ (.succ .zero) | exact At.succ (.succ (.succ .zero)) | exact At.succ (.succ (.succ (.succ .zero))) | exact At.succ (.succ (.succ (.succ (.succ .zero)))) | exact At.succ (.succ (.succ (.succ (.succ (.succ .zero))))) | exact At.succ (.succ (.succ (.succ (.succ (.succ (.succ .zero)))))) | exact At.succ (.succ (.succ (.succ (.succ (.succ (.succ (.succ .zero))))))) | exact At.succ (.succ (.succ (.succ (.succ (.succ (.succ (.succ (.succ .zero)))))))) | exact At.succ (.succ (.succ (.succ (.succ (.succ (.succ (.succ (.succ (.succ .zero))))))))) | exact At.succ (.succ (.succ (.succ (.succ (.succ (.succ (.succ (.succ (.succ (.succ .zero)))))))))) | exact At.succ (.succ (.succ (.succ (.succ (.succ (.succ (.succ (.succ (.succ (.succ (.succ .zero))))))))))) | exact At.succ (.succ (.succ (.succ (.succ (.succ (.succ (.succ (.succ (.succ (.succ (.succ (.succ .zero)))))))))))) | exact At.succ (.succ (.succ (.succ (.succ (.succ (.succ (.succ (.succ (.succ (.succ (.succ (.succ (.succ .zero))))))))))))) | exact At.succ (.succ (.succ (.succ (.succ (.succ (.succ (.succ (.succ (.succ (.succ (.succ (.succ (.succ (.succ .zero)))))))))))))) | exact At.succ (.succ (.succ (.succ (.succ (.succ (.succ (.succ (.succ (.succ (.succ (.succ (.succ (.succ (.succ (.succ .zero))))))))))))))) | exact At.succ (.succ (.succ (.succ (.succ (.succ (.succ (.succ (.succ (.succ (.succ (.succ (.succ (.succ (.succ (.succ (.succ .zero)))))))))))))))) | exact At.succ (.succ (.succ (.succ (.succ (.succ (.succ (.succ (.succ (.succ (.succ (.succ (.succ (.succ (.succ (.succ (.succ (.succ .zero))))))))))))))))) | exact At.succ (.succ (.succ (.succ (.succ (.succ (.succ (.succ (.succ (.succ (.succ (.succ (.succ (.succ (.succ (.succ (.succ (.succ (.succ .zero)))))))))))))))))) | exact At.succ (.succ (.succ (.succ (.succ (.succ (.succ (.succ (.succ (.succ (.succ (.succ (.succ (.succ (.succ (.succ (.succ (.succ (.succ (.succ .zero))))))))))))))))))) | exact At.succ (.succ (.succ (.succ (.succ (.succ (.succ (.succ (.succ (.succ (.succ (.succ (.succ (.succ (.succ (.succ (.succ (.succ (.succ (.succ (.succ .zero)))))))))))))))))))))
local macro_rules | `(tactic| infer_instance) => `(tactic| first
  | (show AE _ _ _ _; first | refine ae_nm (by assumption) (by ac_rfl) ?_ | refine ae_int ?_ | refine ae_add ?_ | refine ae_ix ?_ | refine ae_sub ?_ | refine ae_pow ?_ | refine ae_mul ?_ | refine ae_mod ?_ | refine ae_fdv ?_ | refine ae_tup ?_ | refine ae_lst ?_ | refine ae_t1 call_int1 ok_int1 (by assumption) b_int ?_ | refine ae_b1 call_len_seq ok_len (by assumption) b_len ?_ | refine ae_b1 call_abs ok_abs (by assumption) b_abs ?_ | refine ae_t1L call_list_of ok_listOf (by assumption) b_list ?_ | refine ae_t1 call_tuple_of ok_tupOf (by assumption) b_tuple ?_ | refine ae_ifExp ?_ | refine ae_bl ?_ | refine ae_non ?_ | refine ae_neg ?_ | refine ae_and ?_ | refine ae_one ?_ | refine ae_or ?_ | refine ae_not ?_)
  | (show AS _ _ _ _ _; first | refine as_st (by assumption) (by assumption) (by ac_rfl) ?_ | refine as_if ?_ | refine as_ret ?_ | refine as_expr ?_ | refine as_par (by assumption) (by assumption) (by ac_rfl) (by ac_rfl) ?_ | refine as_pass ?_ | refine as_continue ?_ | refine as_break ?_)
  | (show AT _ _ _ _; first | refine at_gt ?_ | refine at_ge ?_ | refine at_lt ?_ | refine at_le ?_ | refine at_eqI ?_ | refine at_neI ?_ | refine at_not ?_)
  | (show AAs _ _ _ _; first | refine aa_one ?_ | refine aa_nil ?_)
  | (show ∃ d, cII _ _ _ _ ∧ _; first | refine c_ii rfl rfl ?_ | refine c_iib rfl rfl ?_)
  | (show ∃ d, cIx _ _ _ ∧ _; first | refine c_ix rfl rfl rfl ?_)
  | (show ∃ d, cIIc _ _ _ _ _ ∧ _; first | refine c_iic rfl rfl (by first | omega | exact ⟨by omega, by omega⟩ | (unfold CMul; omega) | (unfold CPow; decide)) ?_)
  | (show ∃ ρ', Puts _ _ _ ρ' ∧ _; first | refine puts_v (by nofun) ?_ | refine puts_c (by nofun) ?_ | refine puts_av rfl (by nofun) ?_ | refine puts_ac rfl (by nofun) (by nofun) ?_)
  | (show ∃ a ρ', Fz _ _ a ρ' ∧ _; first | refine fz_v ?_ | refine fz_av rfl ?_ | refine fz_c ?_ | refine fz_ac rfl (by nofun) ?_ | refine fz_bx rfl ?_)
  | (show ∃ a ρ', Rets _ _ a ρ' ∧ _; first | refine rets_v ?_ | refine rets_av rfl ?_ | refine rets_c ?_ | refine rets_ac rfl (by nofun) ?_)
  | (show ∃ ρ3 ρ4, SetAt _ _ (outSl _) ρ3 ∧ SetAt ρ3 _ (outSl _) ρ4 ∧ _; first | refine c_par (by nofun) (by nofun) ?_)
  | (show ∃ a ρ', Fz _ _ (.d a) ρ' ∧ _; first | refine fzd_v ?_ | refine fzd_av rfl ?_ | refine fzd_c ?_ | refine fzd_ac rfl (by nofun) ?_)
  | refine c_len rfl ?_
  | refine c_int1 rfl ?_
  | refine c_abs rfl ?_
  | refine c_items rfl ?_
  | refine c_tup rfl ?_
  | refine c_catT rfl rfl (by omega) ?_
  | refine c_cat rfl rfl (by omega) ?_
  | refine c_ds2 ?_
  | refine c_ds0 ?_
  | refine c_ds1 ?_
  | refine c_ds3 ?_
  | refine And.intro rfl ?_)
local macro_rules | `(tactic| rfl') => `(tactic| first | infer_instance | refine as_cons ?_ | refine as_nil ?_)

abbrev sExtM : Stmt := topS 5
abbrev sOrd : Stmt := topS 14
abbrev sKeeps : Stmt := topS 15
abbrev sKept : Stmt := topS 16
/-! ### all orders -/
def ordR (m : Nat) : Nat → List (List Int)
  | 0 => [[]]
  | t + 1 => (ordR m t).flatMap fun r => ((names m).filter fun x => !decide (x ∈ r)).map fun x => r ++ [x]
def plD (r : List Int) : D := plT (r.map .int)
def keepF (ps : List (Int × Int)) (r : List Int) : Bool := ps.all fun p => !decide (r.idxOf p.2 < r.idxOf p.1)
theorem flat_len {m : Nat} (g : List Int → List Int) (hg : ∀ r, (g r).length ≤ m) (f : List Int → Int → List Int) : ∀ l : List (List Int), (l.flatMap fun r => (g r).map (f r)).length ≤ l.length * m
  | [] => by simp
  | r :: l => by
    rw [List.flatMap_cons, List.length_append, List.length_map, List.length_cons, Nat.add_mul]
    have := flat_len g hg f l
    have := hg r
    omega
theorem ordR_len {m : Nat} : ∀ t : Nat, (ordR m t).length ≤ m ^ t
  | 0 => by simp [ordR]
  | t + 1 => by
    have := flat_len (m := m) (fun r => (names m).filter fun x => !decide (x ∈ r)) (fun r => by have := List.length_filter_le (fun x => !decide (x ∈ r)) (names m); rw [names_len] at this; exact this) (fun r x => r ++ [x]) (ordR m t)
    rw [Nat.pow_succ]
    exact Nat.le_trans this (Nat.mul_le_mul_right _ (ordR_len t))
theorem ordR_row {m : Nat} : ∀ (t : Nat) (r : List Int), r ∈ ordR m t → r.length = t ∧ r.Nodup ∧ ∀ x ∈ r, x ∈ names m
  | 0, r, h => by simp only [ordR, List.mem_singleton] at h; subst h; simp
  | t + 1, r, h => by
    simp only [ordR, List.mem_flatMap, List.mem_map] at h
    obtain ⟨a, ha, x, hx, rfl⟩ := h
    obtain ⟨h1, h2, h3⟩ := ordR_row t a ha
    obtain ⟨h4, h5⟩ := List.mem_filter.mp hx
    have h5 : x ∉ a := by simpa using h5
    refine ⟨by rw [List.length_append, h1]; rfl, ?_, ?_⟩
    · rw [List.nodup_append]
      refine ⟨h2, by simp, fun y hy z hz => ?_⟩
      rw [List.mem_singleton] at hz
      subst hz
      rintro rfl
      exact h5 hy
    · intro y hy
      rcases List.mem_append.mp hy with hy | hy
      · exact h3 y hy
      · rw [List.mem_singleton] at hy; subst hy; exact h4
section
variable {P : Program} {w : World} {K : PySem.W.Frag} {mg : Str → Option Value} {base : Heap}
theorem scOrd : FnScope ["many", "rows", "turn", "later", "row", "name"] ["many"] (defScope sOrd) := ⟨rfl, rfl, rfl, by decide +kernel, rfl, by decide +kernel, by decide +kernel⟩
def SpOrd : Spc := fun ds Φ => ∃ m : Nat, ds = [.int m] ∧ m ≤ 6 ∧ Φ (.c (.lst ((ordR m m).map plD)))
theorem ok_ord {f : Addr} {fd : FuncData} (Fn : Fun K "_law_orders" "_law_orders" sOrd f fd) (hm : mg "_law_orders" = some (.ref f)) (hb : L2.Binds K fd ["many"] []) (mRange : mg "range" = none) :
    FnP P w K mg base "_law_orders" ["many"] 1 SpOrd := by
  refine fnP_by Fn scOrd hm hb (by decide) fun cdv A outer s H E ds Φ hr xo hX hS => ?_
  obtain ⟨m, rfl, hm6, q⟩ := hS
  refine as_cons ?_
  refine as_st xo hX (by ac_rfl) ?_
  refine ae_lst ?_
  refine aa_one ?_
  refine ae_tupP ?_
  repeat infer_instance
  refine as_cons ?_
  refine as_for xo ?_
  refine ai_range1 ?_ mRange
  repeat infer_instance
  refine ⟨m, rfl, by constructor <;> omega, ?_⟩
  rw [Int.toNat_natCast, intsFrom0]
  refine ⟨fun t ρ => ∃ (t2 t4 : Sl), ρ = [.va (.int m), .ce (.lst ((ordR m t).map plD)), t2, .no, t4, .no], ⟨_, _, rfl⟩, ?_, ?_⟩
  · rintro t d ρ2 hd ⟨t2, t4, rfl⟩
    obtain ⟨mid, hmid, rfl⟩ := get_map hd
    have ht : t < m := by
      have := (List.getElem?_eq_some_iff.mp hmid).1
      rwa [names_len] at this
    have hl := Nat.le_trans (ordR_len (m := m) t) (pow6 hm6 (Nat.le_of_lt ht))
    refine ⟨_, ag_nm hX (by ac_rfl) (by nofun) xo, ?_⟩
    refine as_cons ?_
    repeat infer_instance
    refine as_cons ?_
    refine as_for xo ?_
    refine ai_list ?_
    repeat infer_instance
    refine ⟨_, _, .alc rfl (by nofun), ?_⟩
    refine ⟨fun j ρ => ∃ (t4 : Sl), ρ = [.va (.int m), .va (.list ((ordR m t).map plD)), .va (.int mid), .ce (.lst ((((ordR m t).take j).flatMap fun r => ((names m).filter fun x => !decide (x ∈ r)).map fun x => r ++ [x]).map plD)), t4, .no], ⟨_, rfl⟩, ?_, ?_⟩
    · rintro j d ρ2 hd ⟨t4, rfl⟩
      obtain ⟨r, hr', rfl⟩ := get_map hd
      have hj : j < (ordR m t).length := (List.getElem?_eq_some_iff.mp hr').1
      obtain ⟨r1, r2, r3⟩ := ordR_row t r (List.mem_of_getElem? hr')
      refine ⟨_, ag_nm hX (by ac_rfl) (by nofun) xo, ?_⟩
      refine as_cons ?_
      refine as_st xo hX (by ac_rfl) ?_
      refine ae_addL ?_
      repeat infer_instance
      refine ae_lcF (own := [("name", 5)]) Int xo ?_ (blk_of (sc := defScope sOrd) hX rfl (by decide +kernel))
      refine ai_range1 ?_ mRange
      repeat infer_instance
      refine ⟨m, rfl, by constructor <;> omega, ?_⟩
      rw [Int.toNat_natCast, intsFrom0]
      refine ⟨names m, .int, fun x => !decide (x ∈ r), fun x => plD (r ++ [x]), _, rfl, by rw [names_len]; omega, .cons .nil (by nofun), by simp [notCe], ?_, ?_⟩
      · intro x hx
        refine ⟨_, fun s H C cl fp => ag_nm hX (by ac_rfl) (by nofun) (xo.blk s H C cl fp), fun s H C cl fp => ats_one ?_⟩
        refine at_cmp op_notIn_seq ok_notInI rfl ?_
        repeat infer_instance
        refine ⟨_, ⟨x, r, rfl, rfl, rfl⟩, ?_⟩
        refine ⟨fun h => ⟨h, fun s H C cl fp => ?_⟩, fun h => ⟨h, .cons .nil (by nofun)⟩⟩
        refine ae_addP ?_
        refine ae_nm hX (by ac_rfl) ?_
        refine ae_tupP ?_
        repeat infer_instance
        refine c_catP rfl rfl (by simp only [List.length_map, List.length_cons, List.length_nil]; omega) ?_
        exact ⟨_, fz_eq (by simp [plD]), .cons .nil (by nofun)⟩
      · have hb1 : ((((ordR m t).take j).flatMap fun r => ((names m).filter fun x => !decide (x ∈ r)).map fun x => r ++ [x]).map plD).length ≤ 46656 * 6 := by
          rw [List.length_map]
          refine Nat.le_trans (flat_len (m := m) (fun r => (names m).filter fun x => !decide (x ∈ r)) (fun r => by have := List.length_filter_le (fun x => !decide (x ∈ r)) (names m); rw [names_len] at this; exact this) (fun r x => r ++ [x]) _) ?_
          refine Nat.mul_le_mul ?_ hm6
          have := List.length_take_le j (ordR m t)
          omega
        have hb2 := List.length_filter_le (fun x => !decide (x ∈ r)) (names m)
        rw [names_len] at hb2
        refine c_cat rfl rfl (by rw [List.length_map (as := (names m).filter _)]; omega) ?_
        repeat infer_instance
        have e : ((((ordR m t).take j).flatMap fun r => ((names m).filter fun x => !decide (x ∈ r)).map fun x => r ++ [x]).map plD) ++ (((names m).filter fun x => !decide (x ∈ r)).map fun x => plD (r ++ [x])) = (((ordR m t).take (j + 1)).flatMap fun r => ((names m).filter fun x => !decide (x ∈ r)).map fun x => r ++ [x]).map plD := by
          rw [Ab.take_next hr', List.flatMap_append, List.map_append]
          congr 1
          simp only [List.flatMap_cons, List.flatMap_nil, List.append_nil, List.map_map]
          rfl
        exact as_nil ⟨_, congrArg (fun z => [_, _, _, Sl.ce (.lst z), _, _]) e⟩
    · rintro ρ2 ⟨t4, rfl⟩
      rw [List.length_map, List.take_length]
      refine as_cons ?_
      repeat infer_instance
      exact as_nil ⟨_, _, rfl⟩
  · rintro ρ2 ⟨t2, t4, rfl⟩
    rw [List.length_map, names_len]
    repeat rfl'
    exact q
theorem scKeeps : FnScope ["order", "pairs", "one", "two"] ["order", "pairs"] (defScope sKeeps) := ⟨rfl, rfl, rfl, by decide +kernel, rfl, by decide +kernel, by decide +kernel⟩
def SpKeeps : Spc := fun ds Φ => ∃ (r : List Int) (ps : List (Int × Int)), ds = [plD r, prsD ps] ∧ (∀ p ∈ ps, p.1 ∈ r ∧ p.2 ∈ r) ∧ Φ (.v (.bool (keepF ps r)))
theorem ok_keeps {f : Addr} {fd : FuncData} (Fn : Fun K "_law_keeps" "_law_keeps" sKeeps f fd) (hm : mg "_law_keeps" = some (.ref f)) (hb : L2.Binds K fd ["order", "pairs"] []) :
    FnP P w K mg base "_law_keeps" ["order", "pairs"] 1 SpKeeps := by
  refine fnP_by Fn scKeeps hm hb (by decide) fun cdv A outer s H E ds Φ hr xo hX hS => ?_
  obtain ⟨r, ps, rfl, hin, q⟩ := hS
  refine as_cons ?_
  refine as_for xo ?_
  refine ai_tup ?_
  repeat infer_instance
  refine ⟨_, _, .alv rfl, ?_⟩
  refine ⟨fun i ρ => ∃ (t2 t3 : Sl), ρ = [.va (plD r), .va (prsD ps), t2, t3] ∧ (ps.take i).all (fun p => !decide (r.idxOf p.2 < r.idxOf p.1)) = true, ⟨_, _, rfl, by simp⟩, ?_, ?_⟩
  · rintro i d ρ2 hd ⟨t2, t3, rfl, hk⟩
    obtain ⟨p, hp, rfl⟩ := get_map hd
    have hm := List.mem_of_getElem? hp
    refine ⟨_, ag_pair hX (by ac_rfl) (by ac_rfl) (by nofun) (by nofun) xo, ?_⟩
    refine as_cons ?_
    refine as_if ?_
    refine at_gt ?_
    refine ae_indexP ?_
    repeat infer_instance
    refine ⟨r, ⟨_, rfl⟩, rfl, ?_⟩
    repeat infer_instance
    refine ⟨p.1, rfl, (hin p hm).1, ?_⟩
    refine ae_indexP ?_
    repeat infer_instance
    refine ⟨r, ⟨_, rfl⟩, rfl, ?_⟩
    repeat infer_instance
    refine ⟨p.2, rfl, (hin p hm).2, ?_⟩
    repeat infer_instance
    refine ⟨fun h => ?_, fun h => ?_⟩
    · repeat rfl'
      have e : keepF ps r = false := by
        rw [keepF, List.all_eq_false]
        exact ⟨p, hm, by simp only [decide_eq_true_eq] at h; simp; omega⟩
      rw [e] at q
      exact q
    · refine as_nil (as_nil ⟨_, _, rfl, ?_⟩)
      rw [Ab.take_next hp, List.all_append, hk]
      simp only [decide_eq_false_iff_not] at h
      simp; omega
  · rintro ρ2 ⟨t2, t3, rfl, hk⟩
    rw [List.length_map, List.take_length] at hk
    repeat rfl'
    have e : keepF ps r = true := hk
    rw [e] at q
    exact q
theorem scKept : FnScope ["many", "pairs", "order"] ["many", "pairs"] (defScope sKept) := ⟨rfl, rfl, rfl, by decide +kernel, rfl, by decide +kernel, by decide +kernel⟩
def SpKept : Spc := fun ds Φ => ∃ (m : Nat) (ps : List (Int × Int)), ds = [.int m, prsD ps] ∧ m ≤ 6 ∧ (∀ r ∈ ordR m m, ∀ p ∈ ps, p.1 ∈ r ∧ p.2 ∈ r) ∧ Φ (.c (.lst (((ordR m m).filter (keepF ps)).map plD)))
theorem ok_kept {f : Addr} {fd : FuncData} (Fn : Fun K "_law_kept" "_law_kept" sKept f fd) (hm : mg "_law_kept" = some (.ref f)) (hb : L2.Binds K fd ["many", "pairs"] [])
    (gO : FnP P w K mg base "_law_orders" ["many"] 1 SpOrd) (gK : FnP P w K mg base "_law_keeps" ["order", "pairs"] 1 SpKeeps) : FnP P w K mg base "_law_kept" ["many", "pairs"] 2 SpKept := by
  refine fnP_by Fn scKept hm hb (by decide) fun cdv A outer s H E ds Φ hr xo hX hS => ?_
  obtain ⟨m, ps, rfl, hm6, hin, q⟩ := hS
  refine as_cons ?_
  refine as_ret ?_
  refine ae_lcF (own := [("order", 2)]) (List Int) xo ?_ (blk_of (sc := defScope sKept) hX rfl (by decide +kernel))
  refine ai_list ?_
  refine ae_call gO hr ?_
  repeat infer_instance
  refine ⟨[_], rfl, rfl, m, rfl, hm6, ?_⟩
  refine ⟨_, _, .c, ?_⟩
  have hl := Nat.le_trans (ordR_len (m := m) m) (pow6 hm6 (Nat.le_refl m))
  refine ⟨ordR m m, plD, keepF ps, plD, _, rfl, by omega, .cons .nil (by nofun), by simp [notCe, entry], ?_, ?_⟩
  · intro r hr'
    refine ⟨_, fun s H C cl fp => ag_nm hX (by ac_rfl) (by nofun) (xo.blk s H C cl fp), fun s H C cl fp => ats_one (at_val ?_)⟩
    refine ae_call gK hr ?_
    repeat infer_instance
    refine ⟨[_, _], rfl, rfl, r, ps, rfl, hin r hr', ?_⟩
    refine ⟨_, rfl, fun h => ⟨h, fun s H C cl fp => ?_⟩, fun h => ⟨h, .cons .nil (by nofun)⟩⟩
    repeat infer_instance
    exact ⟨_, .alv rfl, .cons .nil (by nofun)⟩
  · repeat infer_instance
    exact q
end
end K69
namespace K69
open PySem PySem.Spec PyProof.Rows L2 Ab
local macro_rules | `(tactic| nofun) => `(tactic| first | exact SetAt.zero | exact SetAt.succ .zero | exact SetAt.succ (.succ .zero) | exact SetAt.succ (.succ (.succ .zero)) | exact SetAt.succ (.succ (.succ (.succ .zero))) | exact SetAt.succ (.succ (.succ (.succ (.succ .zero)))) | exact SetAt.succ (.succ (.succ (.succ (.succ (.succ .zero))))) | exact SetAt.succ (.succ (.succ (.succ (.succ (.succ (.succ .zero)))))) | exact SetAt.succ (.succ (.succ (.succ (.succ (.succ (.succ (.succ .zero))))))) | exact SetAt.succ (.succ (.succ (.succ (.succ (.succ (.succ (.succ (.succ .zero)))))))) | exact SetAt.succ (.succ (.succ (.succ (.succ (.succ (.succ (.succ (.succ (.succ .zero))))))))) | exact SetAt.succ (.succ (.succ (.succ (.succ (.succ (.succ (.succ (.succ (.succ (.succ .zero)))))))))) | exact SetAt.succ (.succ (.succ (.succ (.succ (.succ (.succ (.succ (.succ (.succ (.succ (.succ .zero))))))))))) | exact SetAt.succ (.succ (.succ (.succ (.succ (.succ (.succ (.succ (.succ (.succ (.succ (.succ (.succ .zero)))))))))))) | exact SetAt.succ (.succ (.succ (.succ (.succ (.succ (.succ (.succ (.succ (.succ (.succ (.succ (.succ (.succ .zero))))))))))))) | exact SetAt.succ (.succ (.succ (.succ (.succ (.succ (.succ (.succ (.succ (.succ (.succ (.succ (.succ (.succ (.succ .zero)))))))))))))) | exact SetAt.succ (.succ (.succ (.succ (.succ (.succ (.succ (.succ (.succ (.succ (.succ (.succ (.succ (.succ (.succ (.succ .zero))))))))))))))) | exact SetAt.succ (.succ (.succ (.succ (.succ (.succ (.succ (.succ (.succ (.succ (.succ (.succ (.succ (.succ (.succ (.succ (.succ .zero)))))))))))))))) | exact SetAt.succ (.succ (.succ (.succ (.succ (.succ (.succ (.succ (.succ (.succ (.succ (.succ (.succ (.succ (.succ (.succ (.succ (.succ .zero))))))))))))))))) | exact SetAt.succ (.succ (.succ (.succ (.succ (.succ (.succ (.succ (.succ (.succ (.succ (.succ (.succ (.succ (.succ (.succ (.succ (.succ (.succ .zero)))))))))))))))))) | exact SetAt.succ (.succ (.succ (.succ (.succ (.succ (.succ (.succ (.succ (.succ (.succ (.succ (.succ (.succ (.succ (.succ (.succ (.succ (.succ (.succ .zero))))))))))))))))))) | exact SetAt.succ (.succ (.succ (.succ (.succ (.succ (.succ (.succ (.succ (.succ (.succ (.succ (.succ (.succ (.succ (.succ (.succ (.succ (.succ (.succ (.succ .zero)))))))))))))))))))))
local macro_rules | `(tactic| ac_rfl) => `(tactic| with_reducible first | exact At.zero | exact At.succ .zero | exact At.succ (.succ .zero) | exact At.succ (.succ (.succ .zero)) | exact At.succ (.succ (.succ (.succ .zero))) | exact At.succ (.succ (.succ (.succ (.succ .zero)))) | exact At.succ (.succ (.succ (.succ (.succ (.succ .zero))))) | exact At.succ (.succ (.succ (.succ (.succ (.succ (.succ .zero)))))) | exact At.succ (.succ (.succ (.succ (.succ (.succ (.succ (.succ .zero))))))) | exact At.succ (.succ (.succ (.succ (.succ (.succ (.succ (.succ (.succ .zero)))))))) | exact At.succ (.succ (.succ (.succ (.succ (.succ (.succ (.succ (.succ (.succ .zero))))))))) | exact At.succ (.succ (.succ (.succ (.succ (.succ (.succ (.succ (.succ (.succ (.succ .zero)))))))))) | exact At.succ (.succ (.succ (.succ (.succ (.succ (.succ (.succ (.succ (.succ (.succ (.succ .zero))))))))))) | exact At.succ (.succ (.succ (.succ (.succ (.succ (.succ (.succ (.succ (.succ (.succ (.succ (.succ .zero)))))))))))) | exact At.succ (.succ (.succ (.succ (.succ (.succ (.succ (.succ (.succ (.succ (.succ (.succ (.succ (.succ .zero))))))))))))) | exact At.succ (.succ (.succ (.succ (.succ (.succ (.succ (.succ (.succ (.succ (.succ (.succ (.succ (.succ (.succ .zero)))))))))))))) | exact At.succ (.succ (.succ (.succ (.succ (.succ (.succ (.succ (.succ (.succ (.succ (.succ (.succ (.succ (.succ (.succ .zero))))))))))))))) | exact At.succ (.succ (.succ (.succ (.succ (.succ (.succ (.succ (.succ (.succ (.succ (.succ (.succ (.succ (.succ (.succ (.succ .zero)))))))))))))))) | exact At.succ (.succ (.succ (.succ (.succ (.succ (.succ (.succ (.succ (.succ (.succ (.succ (.succ (.succ (.succ (.succ (.succ (.succ .zero))))))))))))))))) | exact At.succ (.succ (.succ (.succ (.succ (.succ (.succ (.succ (.succ (.succ (.succ (.succ (.succ (.succ (.succ (.succ (.succ (.succ (.succ .zero)))))))))))))))))) | exact At.succ (.succ (.succ (.succ (.succ (.succ (.succ (.succ (.succ (.succ (.succ (.succ (.succ (.succ (.succ (.succ (.succ (.succ (.succ (.succ .zero))))))))))))))))))) | exact At.succ (.succ (.succ (.succ (.succ (.succ (.succ (.succ (.succ (.succ (.succ (.succ (.succ (.succ (.succ (.succ (.succ (.succ (.succ (.succ (.succ .zero)))))))))))))))))))))
local macro_rules | `(tactic| infer_instance) => `(tactic| first
  | (show AE _ _ _ _; first | refine ae_nm (by assumption) (by ac_rfl) ?_ | refine ae_int ?_ | refine ae_add ?_ | refine ae_ix ?_ | refine ae_sub ?_ | refine ae_pow ?_ | refine ae_mul ?_ | refine ae_mod ?_ | refine ae_fdv ?_ | refine ae_tup ?_ | refine ae_lst ?_ | refine ae_t1 call_int1 ok_int1 (by assumption) b_int ?_ | refine ae_b1 call_len_seq ok_len (by assumption) b_len ?_ | refine ae_b1 call_abs ok_abs (by assumption) b_abs ?_ | refine ae_t1L call_list_of ok_listOf (by assumption) b_list ?_ | refine ae_t1 call_tuple_of ok_tupOf (by assumption) b_tuple ?_ | refine ae_ifExp ?_ | refine ae_bl ?_ | refine ae_non ?_ | refine ae_neg ?_ | refine ae_and ?_ | refine ae_one ?_ | refine ae_or ?_ | refine ae_not ?_)
  | (show AS _ _ _ _ _; first | refine as_st (by assumption) (by assumption) (by ac_rfl) ?_ | refine as_if ?_ | refine as_ret ?_ | refine as_expr ?_ | refine as_par (by assumption) (by assumption) (by ac_rfl) (by ac_rfl) ?_ | refine as_pass ?_ | refine as_continue ?_ | refine as_break ?_)
  | (show AT _ _ _ _; first | refine at_gt ?_ | refine at_ge ?_ | refine at_lt ?_ | refine at_le ?_ | refine at_eqI ?_ | refine at_neI ?_ | refine at_not ?_)
  | (show AAs _ _ _ _; first | refine aa_one ?_ | refine aa_nil ?_)
  | (show ∃ d, cII _ _ _ _ ∧ _; first | refine c_ii rfl rfl ?_ | refine c_iib rfl rfl ?_)
  | (show ∃ d, cIx _ _ _ ∧ _; first | refine c_ix rfl rfl rfl ?_)
  | (show ∃ d, cIIc _ _ _ _ _ ∧ _; first | refine c_iic rfl rfl (by first | omega | exact ⟨by omega, by omega⟩ | (unfold CMul; omega) | (unfold CPow; decide)) ?_)
  | (show ∃ ρ', Puts _ _ _ ρ' ∧ _; first | refine puts_v (by nofun) ?_ | refine puts_c (by nofun) ?_ | refine puts_av rfl (by nofun) ?_ | refine puts_ac rfl (by nofun) (by nofun) ?_)
  | (show ∃ a ρ', Fz _ _ a ρ' ∧ _; first | refine fz_v ?_ | refine fz_av rfl ?_ | refine fz_c ?_ | refine fz_ac rfl (by nofun) ?_ | refine fz_bx rfl ?_)
  | (show ∃ a ρ', Rets _ _ a ρ' ∧ _; first | refine rets_v ?_ | refine rets_av rfl ?_ | refine rets_c ?_ | refine rets_ac rfl (by nofun) ?_)
  | (show ∃ ρ3 ρ4, SetAt _ _ (outSl _) ρ3 ∧ SetAt ρ3 _ (outSl _) ρ4 ∧ _; first | refine c_par (by nofun) (by nofun) ?_)
  | (show ∃ a ρ', Fz _ _ (.d a) ρ' ∧ _; first | refine fzd_v ?_ | refine fzd_av rfl ?_ | refine fzd_c ?_ | refine fzd_ac rfl (by nofun) ?_)
  | refine c_len rfl ?_
  | refine c_int1 rfl ?_
  | refine c_abs rfl ?_
  | refine c_items rfl ?_
  | refine c_tup rfl ?_
  | refine c_catT rfl rfl (by omega) ?_
  | refine c_cat rfl rfl (by omega) ?_
  | refine c_ds2 ?_
  | refine c_ds0 ?_
  | refine c_ds1 ?_
  | refine c_ds3 ?_
  | refine And.intro rfl ?_)
local macro_rules | `(tactic| rfl') => `(tactic| first | infer_instance | refine as_cons ?_ | refine as_nil ?_)

abbrev sSame : Stmt := topS 11
/-- told is what is due, part by part -/
inductive Eqv : Nat → D → D → Prop
  | int (n : Nat) (a : Int) : Eqv n (.int a) (.int a)
  | tup (n : Nat) {xs ys : List D} : xs.length = ys.length → (∀ (i : Nat) (x y : D), xs[i]? = some x → ys[i]? = some y → Eqv n x y) → Eqv (n + 1) (.tuple xs) (.tuple ys)
  | plt (n : Nat) {xs ys : List D} : xs.length = ys.length → (∀ (i : Nat) (x y : D), xs[i]? = some x → ys[i]? = some y → Eqv n x y) → Eqv (n + 1) (.tuple xs) (plT ys)
theorem zipD_get' {ds es : List D} {i : Nat} {d : D} (h : (zipD ds es)[i]? = some d) : ∃ x y, ds[i]? = some x ∧ es[i]? = some y ∧ d = .tuple [x, y] := by
  unfold zipD at h
  rw [List.getElem?_zipWith] at h
  cases h1 : ds[i]? with
  | none => rw [h1] at h; cases h
  | some x =>
    cases h2 : es[i]? with
    | none => rw [h1, h2] at h; cases h
    | some y => rw [h1, h2] at h; exact ⟨x, y, rfl, rfl, (Option.some.inj h).symm⟩
section
variable {P : Program} {w : World} {K : PySem.W.Frag} {mg : Str → Option Value} {base : Heap}
theorem scSame : FnScope ["told", "due", "one", "other"] ["told", "due"] (defScope sSame) := ⟨rfl, rfl, rfl, by decide +kernel, rfl, by decide +kernel, by decide +kernel⟩
def SpSame (n : Nat) : Spc := fun ds Φ => ∃ told due : D, ds = [told, due] ∧ Eqv n told due ∧ Φ (.v (.bool true))
theorem kb1 : kitB "int" "tuple" = some false := by decide +kernel
theorem kb2 : kitB "tuple" "tuple" = some true := by decide +kernel
theorem kb3 : kitB "int" "int" = some true := by decide +kernel
theorem kb4 : kitB "int" "bool" = some false := by decide +kernel
theorem b_bool : bootBuiltins "bool" = some (.type "bool") := rfl
theorem same_body {f : Addr} {fd : FuncData} (mIsi : mg "isinstance" = none) (mTuple : mg "tuple" = none) (mLen : mg "len" = none) (mZip : mg "zip" = none) (mInt : mg "int" = none) (mBool : mg "bool" = none)
    {cdv : Value} {A : Around} {outer : List Env} {s : Shared} {H : Hp} {E : XK} {Φ : Rs → Prop} (xo : XOk (cxOf CX0 P w K mg base ["told", "due", "one", "other"] "_law_same" (defScope sSame) f cdv A outer s H E).nox)
    (hX : (cxOf CX0 P w K mg base ["told", "due", "one", "other"] "_law_same" (defScope sSame) f cdv A outer s H E).nox.N = (["told", "due", "one", "other"] : List Str))
    {xs ys : List D} {due : D} (hd : slTy (.va due) = some "tuple") (hq : slSq (.va due) = some ys) (ht : slTup (.va due) = some ys) (hl : xs.length = ys.length) {n : Nat} (hn : ∀ (i : Nat) (x y : D), xs[i]? = some x → ys[i]? = some y → Eqv n x y)
    (ih : FnP P w K mg base "_law_same" ["told", "due"] (n + 1) (SpSame n)) (hr : Room (n + 1) (A.deeper (envOfC "_law_same" (defScope sSame) s.heap.objs.size f cdv))) (q : Φ (.v (.bool true))) :
    ASs (cxOf CX0 P w K mg base ["told", "due", "one", "other"] "_law_same" (defScope sSame) f cdv A outer s H E).nox k0 (defBody sSame) [.va (.tuple xs), .va due, .no, .no] (kP Φ) := by
  refine as_cons ?_
  refine as_if ?_
  refine at_val ?_
  refine ae_isi mIsi mTuple b_tuple ?_
  repeat infer_instance
  refine c_isi hd kb2 ?_
  refine ⟨_, rfl, fun _ => ?_, (fun h => nomatch h)⟩
  refine as_cons ?_
  refine as_if ?_
  refine at_bool ?_
  refine aw_or ?_
  refine at_not ?_
  refine at_val ?_
  refine ae_isi mIsi mTuple b_tuple ?_
  repeat infer_instance
  refine c_isi rfl kb2 ?_
  refine ⟨_, rfl, fun _ => ?_, (fun h => nomatch h)⟩
  refine aw_or1 ?_
  refine at_neI ?_
  repeat infer_instance
  refine c_len hq ?_
  refine c_iib rfl rfl ?_
  refine ⟨fun h => ?_, fun _ => ?_⟩
  · simp [hl] at h
  refine as_nil ?_
  refine as_cons ?_
  refine as_for xo ?_
  refine ai_zipT mZip ?_
  repeat infer_instance
  refine ⟨xs, ys, rfl, ht, ?_⟩
  refine ⟨fun i ρ => ∃ t2 t3 : Sl, ρ = [.va (.tuple xs), .va due, t2, t3], ⟨_, _, rfl⟩, ?_, ?_⟩
  · rintro i d ρ2 hd' ⟨t2, t3, rfl⟩
    obtain ⟨x, y, h1, h2, rfl⟩ := zipD_get' hd'
    refine ⟨_, ag_pair hX (by ac_rfl) (by ac_rfl) (by nofun) (by nofun) xo, ?_⟩
    refine as_cons ?_
    refine as_if ?_
    refine at_not ?_
    refine at_val ?_
    refine ae_call ih hr ?_
    repeat infer_instance
    refine ⟨[_, _], rfl, rfl, x, y, rfl, hn i x y h1 h2, ?_⟩
    refine ⟨_, rfl, (fun h => nomatch h), fun _ => ?_⟩
    exact as_nil (as_nil ⟨_, _, rfl⟩)
  · rintro ρ2 ⟨t2, t3, rfl⟩
    repeat rfl'
    exact q
theorem same_int {f : Addr} {fd : FuncData} (mIsi : mg "isinstance" = none) (mTuple : mg "tuple" = none) (mInt : mg "int" = none) (mBool : mg "bool" = none)
    {cdv : Value} {A : Around} {outer : List Env} {s : Shared} {H : Hp} {E : XK} {Φ : Rs → Prop} (xo : XOk (cxOf CX0 P w K mg base ["told", "due", "one", "other"] "_law_same" (defScope sSame) f cdv A outer s H E).nox)
    (hX : (cxOf CX0 P w K mg base ["told", "due", "one", "other"] "_law_same" (defScope sSame) f cdv A outer s H E).nox.N = (["told", "due", "one", "other"] : List Str)) (a : Int) (q : Φ (.v (.bool true))) :
    ASs (cxOf CX0 P w K mg base ["told", "due", "one", "other"] "_law_same" (defScope sSame) f cdv A outer s H E).nox k0 (defBody sSame) [.va (.int a), .va (.int a), .no, .no] (kP Φ) := by
  refine as_cons ?_
  refine as_if ?_
  refine at_val ?_
  refine ae_isi mIsi mTuple b_tuple ?_
  repeat infer_instance
  refine c_isi rfl kb1 ?_
  refine ⟨_, rfl, (fun h => nomatch h), fun _ => ?_⟩
  refine as_nil ?_
  refine as_cons ?_
  refine as_if ?_
  refine at_isN ?_
  repeat infer_instance
  refine ⟨_, ⟨.int a, rfl, (fun z => nomatch z), rfl, rfl⟩, (fun h => nomatch h), fun _ => ?_⟩
  refine as_nil ?_
  refine as_cons ?_
  refine as_if ?_
  refine at_bool ?_
  refine aw_or ?_
  refine at_isIB ?_
  repeat infer_instance
  refine ⟨_, ⟨a, true, rfl, rfl, rfl⟩, fun _ => ?_, (fun h => nomatch h)⟩
  refine aw_or1 ?_
  refine at_isIB ?_
  repeat infer_instance
  refine ⟨_, ⟨a, false, rfl, rfl, rfl⟩, (fun h => nomatch h), fun _ => ?_⟩
  refine as_nil ?_
  refine as_cons ?_
  refine as_if ?_
  refine at_val ?_
  refine ae_isi mIsi mInt b_int ?_
  repeat infer_instance
  refine c_isi rfl kb3 ?_
  refine ⟨_, rfl, fun _ => ?_, (fun h => nomatch h)⟩
  refine as_cons ?_
  refine as_ret ?_
  refine ae_and ?_
  refine ae_isi mIsi mInt b_int ?_
  repeat infer_instance
  refine c_isi rfl kb3 ?_
  refine ⟨_, rfl, fun _ => ?_, (fun h => nomatch h)⟩
  refine ae_and ?_
  refine ae_not ?_
  refine ae_isi mIsi mBool b_bool ?_
  repeat infer_instance
  refine c_isi rfl kb4 ?_
  refine ⟨_, rfl, ?_⟩
  refine ⟨_, rfl, fun _ => ?_, (fun h => nomatch h)⟩
  refine ae_one ?_
  refine ae_eqI ?_
  repeat infer_instance
  rw [decide_eq_true rfl]
  exact q
theorem ok_same {f : Addr} {fd : FuncData} (Fn : Fun K "_law_same" "_law_same" sSame f fd) (hm : mg "_law_same" = some (.ref f)) (hb : L2.Binds K fd ["told", "due"] []) (mIsi : mg "isinstance" = none) (mTuple : mg "tuple" = none) (mLen : mg "len" = none) (mZip : mg "zip" = none) (mInt : mg "int" = none) (mBool : mg "bool" = none) :
    ∀ n : Nat, FnP P w K mg base "_law_same" ["told", "due"] (n + 1) (SpSame n)
  | 0 => by
    refine fnP_by Fn scSame hm hb (by decide) fun cdv A outer s H E ds Φ hr xo hX hS => ?_
    obtain ⟨told, due, rfl, he, q⟩ := hS
    cases he with
    | int _ a => exact same_int (fd := fd) mIsi mTuple mInt mBool xo hX a q
  | n + 1 => by
    have ih := ok_same Fn hm hb mIsi mTuple mLen mZip mInt mBool n
    refine fnP_by Fn scSame hm hb (by decide) fun cdv A outer s H E ds Φ hr xo hX hS => ?_
    obtain ⟨told, due, rfl, he, q⟩ := hS
    cases he with
    | int _ a => exact same_int (fd := fd) mIsi mTuple mInt mBool xo hX a q
    | tup _ hl hn => exact same_body (fd := fd) mIsi mTuple mLen mZip mInt mBool xo hX rfl rfl rfl hl hn ih hr q
    | plt _ hl hn => exact same_body (fd := fd) mIsi mTuple mLen mZip mInt mBool xo hX rfl rfl rfl hl hn ih hr q
end
end K69
namespace K69
open PySem PySem.Spec PyProof.Rows L2 Ab
/-! ### the plain law -/
theorem names_nodup (m : Nat) : (names m).Nodup := by
  unfold names
  rw [List.nodup_iff_pairwise_ne] at *
  refine List.Pairwise.map _ (R := fun a b : Nat => a ≠ b) (fun a b h => by omega) List.nodup_range
theorem mem_names {m : Nat} {x : Int} : x ∈ names m ↔ 0 ≤ x ∧ x < m := by
  unfold names
  rw [List.mem_map]
  constructor
  · rintro ⟨i, hi, rfl⟩
    rw [List.mem_range] at hi
    omega
  · rintro ⟨h1, h2⟩
    exact ⟨x.toNat, List.mem_range.mpr (by omega), by omega⟩
theorem full_mem {m : Nat} {r : List Int} (h1 : r.length = m) (h2 : r.Nodup) (h3 : ∀ x ∈ r, x ∈ names m) {x : Int} (hx : x ∈ names m) : x ∈ r := by
  refine Classical.byContradiction fun hn => ?_
  have nd : (x :: r).Nodup := List.nodup_cons.mpr ⟨hn, h2⟩
  have sub : (x :: r) ⊆ names m := fun y hy => by
    rcases List.mem_cons.mp hy with rfl | hy
    · exact hx
    · exact h3 y hy
  have := nd.length_le_of_subset sub
  rw [List.length_cons, h1, names_len] at this
  omega
theorem full_perm {m : Nat} {r : List Int} (h1 : r.length = m) (h2 : r.Nodup) (h3 : ∀ x ∈ r, x ∈ names m) : r.Perm (names m) :=
  (List.perm_ext_iff_of_nodup h2 (names_nodup m)).mpr fun x => ⟨h3 x, full_mem h1 h2 h3⟩
/-- the pairs are kept as far as the row goes -/
def okR (ps : List (Int × Int)) (r : List Int) : Bool := ps.all fun p => !decide (p.2 ∈ r) || decide (r.idxOf p.1 < r.idxOf p.2)
theorem idx_snoc_mem {r : List Int} {x y : Int} (h : y ∈ r) : (r ++ [x]).idxOf y = r.idxOf y := by rw [List.idxOf_append, if_pos h]
theorem idx_snoc_self {r : List Int} {x : Int} (h : x ∉ r) : (r ++ [x]).idxOf x = r.length := by rw [List.idxOf_append, if_neg h]; simp
theorem idx_snoc_ge {r : List Int} {x y : Int} (h : y ∉ r) : r.length ≤ (r ++ [x]).idxOf y := by rw [List.idxOf_append, if_neg h]; omega
theorem idx_ge {r : List Int} {y : Int} (h : y ∉ r) : r.length ≤ r.idxOf y := by
  refine Nat.le_of_not_lt fun z => h (List.idxOf_lt_length_iff.mp z)
theorem okR_snoc (ps : List (Int × Int)) {r : List Int} {x : Int} (hx : x ∉ r) (hp : ∀ p ∈ ps, p.1 ≠ p.2) : okR ps (r ++ [x]) = (okR ps r && ps.all fun p => !decide (p.2 = x) || decide (p.1 ∈ r)) := by
  unfold okR
  rw [Bool.eq_iff_iff, Bool.and_eq_true, List.all_eq_true, List.all_eq_true, List.all_eq_true]
  have one : ∀ p ∈ ps, ((!decide (p.2 ∈ r ++ [x]) || decide ((r ++ [x]).idxOf p.1 < (r ++ [x]).idxOf p.2)) = true) ↔ ((!decide (p.2 ∈ r) || decide (r.idxOf p.1 < r.idxOf p.2)) = true ∧ (!decide (p.2 = x) || decide (p.1 ∈ r)) = true) := by
    intro p hpp
    have ne := hp p hpp
    simp only [Bool.or_eq_true, Bool.not_eq_true', decide_eq_true_eq, decide_eq_false_iff_not, List.mem_append, List.mem_singleton]
    by_cases h2 : p.2 ∈ r
    · have n2 : p.2 ≠ x := fun z => hx (z ▸ h2)
      rw [idx_snoc_mem h2]
      have hlt := List.idxOf_lt_length_iff.mpr h2
      by_cases h1 : p.1 ∈ r
      · rw [idx_snoc_mem h1]
        constructor
        · rintro (h | h)
          · exact absurd (Or.inl h2) h
          · exact ⟨.inr h, .inl n2⟩
        · rintro ⟨h | h, _⟩
          · exact absurd h2 h
          · exact .inr h
      · have g1 := idx_snoc_ge (x := x) h1
        have g2 := idx_ge h1
        constructor
        · rintro (h | h)
          · exact absurd (Or.inl h2) h
          · omega
        · rintro ⟨h | h, _⟩
          · exact absurd h2 h
          · omega
    · by_cases hx2 : p.2 = x
      · rw [hx2, idx_snoc_self hx]
        by_cases h1 : p.1 ∈ r
        · rw [idx_snoc_mem h1]
          have := List.idxOf_lt_length_iff.mpr h1
          constructor
          · intro _
            exact ⟨.inl hx, .inr h1⟩
          · intro _
            exact .inr this
        · have g1 := idx_snoc_ge (x := x) h1
          constructor
          · rintro (h | h)
            · exact absurd (Or.inr rfl) h
            · omega
          · rintro ⟨_, h | h⟩
            · exact absurd rfl h
            · exact absurd h h1
      · constructor
        · intro _
          exact ⟨.inl h2, .inl hx2⟩
        · intro _
          exact .inl (by rintro (h | h); exact h2 h; exact hx2 h)
  constructor
  · intro h
    exact ⟨fun p hp' => ((one p hp').mp (h p hp')).1, fun p hp' => ((one p hp').mp (h p hp')).2⟩
  · rintro ⟨h, g⟩ p hp'
    exact (one p hp').mpr ⟨h p hp', g p hp'⟩
theorem filter_flat {α β : Type} (q : α → Bool) (f : α → List β) : ∀ l : List α, (l.filter q).flatMap f = l.flatMap fun a => if q a = true then f a else []
  | [] => rfl
  | a :: l => by
    rw [List.filter_cons, List.flatMap_cons]
    by_cases h : q a = true
    · rw [if_pos h, if_pos h, List.flatMap_cons, filter_flat q f l]
    · rw [if_neg h, if_neg h, filter_flat q f l]; rfl
theorem flat_congr {α β : Type} {f g : α → List β} : ∀ {l : List α}, (∀ a ∈ l, f a = g a) → l.flatMap f = l.flatMap g
  | [], _ => rfl
  | a :: l, h => by
    rw [List.flatMap_cons, List.flatMap_cons, h a List.mem_cons_self, flat_congr fun b hb => h b (List.mem_cons_of_mem _ hb)]
theorem ext_ord (m : Nat) (ps : List (Int × Int)) (hp : ∀ p ∈ ps, p.1 ≠ p.2) : ∀ t : Nat, extR m ps t = (ordR m t).filter (okR ps)
  | 0 => by
    simp only [extR, ordR]
    have : okR ps [] = true := by unfold okR; simp
    rw [List.filter_cons, if_pos this]; rfl
  | t + 1 => by
    simp only [extR, ordR]
    rw [ext_ord m ps hp t, filter_flat, List.filter_flatMap]
    refine flat_congr fun r hr => ?_
    rw [List.filter_map, List.filter_filter]
    have e : ∀ x, x ∉ r → okR ps (r ++ [x]) = (okR ps r && ps.all fun p => !decide (p.2 = x) || decide (p.1 ∈ r)) := fun x hx => okR_snoc ps hx hp
    by_cases hk : okR ps r = true
    · rw [if_pos hk]
      congr 1
      refine List.filter_congr fun x _ => ?_
      unfold mayF
      show _ = (okR ps (r ++ [x]) && !decide (x ∈ r))
      by_cases hx : x ∈ r
      · rw [decide_eq_true hx]; simp
      · rw [e x hx, hk, decide_eq_false hx]; simp
    · rw [if_neg hk]
      symm
      rw [List.map_eq_nil_iff, List.filter_eq_nil_iff]
      intro x _
      show ¬ (okR ps (r ++ [x]) && !decide (x ∈ r)) = true
      by_cases hx : x ∈ r
      · rw [decide_eq_true hx]; simp
      · rw [e x hx, Bool.eq_false_iff.mpr hk]; simp
/-- of whole rows it is the law's own look -/
theorem ok_keep {m : Nat} {ps : List (Int × Int)} (hp : ∀ p ∈ ps, p.1 ≠ p.2 ∧ p.1 ∈ names m ∧ p.2 ∈ names m) {r : List Int} (hr : r ∈ ordR m m) : okR ps r = keepF ps r := by
  obtain ⟨h1, h2, h3⟩ := ordR_row m r hr
  unfold okR keepF
  rw [Bool.eq_iff_iff, List.all_eq_true, List.all_eq_true]
  have one : ∀ p ∈ ps, ((!decide (p.2 ∈ r) || decide (r.idxOf p.1 < r.idxOf p.2)) = true) ↔ ((!decide (r.idxOf p.2 < r.idxOf p.1)) = true) := by
    intro p hpp
    obtain ⟨ne, n1, n2⟩ := hp p hpp
    have i1 := full_mem h1 h2 h3 n1
    have i2 := full_mem h1 h2 h3 n2
    have hne : r.idxOf p.1 ≠ r.idxOf p.2 := fun z => by
      have a := List.getElem_idxOf (List.idxOf_lt_length_iff.mpr i1)
      have b := List.getElem_idxOf (List.idxOf_lt_length_iff.mpr i2)
      exact ne (a.symm.trans ((by simp only [z] : _ = _).trans b))
    simp only [Bool.or_eq_true, Bool.not_eq_true', decide_eq_true_eq, decide_eq_false_iff_not]
    constructor
    · rintro (h | h)
      · exact absurd i2 h
      · omega
    · intro h
      exact .inr (by omega)
  exact ⟨fun h p hpp => (one p hpp).mp (h p hpp), fun h p hpp => (one p hpp).mpr (h p hpp)⟩
/-- the orders that keep the pairs are those that keep all that follows -/
theorem keep_tr {ps : List (Int × Int)} {r : List Int} (hr : ∀ p ∈ ps, r.idxOf p.1 < r.idxOf p.2) : ∀ {q : Int × Int}, Tr ps q → r.idxOf q.1 < r.idxOf q.2
  | _, .base h => hr _ h
  | _, .step h g => by
    have a := keep_tr hr h
    have b := keep_tr hr g
    exact Nat.lt_trans a b
theorem tr_ends {ps : List (Int × Int)} {N : List Int} (h : ∀ p ∈ ps, p.1 ∈ N ∧ p.2 ∈ N) : ∀ {q : Int × Int}, Tr ps q → q.1 ∈ N ∧ q.2 ∈ N
  | _, .base g => h _ g
  | _, .step a b => ⟨(tr_ends h a).1, (tr_ends h b).2⟩
/-- names stand in an order that keeps the pairs -/
structure Fwd (m : Nat) (ps : List (Int × Int)) (ord : List Int) : Prop where
  perm : ord.Perm (names m)
  ends : ∀ p ∈ ps, p.1 ∈ names m ∧ p.2 ∈ names m
  lt : ∀ p ∈ ps, ord.idxOf p.1 < ord.idxOf p.2
theorem Fwd.ne {m : Nat} {ps : List (Int × Int)} {ord : List Int} (h : Fwd m ps ord) : ∀ p ∈ ps, p.1 ≠ p.2 := fun p hp z => by
  have := h.lt p hp
  rw [z] at this
  omega
theorem Fwd.tr {m : Nat} {ps qs : List (Int × Int)} {ord : List Int} (h : Fwd m ps ord) (hq : ∀ q ∈ qs, Tr ps q) : Fwd m qs ord :=
  ⟨h.perm, fun q hh => tr_ends h.ends (hq q hh), fun q hh => keep_tr h.lt (hq q hh)⟩
theorem keepF_lt {m : Nat} {ps : List (Int × Int)} (hp : ∀ p ∈ ps, p.1 ≠ p.2 ∧ p.1 ∈ names m ∧ p.2 ∈ names m) {r : List Int} (hr : r ∈ ordR m m) : keepF ps r = true ↔ ∀ p ∈ ps, r.idxOf p.1 < r.idxOf p.2 := by
  rw [← ok_keep hp hr]
  obtain ⟨h1, h2, h3⟩ := ordR_row m r hr
  unfold okR
  rw [List.all_eq_true]
  constructor
  · intro h p hpp
    have := h p hpp
    simp only [Bool.or_eq_true, Bool.not_eq_true', decide_eq_true_eq, decide_eq_false_iff_not] at this
    exact this.resolve_left fun z => z (full_mem h1 h2 h3 (hp p hpp).2.2)
  · intro h p hpp
    simp only [Bool.or_eq_true, Bool.not_eq_true', decide_eq_true_eq, decide_eq_false_iff_not]
    exact .inr (h p hpp)
theorem Fwd.all {m : Nat} {ps : List (Int × Int)} {ord : List Int} (h : Fwd m ps ord) : ∀ p ∈ ps, p.1 ≠ p.2 ∧ p.1 ∈ names m ∧ p.2 ∈ names m := fun p hp => ⟨h.ne p hp, h.ends p hp⟩
theorem ext_kept {m : Nat} {ps : List (Int × Int)} {ord : List Int} (h : Fwd m ps ord) : extR m ps m = (ordR m m).filter (keepF ps) := by
  rw [ext_ord m ps h.ne]
  exact List.filter_congr fun r hr => ok_keep h.all hr
theorem kept_tr {m : Nat} {ps qs : List (Int × Int)} {ord : List Int} (h : Fwd m ps ord) (h1 : ∀ p ∈ ps, p ∈ qs) (h2 : ∀ q ∈ qs, Tr ps q) : (ordR m m).filter (keepF qs) = (ordR m m).filter (keepF ps) := by
  refine List.filter_congr fun r hr => ?_
  rw [Bool.eq_iff_iff, keepF_lt h.all hr, keepF_lt (h.tr h2).all hr]
  exact ⟨fun g p hp => g p (h1 p hp), fun g q hq => keep_tr g (h2 q hq)⟩
theorem ord_all {m : Nat} : ∀ (t : Nat) (r : List Int), r.length = t → r.Nodup → (∀ x ∈ r, x ∈ names m) → r ∈ ordR m t
  | 0, r, h, _, _ => by rw [List.length_eq_zero_iff.mp h]; simp [ordR]
  | t + 1, r, h, nd, hm => by
    have hne : r ≠ [] := fun z => by rw [z] at h; cases h
    have e := List.dropLast_concat_getLast hne
    have nd' := nd
    rw [← e, List.nodup_append] at nd'
    obtain ⟨n1, _, n3⟩ := nd'
    have sub : ∀ x ∈ r.dropLast, x ∈ names m := fun x hx => hm x ((List.dropLast_sublist r).mem hx)
    have ih := ord_all t r.dropLast (by rw [List.length_dropLast, h]; rfl) n1 sub
    simp only [ordR, List.mem_flatMap, List.mem_map]
    refine ⟨r.dropLast, ih, r.getLast hne, List.mem_filter.mpr ⟨hm _ (List.getLast_mem hne), ?_⟩, e⟩
    have : r.getLast hne ∉ r.dropLast := fun z => n3 _ z _ (List.mem_singleton.mpr rfl) rfl
    simpa using this
theorem kept_ne {m : Nat} {ps : List (Int × Int)} {ord : List Int} (h : Fwd m ps ord) : (ordR m m).filter (keepF ps) ≠ [] := fun z => by
  have hl : ord.length = m := by rw [h.perm.length_eq, names_len]
  have nd : ord.Nodup := h.perm.nodup_iff.mpr (names_nodup m)
  have ho := ord_all m ord hl nd fun x hx => h.perm.mem_iff.mp hx
  have : ord ∈ (ordR m m).filter (keepF ps) := List.mem_filter.mpr ⟨ho, (keepF_lt h.all ho).mpr h.lt⟩
  rw [z] at this
  cases this
theorem names_sorted (m : Nat) : (names m).Pairwise (· ≤ ·) := by
  unfold names
  refine List.Pairwise.map _ (R := fun a b : Nat => a < b) (fun a b h => by omega) List.pairwise_lt_range
/-- all kept orders are one lot -/
theorem cnt_full {m : Nat} {ps : List (Int × Int)} {ord : List Int} (h : Fwd m ps ord) : cntN m ps m (names m) = (extR m ps m).length := by
  unfold cntN
  rw [List.filter_eq_self.mpr]
  intro r hr
  rw [ext_kept h] at hr
  obtain ⟨h1, h2, h3⟩ := ordR_row m r (List.mem_filter.mp hr).1
  exact decide_eq_true (isort_eq (full_perm h1 h2 h3).symm (names_sorted m)).symm
end K69
namespace K69
open PySem PySem.Spec PyProof.Rows L2 Ab
local macro_rules | `(tactic| nofun) => `(tactic| first | exact SetAt.zero | exact SetAt.succ .zero | exact SetAt.succ (.succ .zero) | exact SetAt.succ (.succ (.succ .zero)) | exact SetAt.succ (.succ (.succ (.succ .zero))) | exact SetAt.succ (.succ (.succ (.succ (.succ .zero)))) | exact SetAt.succ (.succ (.succ (.succ (.succ (.succ .zero))))) | exact SetAt.succ (.succ (.succ (.succ (.succ (.succ (.succ .zero)))))) | exact SetAt.succ (.succ (.succ (.succ (.succ (.succ (.succ (.succ .zero))))))) | exact SetAt.succ (.succ (.succ (.succ (.succ (.succ (.succ (.succ (.succ .zero)))))))) | exact SetAt.succ (.succ (.succ (.succ (.succ (.succ (.succ (.succ (.succ (.succ .zero))))))))) | exact SetAt.succ (.succ (.succ (.succ (.succ (.succ (.succ (.succ (.succ (.succ (.succ .zero)))))))))) | exact SetAt.succ (.succ (.succ (.succ (.succ (.succ (.succ (.succ (.succ (.succ (.succ (.succ .zero))))))))))) | exact SetAt.succ (.succ (.succ (.succ (.succ (.succ (.succ (.succ (.succ (.succ (.succ (.succ (.succ .zero)))))))))))) | exact SetAt.succ (.succ (.succ (.succ (.succ (.succ (.succ (.succ (.succ (.succ (.succ (.succ (.succ (.succ .zero))))))))))))) | exact SetAt.succ (.succ (.succ (.succ (.succ (.succ (.succ (.succ (.succ (.succ (.succ (.succ (.succ (.succ (.succ .zero)))))))))))))) | exact SetAt.succ (.succ (.succ (.succ (.succ (.succ (.succ (.succ (.succ (.succ (.succ (.succ (.succ (.succ (.succ (.succ .zero))))))))))))))) | exact SetAt.succ (.succ (.succ (.succ (.succ (.succ (.succ (.succ (.succ (.succ (.succ (.succ (.succ (.succ (.succ (.succ (.succ .zero)))))))))))))))) | exact SetAt.succ (.succ (.succ (.succ (.succ (.succ (.succ (.succ (.succ (.succ (.succ (.succ (.succ (.succ (.succ (.succ (.succ (.succ .zero))))))))))))))))) | exact SetAt.succ (.succ (.succ (.succ (.succ (.succ (.succ (.succ (.succ (.succ (.succ (.succ (.succ (.succ (.succ (.succ (.succ (.succ (.succ .zero)))))))))))))))))) | exact SetAt.succ (.succ (.succ (.succ (.succ (.succ (.succ (.succ (.succ (.succ (.succ (.succ (.succ (.succ (.succ (.succ (.succ (.succ (.succ (.succ .zero))))))))))))))))))) | exact SetAt.succ (.succ (.succ (.succ (.succ (.succ (.succ (.succ (.succ (.succ (.succ (.succ (.succ (.succ (.succ (.succ (.succ (.succ (.succ (.succ (.succ .zero)))))))))))))))))))))
local macro_rules | `(tactic| ac_rfl) => `(tactic| with_reducible first | exact At.zero | exact At.succ .zero | exact At.succ (.succ .zero) | exact At.succ (.succ (.succ .zero)) | exact At.succ (.succ (.succ (.succ .zero))) | exact At.succ (.succ (.succ (.succ (.succ .zero)))) | exact At.succ (.succ (.succ (.succ (.succ (.succ .zero))))) | exact At.succ (.succ (.succ (.succ (.succ (.succ (.succ .zero)))))) | exact At.succ (.succ (.succ (.succ (.succ (.succ (.succ (.succ .zero))))))) | exact At.succ (.succ (.succ (.succ (.succ (.succ (.succ (.succ (.succ .zero)))))))) | exact At.succ (.succ (.succ (.succ (.succ (.succ (.succ (.succ (.succ (.succ .zero))))))))) | exact At.succ (.succ (.succ (.succ (.succ (.succ (.succ (.succ (.succ (.succ (.succ .zero)))))))))) | exact At.succ (.succ (.succ (.succ (.succ (.succ (.succ (.succ (.succ (.succ (.succ (.succ .zero))))))))))) | exact At.succ (.succ (.succ (.succ (.succ (.succ (.succ (.succ (.succ (.succ (.succ (.succ (.succ .zero)))))))))))) | exact At.succ (.succ (.succ (.succ (.succ (.succ (.succ (.succ (.succ (.succ (.succ (.succ (.succ (.succ .zero))))))))))))) | exact At.succ (.succ (.succ (.succ (.succ (.succ (.succ (.succ (.succ (.succ (.succ (.succ (.succ (.succ (.succ .zero)))))))))))))) | exact At.succ (.succ (.succ (.succ (.succ (.succ (.succ (.succ (.succ (.succ (.succ (.succ (.succ (.succ (.succ (.succ .zero))))))))))))))) | exact At.succ (.succ (.succ (.succ (.succ (.succ (.succ (.succ (.succ (.succ (.succ (.succ (.succ (.succ (.succ (.succ (.succ .zero)))))))))))))))) | exact At.succ (.succ (.succ (.succ (.succ (.succ (.succ (.succ (.succ (.succ (.succ (.succ (.succ (.succ (.succ (.succ (.succ (.succ .zero))))))))))))))))) | exact At.succ (.succ (.succ (.succ (.succ (.succ (.succ (.succ (.succ (.succ (.succ (.succ (.succ (.succ (.succ (.succ (.succ (.succ (.succ .zero)))))))))))))))))) | exact At.succ (.succ (.succ (.succ (.succ (.succ (.succ (.succ (.succ (.succ (.succ (.succ (.succ (.succ (.succ (.succ (.succ (.succ (.succ (.succ .zero))))))))))))))))))) | exact At.succ (.succ (.succ (.succ (.succ (.succ (.succ (.succ (.succ (.succ (.succ (.succ (.succ (.succ (.succ (.succ (.succ (.succ (.succ (.succ (.succ .zero)))))))))))))))))))))
local macro_rules | `(tactic| infer_instance) => `(tactic| first
  | (show AE _ _ _ _; first | refine ae_nm (by assumption) (by ac_rfl) ?_ | refine ae_int ?_ | refine ae_add ?_ | refine ae_ix ?_ | refine ae_sub ?_ | refine ae_pow ?_ | refine ae_mul ?_ | refine ae_mod ?_ | refine ae_fdv ?_ | refine ae_tup ?_ | refine ae_lst ?_ | refine ae_t1 call_int1 ok_int1 (by assumption) b_int ?_ | refine ae_b1 call_len_seq ok_len (by assumption) b_len ?_ | refine ae_b1 call_abs ok_abs (by assumption) b_abs ?_ | refine ae_t1L call_list_of ok_listOf (by assumption) b_list ?_ | refine ae_t1 call_tuple_of ok_tupOf (by assumption) b_tuple ?_ | refine ae_ifExp ?_ | refine ae_bl ?_ | refine ae_non ?_ | refine ae_neg ?_ | refine ae_and ?_ | refine ae_one ?_ | refine ae_or ?_ | refine ae_not ?_)
  | (show AS _ _ _ _ _; first | refine as_st (by assumption) (by assumption) (by ac_rfl) ?_ | refine as_if ?_ | refine as_ret ?_ | refine as_expr ?_ | refine as_par (by assumption) (by assumption) (by ac_rfl) (by ac_rfl) ?_ | refine as_pass ?_ | refine as_continue ?_ | refine as_break ?_)
  | (show AT _ _ _ _; first | refine at_gt ?_ | refine at_ge ?_ | refine at_lt ?_ | refine at_le ?_ | refine at_eqI ?_ | refine at_neI ?_ | refine at_not ?_)
  | (show AAs _ _ _ _; first | refine aa_one ?_ | refine aa_nil ?_)
  | (show ∃ d, cII _ _ _ _ ∧ _; first | refine c_ii rfl rfl ?_ | refine c_iib rfl rfl ?_)
  | (show ∃ d, cIx _ _ _ ∧ _; first | refine c_ix rfl rfl rfl ?_)
  | (show ∃ d, cIIc _ _ _ _ _ ∧ _; first | refine c_iic rfl rfl (by first | omega | exact ⟨by omega, by omega⟩ | (unfold CMul; omega) | (unfold CPow; decide)) ?_)
  | (show ∃ ρ', Puts _ _ _ ρ' ∧ _; first | refine puts_v (by nofun) ?_ | refine puts_c (by nofun) ?_ | refine puts_av rfl (by nofun) ?_ | refine puts_ac rfl (by nofun) (by nofun) ?_)
  | (show ∃ a ρ', Fz _ _ a ρ' ∧ _; first | refine fz_v ?_ | refine fz_av rfl ?_ | refine fz_c ?_ | refine fz_ac rfl (by nofun) ?_ | refine fz_bx rfl ?_)
  | (show ∃ a ρ', Rets _ _ a ρ' ∧ _; first | refine rets_v ?_ | refine rets_av rfl ?_ | refine rets_c ?_ | refine rets_ac rfl (by nofun) ?_)
  | (show ∃ ρ3 ρ4, SetAt _ _ (outSl _) ρ3 ∧ SetAt ρ3 _ (outSl _) ρ4 ∧ _; first | refine c_par (by nofun) (by nofun) ?_)
  | (show ∃ a ρ', Fz _ _ (.d a) ρ' ∧ _; first | refine fzd_v ?_ | refine fzd_av rfl ?_ | refine fzd_c ?_ | refine fzd_ac rfl (by nofun) ?_)
  | refine c_len rfl ?_
  | refine c_int1 rfl ?_
  | refine c_abs rfl ?_
  | refine c_items rfl ?_
  | refine c_tup rfl ?_
  | refine c_catT rfl rfl (by omega) ?_
  | refine c_cat rfl rfl (by omega) ?_
  | refine c_ds2 ?_
  | refine c_ds0 ?_
  | refine c_ds1 ?_
  | refine c_ds3 ?_
  | refine And.intro rfl ?_)
local macro_rules | `(tactic| rfl') => `(tactic| first | infer_instance | refine as_cons ?_ | refine as_nil ?_)

abbrev sFoll : Stmt := topS 12
/-! ### how many ways of two steps -/
theorem nodup_on {α β : Type} {f : α → β} : ∀ {l : List α}, (∀ x ∈ l, ∀ y ∈ l, f x = f y → x = y) → l.Nodup → (l.map f).Nodup
  | [], _, _ => List.nodup_nil
  | a :: l, h, nd => by
    rw [List.nodup_cons] at nd
    rw [List.map_cons, List.nodup_cons]
    refine ⟨fun z => ?_, nodup_on (fun x hx y hy => h x (List.mem_cons_of_mem _ hx) y (List.mem_cons_of_mem _ hy)) nd.2⟩
    obtain ⟨b, hb, e⟩ := List.mem_map.mp z
    have := h b (List.mem_cons_of_mem _ hb) a List.mem_cons_self e
    exact nd.1 (this ▸ hb)
def ways (l k : List (Int × Int)) : List (Int × Int) := k.flatMap fun p => (l.filter fun q => decide (q.1 = p.2)).map fun q => (p.1, q.2)
def tri (m : Nat) : List (Nat × Nat × Nat) := (List.range m).flatMap fun i => ((List.range m).filter (i < ·)).flatMap fun j => ((List.range m).filter (j < ·)).map fun k => (i, j, k)
theorem tri_len : ∀ m, m ≤ 8 → (tri m).length ≤ 56
  | 0, _ => by decide | 1, _ => by decide | 2, _ => by decide | 3, _ => by decide | 4, _ => by decide | 5, _ => by decide | 6, _ => by decide +kernel | 7, _ => by decide +kernel | 8, _ => by decide +kernel
  | n + 9, h => by omega
theorem idx_inj {r : List Int} {a b : Int} (ha : a ∈ r) (hb : b ∈ r) (e : r.idxOf a = r.idxOf b) : a = b := by
  have x := List.getElem_idxOf (List.idxOf_lt_length_iff.mpr ha)
  have y := List.getElem_idxOf (List.idxOf_lt_length_iff.mpr hb)
  exact x.symm.trans ((by simp only [e] : _ = _).trans y)
theorem ways_len {m : Nat} {l : List (Int × Int)} {ord : List Int} (h : Fwd m l ord) (nd : l.Nodup) (h8 : m ≤ 8) : (ways l l).length ≤ 56 := by
  have hl : ord.length = m := by rw [h.perm.length_eq, names_len]
  have mem : ∀ {x : Int}, x ∈ names m → x ∈ ord := fun hx => h.perm.mem_iff.mpr hx
  let T : List (Int × Int × Int) := l.flatMap fun p => (l.filter fun q => decide (q.1 = p.2)).map fun q => (p.1, p.2, q.2)
  have e1 : (ways l l).length = T.length := by
    show (l.flatMap _).length = (l.flatMap _).length
    rw [List.length_flatMap, List.length_flatMap]
    congr 1
    refine List.map_congr_left fun p _ => ?_
    simp
  have memT : ∀ t ∈ T, (t.1, t.2.1) ∈ l ∧ (t.2.1, t.2.2) ∈ l := fun t ht => by
    obtain ⟨p, hp, ht⟩ := List.mem_flatMap.mp ht
    obtain ⟨q, hq, rfl⟩ := List.mem_map.mp ht
    obtain ⟨hq1, hq2⟩ := List.mem_filter.mp hq
    have e : q.1 = p.2 := of_decide_eq_true hq2
    exact ⟨hp, by show (p.2, q.2) ∈ l; rw [← e]; exact hq1⟩
  have ndT : T.Nodup := by
    show List.Pairwise _ _
    rw [List.pairwise_flatMap]
    refine ⟨fun p hp => ?_, ?_⟩
    · refine nodup_on (fun x hx y hy e => ?_) (nd.filter _)
      have h1 : x.1 = p.2 := of_decide_eq_true (List.mem_filter.mp hx).2
      have h2 : y.1 = p.2 := of_decide_eq_true (List.mem_filter.mp hy).2
      have h3 : x.2 = y.2 := congrArg (fun t : Int × Int × Int => t.2.2) e
      exact Prod.ext (h1.trans h2.symm) h3
    · refine List.Pairwise.imp (fun {p p'} hne x hx y hy z => ?_) nd
      obtain ⟨q, _, rfl⟩ := List.mem_map.mp hx
      obtain ⟨q', _, rfl⟩ := List.mem_map.mp hy
      exact hne (Prod.ext (congrArg (fun t : Int × Int × Int => t.1) z) (congrArg (fun t : Int × Int × Int => t.2.1) z))
  have ndG : (T.map fun t => (ord.idxOf t.1, ord.idxOf t.2.1, ord.idxOf t.2.2)).Nodup := by
    refine nodup_on (fun x hx y hy e => ?_) ndT
    obtain ⟨x1, x2⟩ := memT x hx
    obtain ⟨y1, y2⟩ := memT y hy
    have a := idx_inj (mem (h.ends _ x1).1) (mem (h.ends _ y1).1) (congrArg (fun t : Nat × Nat × Nat => t.1) e)
    have b := idx_inj (mem (h.ends _ x1).2) (mem (h.ends _ y1).2) (congrArg (fun t : Nat × Nat × Nat => t.2.1) e)
    have c := idx_inj (mem (h.ends _ x2).2) (mem (h.ends _ y2).2) (congrArg (fun t : Nat × Nat × Nat => t.2.2) e)
    exact Prod.ext a (Prod.ext b c)
  have sub : (T.map fun t => (ord.idxOf t.1, ord.idxOf t.2.1, ord.idxOf t.2.2)) ⊆ tri m := fun g hg => by
    obtain ⟨t, ht, rfl⟩ := List.mem_map.mp hg
    obtain ⟨t1, t2⟩ := memT t ht
    have a := h.lt _ t1
    have b := h.lt _ t2
    have c := List.idxOf_lt_length_iff.mpr (mem (h.ends _ t2).2)
    rw [hl] at c
    have a : ord.idxOf t.1 < ord.idxOf t.2.1 := a
    have b : ord.idxOf t.2.1 < ord.idxOf t.2.2 := b
    have c : ord.idxOf t.2.2 < m := c
    unfold tri
    refine List.mem_flatMap.mpr ⟨_, List.mem_range.mpr (by omega), List.mem_flatMap.mpr ⟨_, List.mem_filter.mpr ⟨List.mem_range.mpr (by omega), decide_eq_true a⟩, List.mem_map.mpr ⟨_, List.mem_filter.mpr ⟨List.mem_range.mpr c, decide_eq_true b⟩, rfl⟩⟩⟩
  have := ndG.length_le_of_subset sub
  rw [List.length_map] at this
  rw [e1]
  exact Nat.le_trans this (tri_len m h8)
theorem pairs_len {m : Nat} {l : List (Int × Int)} {ord : List Int} (h : Fwd m l ord) (nd : l.Nodup) (h8 : m ≤ 8) : l.length ≤ 64 := by
  have sub : l ⊆ (names m).flatMap fun a => (names m).map fun b => (a, b) := fun p hp =>
    List.mem_flatMap.mpr ⟨p.1, (h.ends p hp).1, List.mem_map.mpr ⟨p.2, (h.ends p hp).2, rfl⟩⟩
  have := nd.length_le_of_subset sub
  have e : ∀ k : List Int, (k.flatMap fun a => (names m).map fun b => (a, b)).length = k.length * m := by
    intro k
    induction k with
    | nil => simp
    | cons a k ih => rw [List.flatMap_cons, List.length_append, ih, List.length_map, names_len, List.length_cons, Nat.add_mul]; omega
  rw [e, names_len] at this
  have : m * m ≤ 8 * 8 := Nat.mul_le_mul h8 h8
  omega
theorem ways_fwd {m : Nat} {l : List (Int × Int)} {ord : List Int} (h : Fwd m l ord) : ∀ p ∈ ways l l, (p.1 ∈ names m ∧ p.2 ∈ names m) ∧ ord.idxOf p.1 < ord.idxOf p.2 := fun x hx => by
  obtain ⟨p, hp, hx⟩ := List.mem_flatMap.mp hx
  obtain ⟨q, hq, rfl⟩ := List.mem_map.mp hx
  obtain ⟨hq1, hq2⟩ := List.mem_filter.mp hq
  have e : q.1 = p.2 := of_decide_eq_true hq2
  have a := h.lt p hp
  have b := h.lt q hq1
  rw [e] at b
  exact ⟨⟨(h.ends p hp).1, (h.ends q hq1).2⟩, Nat.lt_trans a b⟩
theorem eqv_pair (p q : Int × Int) : PyData.eqv (pairAb p) (pairAb q) = decide (p = q) := by
  obtain ⟨a, b⟩ := p
  obtain ⟨c, d⟩ := q
  simp only [pairAb]
  by_cases h1 : a = c <;> by_cases h2 : b = d <;> simp [PyData.eqv, PyData.eqvAll, h1, h2]
theorem any_pair (l : List (Int × Int)) (p : Int × Int) : ((l.map pairAb).any fun z => PyData.eqv z (pairAb p)) = decide (p ∈ l) := by
  rw [List.any_map, Bool.eq_iff_iff, List.any_eq_true, decide_eq_true_iff]
  constructor
  · rintro ⟨x, hx, h⟩
    have h : PyData.eqv (pairAb x) (pairAb p) = true := h
    rw [eqv_pair] at h
    exact (of_decide_eq_true h) ▸ hx
  · intro h
    exact ⟨p, h, by show PyData.eqv (pairAb p) (pairAb p) = true; rw [eqv_pair]; simp⟩
theorem canLay_pairs : ∀ l : List (Int × Int), PyData.canLayAll0 (l.map pairAb) = true
  | [] => rfl
  | p :: l => by
    rw [List.map_cons]
    unfold PyData.canLayAll0
    rw [canLay_pairs l]
    rfl
theorem depth_pairs : ∀ l : List (Int × Int), PyData.depthAll (l.map pairAb) ≤ 1
  | [] => by decide
  | p :: l => by
    rw [List.map_cons]
    unfold PyData.depthAll
    have := depth_pairs l
    have e : (pairAb p).depth = 1 := by simp [pairAb, PyData.depth, PyData.depthAll]
    omega
theorem shaped_pairs (l : List (Int × Int)) : SeqAt.shaped (.list (l.map pairAb)) = true := by
  unfold SeqAt.shaped
  rw [Bool.and_eq_true]
  constructor
  · simpa [PyData.canLay0] using canLay_pairs l
  · rw [decide_eq_true_iff]
    have := depth_pairs l
    unfold PyData.depth
    omega
end K69
namespace K69
open PySem PySem.Spec PyProof.Rows L2 Ab
local macro_rules | `(tactic| nofun) => `(tactic| first | exact SetAt.zero | exact SetAt.succ .zero | exact SetAt.succ (.succ .zero) | exact SetAt.succ (.succ (.succ .zero)) | exact SetAt.succ (.succ (.succ (.succ .zero))) | exact SetAt.succ (.succ (.succ (.succ (.succ .zero)))) | exact SetAt.succ (.succ (.succ (.succ (.succ (.succ .zero))))) | exact SetAt.succ (.succ (.succ (.succ (.succ (.succ (.succ .zero)))))) | exact SetAt.succ (.succ (.succ (.succ (.succ (.succ (.succ (.succ .zero))))))) | exact SetAt.succ (.succ (.succ (.succ (.succ (.succ (.succ (.succ (.succ .zero)))))))) | exact SetAt.succ (.succ (.succ (.succ (.succ (.succ (.succ (.succ (.succ (.succ .zero))))))))) | exact SetAt.succ (.succ (.succ (.succ (.succ (.succ (.succ (.succ (.succ (.succ (.succ .zero)))))))))) | exact SetAt.succ (.succ (.succ (.succ (.succ (.succ (.succ (.succ (.succ (.succ (.succ (.succ .zero))))))))))) | exact SetAt.succ (.succ (.succ (.succ (.succ (.succ (.succ (.succ (.succ (.succ (.succ (.succ (.succ .zero)))))))))))) | exact SetAt.succ (.succ (.succ (.succ (.succ (.succ (.succ (.succ (.succ (.succ (.succ (.succ (.succ (.succ .zero))))))))))))) | exact SetAt.succ (.succ (.succ (.succ (.succ (.succ (.succ (.succ (.succ (.succ (.succ (.succ (.succ (.succ (.succ .zero)))))))))))))) | exact SetAt.succ (.succ (.succ (.succ (.succ (.succ (.succ (.succ (.succ (.succ (.succ (.succ (.succ (.succ (.succ (.succ .zero))))))))))))))) | exact SetAt.succ (.succ (.succ (.succ (.succ (.succ (.succ (.succ (.succ (.succ (.succ (.succ (.succ (.succ (.succ (.succ (.succ .zero)))))))))))))))) | exact SetAt.succ (.succ (.succ (.succ (.succ (.succ (.succ (.succ (.succ (.succ (.succ (.succ (.succ (.succ (.succ (.succ (.succ (.succ .zero))))))))))))))))) | exact SetAt.succ (.succ (.succ (.succ (.succ (.succ (.succ (.succ (.succ (.succ (.succ (.succ (.succ (.succ (.succ (.succ (.succ (.succ (.succ .zero)))))))))))))))))) | exact SetAt.succ (.succ (.succ (.succ (.succ (.succ (.succ (.succ (.succ (.succ (.succ (.succ (.succ (.succ (.succ (.succ (.succ (.succ (.succ (.succ .zero))))))))))))))))))) | exact SetAt.succ (.succ (.succ (.succ (.succ (.succ (.succ (.succ (.succ (.succ (.succ (.succ (.succ (.succ (.succ (.succ (.succ (.succ (.succ (.succ (.succ .zero)))))))))))))))))))))
local macro_rules | `(tactic| ac_rfl) => `(tactic| with_reducible first | exact At.zero | exact At.succ .zero | exact At.succ (.succ .zero) | exact At.succ (.succ (.succ .zero)) | exact At.succ (.succ (.succ (.succ .zero))) | exact At.succ (.succ (.succ (.succ (.succ .zero)))) | exact At.succ (.succ (.succ (.succ (.succ (.succ .zero))))) | exact At.succ (.succ (.succ (.succ (.succ (.succ (.succ .zero)))))) | exact At.succ (.succ (.succ (.succ (.succ (.succ (.succ (.succ .zero))))))) | exact At.succ (.succ (.succ (.succ (.succ (.succ (.succ (.succ (.succ .zero)))))))) | exact At.succ (.succ (.succ (.succ (.succ (.succ (.succ (.succ (.succ (.succ .zero))))))))) | exact At.succ (.succ (.succ (.succ (.succ (.succ (.succ (.succ (.succ (.succ (.succ .zero)))))))))) | exact At.succ (.succ (.succ (.succ (.succ (.succ (.succ (.succ (.succ (.succ (.succ (.succ .zero))))))))))) | exact At.succ (.succ (.succ (.succ (.succ (.succ (.succ (.succ (.succ (.succ (.succ (.succ (.succ .zero)))))))))))) | exact At.succ (.succ (.succ (.succ (.succ (.succ (.succ (.succ (.succ (.succ (.succ (.succ (.succ (.succ .zero))))))))))))) | exact At.succ (.succ (.succ (.succ (.succ (.succ (.succ (.succ (.succ (.succ (.succ (.succ (.succ (.succ (.succ .zero)))))))))))))) | exact At.succ (.succ (.succ (.succ (.succ (.succ (.succ (.succ (.succ (.succ (.succ (.succ (.succ (.succ (.succ (.succ .zero))))))))))))))) | exact At.succ (.succ (.succ (.succ (.succ (.succ (.succ (.succ (.succ (.succ (.succ (.succ (.succ (.succ (.succ (.succ (.succ .zero)))))))))))))))) | exact At.succ (.succ (.succ (.succ (.succ (.succ (.succ (.succ (.succ (.succ (.succ (.succ (.succ (.succ (.succ (.succ (.succ (.succ .zero))))))))))))))))) | exact At.succ (.succ (.succ (.succ (.succ (.succ (.succ (.succ (.succ (.succ (.succ (.succ (.succ (.succ (.succ (.succ (.succ (.succ (.succ .zero)))))))))))))))))) | exact At.succ (.succ (.succ (.succ (.succ (.succ (.succ (.succ (.succ (.succ (.succ (.succ (.succ (.succ (.succ (.succ (.succ (.succ (.succ (.succ .zero))))))))))))))))))) | exact At.succ (.succ (.succ (.succ (.succ (.succ (.succ (.succ (.succ (.succ (.succ (.succ (.succ (.succ (.succ (.succ (.succ (.succ (.succ (.succ (.succ .zero)))))))))))))))))))))
local macro_rules | `(tactic| infer_instance) => `(tactic| first
  | (show AE _ _ _ _; first | refine ae_nm (by assumption) (by ac_rfl) ?_ | refine ae_int ?_ | refine ae_add ?_ | refine ae_ix ?_ | refine ae_sub ?_ | refine ae_pow ?_ | refine ae_mul ?_ | refine ae_mod ?_ | refine ae_fdv ?_ | refine ae_tup ?_ | refine ae_lst ?_ | refine ae_t1 call_int1 ok_int1 (by assumption) b_int ?_ | refine ae_b1 call_len_seq ok_len (by assumption) b_len ?_ | refine ae_b1 call_abs ok_abs (by assumption) b_abs ?_ | refine ae_t1L call_list_of ok_listOf (by assumption) b_list ?_ | refine ae_t1 call_tuple_of ok_tupOf (by assumption) b_tuple ?_ | refine ae_ifExp ?_ | refine ae_bl ?_ | refine ae_non ?_ | refine ae_neg ?_ | refine ae_and ?_ | refine ae_one ?_ | refine ae_or ?_ | refine ae_not ?_)
  | (show AS _ _ _ _ _; first | refine as_st (by assumption) (by assumption) (by ac_rfl) ?_ | refine as_if ?_ | refine as_ret ?_ | refine as_expr ?_ | refine as_par (by assumption) (by assumption) (by ac_rfl) (by ac_rfl) ?_ | refine as_pass ?_ | refine as_continue ?_ | refine as_break ?_)
  | (show AT _ _ _ _; first | refine at_gt ?_ | refine at_ge ?_ | refine at_lt ?_ | refine at_le ?_ | refine at_eqI ?_ | refine at_neI ?_ | refine at_not ?_)
  | (show AAs _ _ _ _; first | refine aa_one ?_ | refine aa_nil ?_)
  | (show ∃ d, cII _ _ _ _ ∧ _; first | refine c_ii rfl rfl ?_ | refine c_iib rfl rfl ?_)
  | (show ∃ d, cIx _ _ _ ∧ _; first | refine c_ix rfl rfl rfl ?_)
  | (show ∃ d, cIIc _ _ _ _ _ ∧ _; first | refine c_iic rfl rfl (by first | omega | exact ⟨by omega, by omega⟩ | (unfold CMul; omega) | (unfold CPow; decide)) ?_)
  | (show ∃ ρ', Puts _ _ _ ρ' ∧ _; first | refine puts_v (by nofun) ?_ | refine puts_c (by nofun) ?_ | refine puts_av rfl (by nofun) ?_ | refine puts_ac rfl (by nofun) (by nofun) ?_)
  | (show ∃ a ρ', Fz _ _ a ρ' ∧ _; first | refine fz_v ?_ | refine fz_av rfl ?_ | refine fz_c ?_ | refine fz_ac rfl (by nofun) ?_ | refine fz_bx rfl ?_)
  | (show ∃ a ρ', Rets _ _ a ρ' ∧ _; first | refine rets_v ?_ | refine rets_av rfl ?_ | refine rets_c ?_ | refine rets_ac rfl (by nofun) ?_)
  | (show ∃ ρ3 ρ4, SetAt _ _ (outSl _) ρ3 ∧ SetAt ρ3 _ (outSl _) ρ4 ∧ _; first | refine c_par (by nofun) (by nofun) ?_)
  | (show ∃ a ρ', Fz _ _ (.d a) ρ' ∧ _; first | refine fzd_v ?_ | refine fzd_av rfl ?_ | refine fzd_c ?_ | refine fzd_ac rfl (by nofun) ?_)
  | refine c_len rfl ?_
  | refine c_int1 rfl ?_
  | refine c_abs rfl ?_
  | refine c_items rfl ?_
  | refine c_tup rfl ?_
  | refine c_catT rfl rfl (by omega) ?_
  | refine c_cat rfl rfl (by omega) ?_
  | refine c_ds2 ?_
  | refine c_ds0 ?_
  | refine c_ds1 ?_
  | refine c_ds3 ?_
  | refine And.intro rfl ?_)
local macro_rules | `(tactic| rfl') => `(tactic| first | infer_instance | refine as_cons ?_ | refine as_nil ?_)

section
variable {P : Program} {w : World} {K : PySem.W.Frag} {mg : Str → Option Value} {base : Heap}
theorem scExtM : FnScope ["many", "pairs"] ["many", "pairs"] (defScope sExtM) := ⟨rfl, rfl, rfl, by decide +kernel, rfl, by decide +kernel, by decide +kernel⟩
def SpExtM : Spc := fun ds Φ => ∃ (m : Nat) (ps : List (Int × Int)) (ord : List Int), ds = [.int m, prsD ps] ∧ m ≤ 6 ∧ ps.length < 1000000 ∧ Fwd m ps ord ∧ Φ (.v (.int (extR m ps m).length))
theorem ok_extM {f : Addr} {fd : FuncData} (Fn : Fun K "extensions_many" "extensions_many" sExtM f fd) (hm : mg "extensions_many" = some (.ref f)) (hb : L2.Binds K fd ["many", "pairs"] []) (mRange : mg "range" = none) (mTuple : mg "tuple" = none)
    (gB : FnP P w K mg base "begun_many" ["many", "pairs"] 2 SpBegun) : FnP P w K mg base "extensions_many" ["many", "pairs"] 3 SpExtM := by
  refine fnP_by Fn scExtM hm hb (by decide) fun cdv A outer s H E ds Φ hr xo hX hS => ?_
  obtain ⟨m, ps, ord, rfl, hm6, hz, hf, q⟩ := hS
  refine as_cons ?_
  refine as_ret ?_
  refine ae_dget xo ?_ (fun _ _ => rfl)
  refine ae_call gB hr ?_
  repeat infer_instance
  refine ⟨[_, _], rfl, rfl, m, ps, rfl, hm6, hz, fun fo hfo => ?_⟩
  refine ae_tupRg xo mTuple mRange ?_
  repeat infer_instance
  refine c_rg rfl (by omega) (by omega) ?_
  rw [Int.toNat_natCast, intsFrom0]
  have e1 : cntN m ps m (names m) = (extR m ps m).length := cnt_full hf
  have e2 : (extR m ps m).length ≠ 0 := fun z => kept_ne hf (by rw [← ext_kept hf]; exact List.length_eq_zero_iff.mp z)
  refine ⟨.int (extR m ps m).length, .inl ⟨fo.map en2, lotK (names m), rfl, by rw [lotK_row]; rfl, ?_⟩, ?_⟩
  · rw [val_en2, hfo (names m) (by omega), e1]; rfl
  · repeat infer_instance
    exact q
theorem scFoll : FnScope ["pairs", "found", "turn", "more", "one", "two", "name", "other", "pair"] ["pairs"] (defScope sFoll) := ⟨rfl, rfl, rfl, by decide +kernel, rfl, by decide +kernel, by decide +kernel⟩
def SpFoll : Spc := fun ds Φ => ∃ (m : Nat) (ps : List (Int × Int)) (ord : List Int), ds = [.list (ps.map pairAb)] ∧ m ≤ 8 ∧ Fwd m ps ord ∧ ps.Nodup ∧ ∀ qs : List (Int × Int), Fwd m qs ord → qs.Nodup → Φ (.v (prsD qs))
theorem Fwd.perm' {m : Nat} {ps qs : List (Int × Int)} {ord : List Int} (h : Fwd m ps ord) (p : qs.Perm ps) : Fwd m qs ord := ⟨h.perm, fun q hq => h.ends q (p.mem_iff.mp hq), fun q hq => h.lt q (p.mem_iff.mp hq)⟩
theorem ok_foll {f : Addr} {fd : FuncData} (Fn : Fun K "_law_followed" "_law_followed" sFoll f fd) (hm : mg "_law_followed" = some (.ref f)) (hb : L2.Binds K fd ["pairs"] []) (mRange : mg "range" = none) (mTuple : mg "tuple" = none) (mList : mg "list" = none) (mSorted : mg "sorted" = none) (mSet : mg "set" = none) :
    FnP P w K mg base "_law_followed" ["pairs"] 1 SpFoll := by
  refine fnP_by Fn scFoll hm hb (by decide) fun cdv A outer s H E ds Φ hr xo hX hS => ?_
  obtain ⟨m, ps, ord, rfl, h8, hf, hnd, q⟩ := hS
  have hu : (cxOf CX0 P w K mg base ["pairs", "found", "turn", "more", "one", "two", "name", "other", "pair"] "_law_followed" (defScope sFoll) f cdv A outer s H E).nox.A.units + 65 < cLine := by have := xo.units; omega
  have fin : ∀ l : List (Int × Int), Fwd m l ord → l.Nodup → ∃ qs, srt (l.map pairAb) = qs.map pairAb ∧ Φ (.v (prsD qs)) := fun l hl nd => by
    obtain ⟨qs, pq, eq⟩ := srt_pairs l
    exact ⟨qs, eq, q qs (hl.perm' pq) (pq.nodup_iff.mpr nd)⟩
  refine as_cons ?_
  repeat infer_instance
  refine as_cons ?_
  refine as_for xo ?_
  refine ai_range1 ?_ mRange
  repeat infer_instance
  refine ⟨8, rfl, by decide, fun i ρ => ∃ (l : List (Int × Int)) (t2 t3 t4 t5 : Sl), ρ = [.va (.list (ps.map pairAb)), .ce (.lst (l.map pairAb)), t2, t3, t4, t5, .no, .no, .no] ∧ Fwd m l ord ∧ l.Nodup, ⟨ps, _, _, _, _, rfl, hf, hnd⟩, ?_, ?_⟩
  · rintro i d ρ2 hd ⟨l, t2, t3, t4, t5, rfl, hl, nd⟩
    have l64 := pairs_len hl nd h8
    have w56 := ways_len hl nd h8
    refine ⟨_, ag_nm hX (by ac_rfl) (by nofun) xo, ?_⟩
    refine as_cons ?_
    repeat infer_instance
    refine as_cons ?_
    refine as_for xo ?_
    refine ai_list ?_
    repeat infer_instance
    refine ⟨_, _, .alc rfl (by nofun), ?_⟩
    refine ⟨fun j ρ => ∃ (t4 t5 : Sl), ρ = [.va (.list (ps.map pairAb)), .va (.list (l.map pairAb)), .va d, .ce (.lst ((ways l (l.take j)).map pairAb)), t4, t5, .no, .no, .no], ⟨_, _, rfl⟩, ?_, ?_⟩
    · rintro j d' ρ2 hd' ⟨t4, t5, rfl⟩
      obtain ⟨p, hp, rfl⟩ := get_map hd'
      have hj : j < l.length := (List.getElem?_eq_some_iff.mp hp).1
      refine ⟨_, ag_pair hX (by ac_rfl) (by ac_rfl) (by nofun) (by nofun) xo, ?_⟩
      refine as_cons ?_
      refine as_st xo hX (by ac_rfl) ?_
      refine ae_addL ?_
      refine ae_nm hX (by ac_rfl) ?_
      refine ae_lcF (own := [("name", 6), ("other", 7)]) (Int × Int) xo ?_ (blk_of (sc := defScope sFoll) hX rfl (by decide +kernel))
      refine ai_list ?_
      repeat infer_instance
      refine ⟨_, _, .alv rfl, ?_⟩
      refine ⟨l, pairAb, fun q => decide (q.1 = p.2), fun q => pairAb (p.1, q.2), _, rfl, by omega, .cons (.cons .nil (by nofun)) (by nofun), by simp [notCe], ?_, ?_⟩
      · intro x hx
        refine ⟨_, fun s H C cl fp => ag_pair hX (by ac_rfl) (by ac_rfl) (by nofun) (by nofun) (xo.blk s H C cl fp), fun s H C cl fp => ats_one (at_eqI ?_)⟩
        repeat infer_instance
        refine ⟨fun h => ⟨h, fun s H C cl fp => ?_⟩, fun h => ⟨h, .cons (.cons .nil (by nofun)) (by nofun)⟩⟩
        repeat infer_instance
        exact ⟨_, .v, .cons (.cons .nil (by nofun)) (by nofun)⟩
      · have e : ((ways l (l.take j)).map pairAb) ++ ((l.filter fun q => decide (q.1 = p.2)).map fun q => pairAb (p.1, q.2)) = (ways l (l.take (j + 1))).map pairAb := by
          unfold ways
          rw [Ab.take_next hp, List.flatMap_append, List.map_append]
          congr 1
          simp only [List.flatMap_cons, List.flatMap_nil, List.append_nil, List.map_map]
          rfl
        have len : (ways l (l.take (j + 1))).length ≤ 56 := by
          have : (ways l (l.take (j + 1))).length ≤ (ways l l).length := by
            unfold ways
            conv => rhs; rw [← List.take_append_drop (j + 1) l, List.flatMap_append, List.length_append]
            rw [List.take_append_drop]
            omega
          omega
        have len2 := congrArg List.length e
        rw [List.length_append, List.length_map (as := ways l (l.take (j + 1)))] at len2
        refine c_cat rfl rfl (by omega) ?_
        repeat infer_instance
        exact as_nil ⟨_, _, congrArg (fun z => [_, _, _, Sl.ce (.lst z), _, _, _, _, _]) e⟩
    · rintro ρ2 ⟨t4, t5, rfl⟩
      rw [List.length_map, List.take_length]
      refine as_cons ?_
      refine as_stF (own := [("pair", 8)]) (Int × Int) xo hX (by ac_rfl) ?_ (blk_of (sc := defScope sFoll) hX rfl (by decide +kernel))
      refine ai_list ?_
      refine ae_sortSet xo mSorted mSet ?_
      repeat infer_instance
      refine ⟨ways l l, rfl, by omega, fun p hp => ?_, fun l' hl' nd' => ?_⟩
      · have := (ways_fwd hl p hp).1
        rw [mem_names, mem_names] at this
        omega
      refine ⟨_, _, .c, ?_⟩
      have len' : l'.length ≤ 56 := Nat.le_trans (nd'.length_le_of_subset hl') w56
      refine ⟨l', pairAb, fun p => !decide (p ∈ l), pairAb, _, rfl, by omega, .cons .nil (by nofun), by simp [notCe], ?_, ?_⟩
      · intro x hx
        refine ⟨_, fun s H C cl fp => ag_nm hX (by ac_rfl) (by nofun) (xo.blk s H C cl fp), fun s H C cl fp => ats_one ?_⟩
        refine at_cmp (op_notInD hu) ok_notInL rfl ?_
        repeat infer_instance
        refine ⟨_, ⟨pairAb x, l.map pairAb, rfl, rfl, rfl, shaped_pairs l, rfl⟩, ?_⟩
        rw [any_pair]
        refine ⟨fun h => ⟨h, fun s H C cl fp => ?_⟩, fun h => ⟨h, .cons .nil (by nofun)⟩⟩
        repeat infer_instance
        exact ⟨_, .alv rfl, .cons .nil (by nofun)⟩
      repeat infer_instance
      generalize hM : l'.filter (fun p => !decide (p ∈ l)) = M
      have hMf : Fwd m M ord := ⟨hl.perm, fun p hp => by rw [← hM] at hp; exact (ways_fwd hl p (hl' p (List.mem_filter.mp hp).1)).1, fun p hp => by rw [← hM] at hp; exact (ways_fwd hl p (hl' p (List.mem_filter.mp hp).1)).2⟩
      have hMn : M.Nodup := by rw [← hM]; exact nd'.filter _
      have hMd : ∀ p ∈ M, p ∉ l := fun p hp => by rw [← hM] at hp; simpa using (List.mem_filter.mp hp).2
      have hA : Fwd m (l ++ M) ord := ⟨hl.perm, fun p hp => (List.mem_append.mp hp).elim (hl.ends p) (hMf.ends p), fun p hp => (List.mem_append.mp hp).elim (hl.lt p) (hMf.lt p)⟩
      have nA : (l ++ M).Nodup := by
        rw [List.nodup_append]
        exact ⟨nd, hMn, fun a ha b hb e => hMd b hb (e ▸ ha)⟩
      refine as_cons ?_
      refine as_if ?_
      refine at_cmp (op_eqD (by omega)) ok_eqD rfl ?_
      repeat infer_instance
      refine ⟨_, ⟨.list (M.map pairAb), .list [], rfl, rfl, shaped_pairs M, rfl, rfl⟩, fun h => ?_, fun h => ?_⟩
      · refine as_cons ?_
        refine as_ret ?_
        refine ae_t1 call_tuple_of ok_tupOf mTuple b_tuple ?_
        refine ae_b1L (cr_sortD xo.units) ok_sortD mSorted b_sorted ?_
        repeat infer_instance
        refine c_sortD rfl (ds_pairs l) ?_
        obtain ⟨qs, eq, qq⟩ := fin l hl nd
        rw [eq]
        repeat infer_instance
        exact qq
      · refine as_nil ?_
        refine as_cons ?_
        refine as_st xo hX (by ac_rfl) ?_
        refine ae_addL ?_
        repeat infer_instance
        refine c_cat rfl rfl (by have := pairs_len hMf hMn h8; rw [List.length_map, List.length_map]; omega) ?_
        repeat infer_instance
        exact as_nil ⟨l ++ M, _, _, _, _, by rw [List.map_append], hA, nA⟩
  · rintro ρ2 ⟨l, t2, t3, t4, t5, rfl, hl, nd⟩
    refine as_cons ?_
    refine as_ret ?_
    refine ae_t1 call_tuple_of ok_tupOf mTuple b_tuple ?_
    refine ae_b1L (cr_sortD xo.units) ok_sortD mSorted b_sorted ?_
    repeat infer_instance
    refine c_sortD rfl (ds_pairs l) ?_
    obtain ⟨qs, eq, qq⟩ := fin l hl nd
    rw [eq]
    repeat infer_instance
    exact qq
end
end K69
namespace K69
open PySem PySem.Spec PyProof.Rows L2 Ab
local macro_rules | `(tactic| nofun) => `(tactic| first | exact SetAt.zero | exact SetAt.succ .zero | exact SetAt.succ (.succ .zero) | exact SetAt.succ (.succ (.succ .zero)) | exact SetAt.succ (.succ (.succ (.succ .zero))) | exact SetAt.succ (.succ (.succ (.succ (.succ .zero)))) | exact SetAt.succ (.succ (.succ (.succ (.succ (.succ .zero))))) | exact SetAt.succ (.succ (.succ (.succ (.succ (.succ (.succ .zero)))))) | exact SetAt.succ (.succ (.succ (.succ (.succ (.succ (.succ (.succ .zero))))))) | exact SetAt.succ (.succ (.succ (.succ (.succ (.succ (.succ (.succ (.succ .zero)))))))) | exact SetAt.succ (.succ (.succ (.succ (.succ (.succ (.succ (.succ (.succ (.succ .zero))))))))) | exact SetAt.succ (.succ (.succ (.succ (.succ (.succ (.succ (.succ (.succ (.succ (.succ .zero)))))))))) | exact SetAt.succ (.succ (.succ (.succ (.succ (.succ (.succ (.succ (.succ (.succ (.succ (.succ .zero))))))))))) | exact SetAt.succ (.succ (.succ (.succ (.succ (.succ (.succ (.succ (.succ (.succ (.succ (.succ (.succ .zero)))))))))))) | exact SetAt.succ (.succ (.succ (.succ (.succ (.succ (.succ (.succ (.succ (.succ (.succ (.succ (.succ (.succ .zero))))))))))))) | exact SetAt.succ (.succ (.succ (.succ (.succ (.succ (.succ (.succ (.succ (.succ (.succ (.succ (.succ (.succ (.succ .zero)))))))))))))) | exact SetAt.succ (.succ (.succ (.succ (.succ (.succ (.succ (.succ (.succ (.succ (.succ (.succ (.succ (.succ (.succ (.succ .zero))))))))))))))) | exact SetAt.succ (.succ (.succ (.succ (.succ (.succ (.succ (.succ (.succ (.succ (.succ (.succ (.succ (.succ (.succ (.succ (.succ .zero)))))))))))))))) | exact SetAt.succ (.succ (.succ (.succ (.succ (.succ (.succ (.succ (.succ (.succ (.succ (.succ (.succ (.succ (.succ (.succ (.succ (.succ .zero))))))))))))))))) | exact SetAt.succ (.succ (.succ (.succ (.succ (.succ (.succ (.succ (.succ (.succ (.succ (.succ (.succ (.succ (.succ (.succ (.succ (.succ (.succ .zero)))))))))))))))))) | exact SetAt.succ (.succ (.succ (.succ (.succ (.succ (.succ (.succ (.succ (.succ (.succ (.succ (.succ (.succ (.succ (.succ (.succ (.succ (.succ (.succ .zero))))))))))))))))))) | exact SetAt.succ (.succ (.succ (.succ (.succ (.succ (.succ (.succ (.succ (.succ (.succ (.succ (.succ (.succ (.succ (.succ (.succ (.succ (.succ (.succ (.succ .zero)))))))))))))))))))))
local macro_rules | `(tactic| ac_rfl) => `(tactic| with_reducible first | exact At.zero | exact At.succ .zero | exact At.succ (.succ .zero) | exact At.succ (.succ (.succ .zero)) | exact At.succ (.succ (.succ (.succ .zero))) | exact At.succ (.succ (.succ (.succ (.succ .zero)))) | exact At.succ (.succ (.succ (.succ (.succ (.succ .zero))))) | exact At.succ (.succ (.succ (.succ (.succ (.succ (.succ .zero)))))) | exact At.succ (.succ (.succ (.succ (.succ (.succ (.succ (.succ .zero))))))) | exact At.succ (.succ (.succ (.succ (.succ (.succ (.succ (.succ (.succ .zero)))))))) | exact At.succ (.succ (.succ (.succ (.succ (.succ (.succ (.succ (.succ (.succ .zero))))))))) | exact At.succ (.succ (.succ (.succ (.succ (.succ (.succ (.succ (.succ (.succ (.succ .zero)))))))))) | exact At.succ (.succ (.succ (.succ (.succ (.succ (.succ (.succ (.succ (.succ (.succ (.succ .zero))))))))))) | exact At.succ (.succ (.succ (.succ (.succ (.succ (.succ (.succ (.succ (.succ (.succ (.succ (.succ .zero)))))))))))) | exact At.succ (.succ (.succ (.succ (.succ (.succ (.succ (.succ (.succ (.succ (.succ (.succ (.succ (.succ .zero))))))))))))) | exact At.succ (.succ (.succ (.succ (.succ (.succ (.succ (.succ (.succ (.succ (.succ (.succ (.succ (.succ (.succ .zero)))))))))))))) | exact At.succ (.succ (.succ (.succ (.succ (.succ (.succ (.succ (.succ (.succ (.succ (.succ (.succ (.succ (.succ (.succ .zero))))))))))))))) | exact At.succ (.succ (.succ (.succ (.succ (.succ (.succ (.succ (.succ (.succ (.succ (.succ (.succ (.succ (.succ (.succ (.succ .zero)))))))))))))))) | exact At.succ (.succ (.succ (.succ (.succ (.succ (.succ (.succ (.succ (.succ (.succ (.succ (.succ (.succ (.succ (.succ (.succ (.succ .zero))))))))))))))))) | exact At.succ (.succ (.succ (.succ (.succ (.succ (.succ (.succ (.succ (.succ (.succ (.succ (.succ (.succ (.succ (.succ (.succ (.succ (.succ .zero)))))))))))))))))) | exact At.succ (.succ (.succ (.succ (.succ (.succ (.succ (.succ (.succ (.succ (.succ (.succ (.succ (.succ (.succ (.succ (.succ (.succ (.succ (.succ .zero))))))))))))))))))) | exact At.succ (.succ (.succ (.succ (.succ (.succ (.succ (.succ (.succ (.succ (.succ (.succ (.succ (.succ (.succ (.succ (.succ (.succ (.succ (.succ (.succ .zero)))))))))))))))))))))
local macro_rules | `(tactic| infer_instance) => `(tactic| first
  | (show AE _ _ _ _; first | refine ae_nm (by assumption) (by ac_rfl) ?_ | refine ae_int ?_ | refine ae_add ?_ | refine ae_ix ?_ | refine ae_sub ?_ | refine ae_pow ?_ | refine ae_mul ?_ | refine ae_mod ?_ | refine ae_fdv ?_ | refine ae_tup ?_ | refine ae_lst ?_ | refine ae_t1 call_int1 ok_int1 (by assumption) b_int ?_ | refine ae_b1 call_len_seq ok_len (by assumption) b_len ?_ | refine ae_b1 call_abs ok_abs (by assumption) b_abs ?_ | refine ae_t1L call_list_of ok_listOf (by assumption) b_list ?_ | refine ae_t1 call_tuple_of ok_tupOf (by assumption) b_tuple ?_ | refine ae_ifExp ?_ | refine ae_bl ?_ | refine ae_non ?_ | refine ae_neg ?_ | refine ae_and ?_ | refine ae_one ?_ | refine ae_or ?_ | refine ae_not ?_)
  | (show AS _ _ _ _ _; first | refine as_st (by assumption) (by assumption) (by ac_rfl) ?_ | refine as_if ?_ | refine as_ret ?_ | refine as_expr ?_ | refine as_par (by assumption) (by assumption) (by ac_rfl) (by ac_rfl) ?_ | refine as_pass ?_ | refine as_continue ?_ | refine as_break ?_)
  | (show AT _ _ _ _; first | refine at_gt ?_ | refine at_ge ?_ | refine at_lt ?_ | refine at_le ?_ | refine at_eqI ?_ | refine at_neI ?_ | refine at_not ?_)
  | (show AAs _ _ _ _; first | refine aa_one ?_ | refine aa_nil ?_)
  | (show ∃ d, cII _ _ _ _ ∧ _; first | refine c_ii rfl rfl ?_ | refine c_iib rfl rfl ?_)
  | (show ∃ d, cIx _ _ _ ∧ _; first | refine c_ix rfl rfl rfl ?_)
  | (show ∃ d, cIIc _ _ _ _ _ ∧ _; first | refine c_iic rfl rfl (by first | omega | exact ⟨by omega, by omega⟩ | (unfold CMul; omega) | (unfold CPow; decide)) ?_)
  | (show ∃ ρ', Puts _ _ _ ρ' ∧ _; first | refine puts_v (by nofun) ?_ | refine puts_c (by nofun) ?_ | refine puts_av rfl (by nofun) ?_ | refine puts_ac rfl (by nofun) (by nofun) ?_)
  | (show ∃ a ρ', Fz _ _ a ρ' ∧ _; first | refine fz_v ?_ | refine fz_av rfl ?_ | refine fz_c ?_ | refine fz_ac rfl (by nofun) ?_ | refine fz_bx rfl ?_)
  | (show ∃ a ρ', Rets _ _ a ρ' ∧ _; first | refine rets_v ?_ | refine rets_av rfl ?_ | refine rets_c ?_ | refine rets_ac rfl (by nofun) ?_)
  | (show ∃ ρ3 ρ4, SetAt _ _ (outSl _) ρ3 ∧ SetAt ρ3 _ (outSl _) ρ4 ∧ _; first | refine c_par (by nofun) (by nofun) ?_)
  | (show ∃ a ρ', Fz _ _ (.d a) ρ' ∧ _; first | refine fzd_v ?_ | refine fzd_av rfl ?_ | refine fzd_c ?_ | refine fzd_ac rfl (by nofun) ?_)
  | refine c_len rfl ?_
  | refine c_int1 rfl ?_
  | refine c_abs rfl ?_
  | refine c_items rfl ?_
  | refine c_tup rfl ?_
  | refine c_catT rfl rfl (by omega) ?_
  | refine c_cat rfl rfl (by omega) ?_
  | refine c_ds2 ?_
  | refine c_ds0 ?_
  | refine c_ds1 ?_
  | refine c_ds3 ?_
  | refine And.intro rfl ?_)
local macro_rules | `(tactic| rfl') => `(tactic| first | infer_instance | refine as_cons ?_ | refine as_nil ?_)

abbrev sPairs : Stmt := topS 13
theorem nodup_ix {ns : List Int} (hn : ns.Nodup) {i j : Nat} {hi : i < ns.length} {hj : j < ns.length} (e : ns[i] = ns[j]) : i = j := by
  have h := List.pairwise_iff_getElem.mp hn
  rcases Nat.lt_trichotomy i j with z | z | z
  · exact absurd e (h i j hi hj z)
  · exact z
  · exact absurd e.symm (h j i hj hi z)
/-! ### the drawn pairs -/
def keyP (way : Int) (p : Int × Int) : Int := if way = 7 then p.2 else p.1
structure GP (m : Nat) (way : Int) (ns : List Int) (spot : Nat) (l : List (Int × Int)) : Prop where
  fw : Fwd m l ns
  nd : l.Nodup
  ky : ∀ p ∈ l, keyP way p ∈ ns.take spot
theorem GP.up {m : Nat} {way : Int} {ns : List Int} {spot : Nat} {l : List (Int × Int)} (h : GP m way ns spot l) : GP m way ns (spot + 1) l :=
  ⟨h.fw, h.nd, fun p hp => (List.take_sublist_take_left (Nat.le_succ _)).mem (h.ky p hp)⟩
theorem GP.add {m : Nat} {way : Int} {ns : List Int} {spot : Nat} {l M : List (Int × Int)} (h : GP m way ns spot l) {x : Int} (hx : ns[spot]? = some x) (hn : ns.Nodup) (h1 : M.Nodup) (h2 : ∀ p ∈ M, keyP way p = x)
    (h3 : ∀ p ∈ M, (p.1 ∈ names m ∧ p.2 ∈ names m) ∧ ns.idxOf p.1 < ns.idxOf p.2) : GP m way ns (spot + 1) (l ++ M) := by
  have nx : x ∉ ns.take spot := fun z => by
    obtain ⟨i, hi, e⟩ := List.mem_iff_getElem.mp z
    rw [List.getElem_take] at e
    rw [List.length_take] at hi
    obtain ⟨hs, e2⟩ := List.getElem?_eq_some_iff.mp hx
    have := nodup_ix hn (e.trans e2.symm)
    omega
  refine ⟨⟨h.fw.perm, fun p hp => (List.mem_append.mp hp).elim (h.fw.ends p) fun z => (h3 p z).1, fun p hp => (List.mem_append.mp hp).elim (h.fw.lt p) fun z => (h3 p z).2⟩, ?_, fun p hp => ?_⟩
  · rw [List.nodup_append]
    exact ⟨h.nd, h1, fun a ha b hb e => nx (h2 b hb ▸ e ▸ h.ky a ha)⟩
  · rw [Ab.take_next hx, List.mem_append]
    rcases List.mem_append.mp hp with z | z
    · exact .inl (h.ky p z)
    · exact .inr (by rw [h2 p z]; exact List.mem_singleton.mpr rfl)
theorem cut_from (ns : List Int) (i : Nat) : Ab.cutD (ns.map PyData.int) (some ((i : Int) + 1)) none = (ns.drop (i + 1)).map PyData.int := by
  unfold Ab.cutD
  have e : HT.sIx (ns.map PyData.int).length 0 (some ((i : Int) + 1)) = min (i + 1) (ns.map PyData.int).length := by
    have := HT.sIx_nat (ns.map PyData.int).length 0 (i + 1)
    rw [← this]; rfl
  rw [HT.sIx_none, e, List.length_map, ← List.map_drop, ← List.map_take]
  congr 1
  by_cases h : i + 1 ≤ ns.length
  · rw [Nat.min_eq_left h, List.take_of_length_le (by rw [List.length_drop]; exact Nat.le_refl _)]
  · rw [Nat.min_eq_right (by omega), List.drop_length, List.drop_of_length_le (by omega)]; simp
theorem cut_to (ns : List Int) (i : Nat) (h : i ≤ ns.length) : Ab.cutD (ns.map PyData.int) none (some (i : Int)) = (ns.take i).map PyData.int := by
  unfold Ab.cutD
  rw [HT.sIx_none, HT.sIx_nat, List.length_map, Nat.min_eq_left h, Nat.sub_zero, List.drop_zero, List.map_take]
theorem canLay_ints : ∀ l : List Int, PyData.canLayAll0 (l.map PyData.int) = true
  | [] => rfl
  | p :: l => by
    rw [List.map_cons]
    unfold PyData.canLayAll0
    rw [canLay_ints l]
    rfl
theorem depth_ints : ∀ l : List Int, PyData.depthAll (l.map PyData.int) ≤ 1
  | [] => by decide
  | p :: l => by
    rw [List.map_cons]
    unfold PyData.depthAll
    have := depth_ints l
    have e : (PyData.int p).depth ≤ 1 := by simp [PyData.depth]
    omega
theorem shaped_ints (l : List Int) : SeqAt.shaped (.list (l.map PyData.int)) = true := by
  unfold SeqAt.shaped
  rw [Bool.and_eq_true]
  constructor
  · simpa [PyData.canLay0] using canLay_ints l
  · rw [decide_eq_true_iff]
    have := depth_ints l
    unfold PyData.depth
    omega
theorem eqv_nil : ∀ l : List Int, PyData.eqv (.list (l.map PyData.int)) (.list []) = decide (l = [])
  | [] => rfl
  | a :: l => by simp [PyData.eqv, PyData.eqvAll]
theorem idx_at {ns : List Int} (hn : ns.Nodup) {i : Nat} {x : Int} (h : ns[i]? = some x) : ns.idxOf x = i := by
  obtain ⟨hi, e⟩ := List.getElem?_eq_some_iff.mp h
  have h1 := List.idxOf_lt_length_iff.mpr (List.mem_of_getElem? h)
  have h2 := List.getElem_idxOf h1
  exact nodup_ix hn (h2.trans e.symm)
theorem drop_idx {ns : List Int} (hn : ns.Nodup) {i : Nat} {x : Int} (h : x ∈ ns.drop (i + 1)) : i < ns.idxOf x := by
  obtain ⟨j, hj, e⟩ := List.mem_iff_getElem.mp h
  rw [List.getElem_drop] at e
  rw [List.length_drop] at hj
  have := idx_at hn (i := i + 1 + j) (x := x) (by rw [List.getElem?_eq_getElem (by omega), e])
  omega
theorem take_idx {ns : List Int} (hn : ns.Nodup) {i : Nat} {x : Int} (h : x ∈ ns.take i) : ns.idxOf x < i := by
  obtain ⟨j, hj, e⟩ := List.mem_iff_getElem.mp h
  rw [List.getElem_take] at e
  rw [List.length_take] at hj
  have := idx_at hn (i := j) (x := x) (by rw [List.getElem?_eq_getElem (by omega), e])
  omega
section
variable {P : Program} {w : World} {K : PySem.W.Frag} {mg : Str → Option Value} {base : Heap}
theorem scPairs : FnScope ["box", "many", "way", "names", "found", "spot", "name", "later", "other", "pair"] ["box", "many", "way"] (defScope sPairs) := ⟨rfl, rfl, rfl, by decide +kernel, rfl, by decide +kernel, by decide +kernel⟩
def SpPairs : Spc := fun ds Φ => ∃ (m : Nat) (way : Int), ds = [.int m, .int way] ∧ m ≤ 8 ∧ ∀ (ps : List (Int × Int)) (ord : List Int), Fwd m ps ord → ps.Nodup → Φ (.v (prsD ps))
theorem ok_pairs {f : Addr} {fd : FuncData} (Fn : Fun K "_law_pairs" "_law_pairs" sPairs f fd) (hm : mg "_law_pairs" = some (.ref f)) (hb : L2.Binds K fd ["box", "many", "way"] []) (mRange : mg "range" = none) (mTuple : mg "tuple" = none) (mList : mg "list" = none) (mSorted : mg "sorted" = none) (mEnum : mg "enumerate" = none)
    (gT : FnB P w K mg base "_law_take" ["box", "many"] 1 SpTake) (gP : FnB P w K mg base "_law_pick" ["box", "some"] 2 SpPick) (gS : FnB P w K mg base "_law_shuffled" ["box", "some"] 2 SpShuf) (gF : FnP P w K mg base "_law_followed" ["pairs"] 1 SpFoll) :
    FnB P w K mg base "_law_pairs" ["box", "many", "way"] 3 SpPairs := by
  refine fnB_by Fn scPairs hm hb (by decide) fun cdv A outer s H E ds Φ hr xo hX hS => ?_
  obtain ⟨m, way, rfl, h8, q⟩ := hS
  have hu : (cxOf CX0 P w K mg base ["box", "many", "way", "names", "found", "spot", "name", "later", "other", "pair"] "_law_pairs" (defScope sPairs) f cdv A outer s H E).nox.A.units + 65 < cLine := by have := xo.units; omega
  refine as_cons ?_
  refine as_parC xo hX (by ac_rfl) (by ac_rfl) ?_
  refine ae_callB gS hr ?_
  refine aa_one ?_
  refine ae_nm hX (by ac_rfl) ?_
  refine fz_bx rfl ?_
  refine aa_one ?_
  refine ae_listRg xo mList mRange ?_
  repeat infer_instance
  refine c_rg rfl (by omega) (by omega) ?_
  rw [Int.toNat_natCast, intsFrom0]
  repeat infer_instance
  refine ⟨0, [_], rfl, rfl, rfl, (names m).map .int, rfl, by rw [List.length_map, names_len]; omega, fun ys hys => ?_⟩
  obtain ⟨ns, rfl, hns⟩ : ∃ ns : List Int, ys = ns.map PyData.int ∧ ns.Perm (names m) := by
    have key : ∀ (ys : List D) (l : List Int), ys.Perm (l.map PyData.int) → ∃ ns : List Int, ys = ns.map PyData.int ∧ ns.Perm l := by
      intro ys
      induction ys with
      | nil => intro l h; have := h.length_eq; rw [List.length_map] at this; exact ⟨[], rfl, by rw [List.length_eq_zero_iff.mp this.symm]⟩
      | cons d ds ih =>
        intro l h
        obtain ⟨p, hp, e⟩ := List.mem_map.mp (h.mem_iff.mp List.mem_cons_self)
        have h1 : l.Perm (p :: l.erase p) := List.perm_cons_erase hp
        have h2 : (d :: ds).Perm (d :: (l.erase p).map PyData.int) := by
          have := h.trans (h1.map PyData.int)
          rwa [List.map_cons, e] at this
        obtain ⟨qs, h3, h4⟩ := ih _ (List.Perm.cons_inv h2)
        exact ⟨p :: qs, by rw [List.map_cons, e, h3], (h4.cons p).trans h1.symm⟩
    exact key ys _ hys
  have hnd : ns.Nodup := hns.nodup_iff.mpr (names_nodup m)
  have hlen : ns.length = m := by rw [hns.length_eq, names_len]
  have inN : ∀ {x : Int}, x ∈ ns → x ∈ names m := fun hx => hns.mem_iff.mp hx
  repeat infer_instance
  refine as_cons ?_
  refine as_for xo ?_
  refine ai_enum ?_ mEnum
  repeat infer_instance
  refine ⟨_, rfl, fun spot ρ => ∃ (l : List (Int × Int)) (t5 t6 t7 : Sl), ρ = [.ce .box, .va (.int m), .va (.int way), .va (.list (ns.map .int)), .ce (.lst (l.map pairAb)), t5, t6, t7, .no, .no] ∧ GP m way ns spot l, ⟨[], _, _, _, rfl, ⟨⟨hns, by simp, by simp⟩, List.nodup_nil, by simp⟩⟩, ?_, ?_⟩
  · rintro spot d ρ2 hd ⟨l, t5, t6, t7, rfl, g⟩
    have hsp : spot < ns.length := by
      have := (List.getElem?_eq_some_iff.mp hd).1
      rwa [enumD_len, List.length_map] at this
    obtain ⟨x, hx⟩ : ∃ x, ns[spot]? = some x := ⟨_, List.getElem?_eq_getElem hsp⟩
    have ed := enumD_get (ds := ns.map PyData.int) (i := spot) (d := .int x) (by rw [List.getElem?_map, hx]; rfl)
    rw [ed] at hd
    injection hd with hd
    subst hd
    have hxN : x ∈ names m := inN (List.mem_of_getElem? hx)
    have ix := idx_at hnd hx
    have gl := pairs_len g.fw g.nd h8
    refine ⟨_, ag_pair hX (by ac_rfl) (by ac_rfl) (by nofun) (by nofun) xo, ?_⟩
    refine as_cons ?_
    refine as_st xo hX (by ac_rfl) ?_
    refine ae_slice ?_
    repeat infer_instance
    refine apo_some ?_
    repeat infer_instance
    refine ⟨_, rfl, ?_⟩
    refine apo_none ?_
    refine ⟨_, rfl, ?_⟩
    rw [cut_from]
    repeat infer_instance
    generalize hLd : ns.drop (spot + 1) = L
    have L1 : ∀ o ∈ L, o ∈ names m ∧ spot < ns.idxOf o := fun o ho => by
      rw [← hLd] at ho
      exact ⟨inN ((List.drop_sublist _ _).mem ho), drop_idx hnd ho⟩
    have L2 : L.Nodup := by rw [← hLd]; exact hnd.sublist (List.drop_sublist _ _)
    have L3 : L.length ≤ 8 := by rw [← hLd, List.length_drop]; omega
    refine as_cons ?_
    refine as_cut (fun ρ => ∃ (l : List (Int × Int)) (t7 : Sl), ρ = [.ce .box, .va (.int m), .va (.int way), .va (.list (ns.map .int)), .ce (.lst (l.map pairAb)), .va (.int spot), .va (.int x), t7, .no, .no] ∧ (t7 = .ce (.lst (L.map .int)) ∨ t7 = .va (.list (L.map .int))) ∧ ((GP m way ns (spot + 1) l ∧ way ≤ 3) ∨ GP m way ns spot l)) ?_ ?_
    · refine as_if ?_
      refine at_bool ?_
      refine aw_and ?_
      refine at_chain op_le op_le ?_
      repeat infer_instance
      refine ⟨1, rfl, ?_⟩
      repeat infer_instance
      refine ⟨way, rfl, fun h1 => ?_, fun _ => ⟨(fun h => nomatch h), fun _ => ⟨(fun h => nomatch h), fun _ => as_nil ⟨l, _, rfl, .inl rfl, .inr g⟩⟩⟩⟩
      repeat infer_instance
      refine ⟨3, rfl, fun h3 => ?_, fun _ => ⟨(fun h => nomatch h), fun _ => as_nil ⟨l, _, rfl, .inl rfl, .inr g⟩⟩⟩
      refine aw_and ?_
      refine at_cmp (op_neD (by omega)) ok_neD rfl ?_
      repeat infer_instance
      refine ⟨_, ⟨.list (L.map .int), .list [], rfl, rfl, shaped_ints L, rfl, rfl⟩, fun hL => ?_, fun _ => ⟨(fun h => nomatch h), fun _ => as_nil ⟨l, _, rfl, .inl rfl, .inr g⟩⟩⟩
      rw [eqv_nil] at hL
      refine aw_and1 ?_
      refine at_gt ?_
      refine ae_callB gT (hr.mono (by decide)) ?_
      repeat infer_instance
      refine ⟨0, [_], rfl, rfl, rfl, 5, rfl, by decide, by decide, fun r r0 r1 => ?_⟩
      repeat infer_instance
      refine ⟨fun _ => ?_, fun _ => as_nil ⟨l, _, rfl, .inl rfl, .inr g⟩⟩
      refine as_cons ?_
      refine as_expr ?_
      refine ae_append 4 ?_ _
      refine ae_tup ?_
      repeat infer_instance
      refine ae_callB gP hr ?_
      repeat infer_instance
      have hLl : 1 ≤ L.length := by
        cases L with
        | nil => simp at hL
        | cons a b => simp
      refine ⟨0, [_], rfl, rfl, rfl, L.map .int, rfl, by rw [List.length_map]; exact hLl, by rw [List.length_map]; omega, fun y hy => ?_⟩
      obtain ⟨o, ho, rfl⟩ := List.mem_map.mp hy
      repeat infer_instance
      refine c_app .v rfl (by rw [List.length_map]; omega) (by nofun) ?_
      have w3 : way ≤ 3 := by simpa using h3
      refine as_nil ⟨l ++ [(x, o)], _, by rw [List.map_append]; rfl, .inr rfl, .inl ⟨g.add hx hnd (by simp) (fun p hp => ?_) (fun p hp => ?_), w3⟩⟩
      · rw [List.mem_singleton] at hp; subst hp
        unfold keyP
        rw [if_neg (by omega)]
      · rw [List.mem_singleton] at hp; subst hp
        exact ⟨⟨hxN, (L1 o ho).1⟩, by show ns.idxOf x < ns.idxOf o; rw [ix]; exact (L1 o ho).2⟩
    · rintro ρ' ⟨l, t7, rfl, h7, hg⟩
      have gl := pairs_len (hg.elim (fun z => z.1.fw) fun z => z.fw) (hg.elim (fun z => z.1.nd) fun z => z.nd) h8
      refine as_cons ?_
      refine as_cut (fun ρ => ∃ (l : List (Int × Int)) (t7 : Sl), ρ = [.ce .box, .va (.int m), .va (.int way), .va (.list (ns.map .int)), .ce (.lst (l.map pairAb)), .va (.int spot), .va (.int x), t7, .no, .no] ∧ ((GP m way ns (spot + 1) l ∧ way ≠ 7) ∨ GP m way ns spot l)) ?_ ?_
      · have keep : ((GP m way ns (spot + 1) l ∧ way ≠ 7) ∨ GP m way ns spot l) := hg.imp (fun z => ⟨z.1, by have := z.2; omega⟩) id
        refine as_if ?_
        refine at_chain op_le op_le ?_
        repeat infer_instance
        refine ⟨4, rfl, ?_⟩
        repeat infer_instance
        refine ⟨way, rfl, fun h1 => ?_, fun _ => ⟨(fun h => nomatch h), fun _ => as_nil ⟨l, _, rfl, keep⟩⟩⟩
        repeat infer_instance
        refine ⟨6, rfl, fun h6 => ?_, fun _ => as_nil ⟨l, _, rfl, keep⟩⟩
        have w4 : 4 ≤ way := by simpa using h1
        have w6 : way ≤ 6 := by simpa using h6
        have g : GP m way ns spot l := hg.resolve_left fun z => by have := z.2; omega
        refine as_cons ?_
        refine as_st xo hX (by ac_rfl) ?_
        refine ae_addL ?_
        refine ae_nm hX (by ac_rfl) ?_
        refine ae_lc (own := [("other", 8)]) xo ?_ (blk_of (sc := defScope sPairs) hX rfl (by decide +kernel))
        refine ai_list ?_
        have fz : ∀ u4 : Sl, Fz [.ce .box, .va (.int m), .va (.int way), .va (.list (ns.map .int)), u4, .va (.int spot), .va (.int x), t7, .no, .no] (.al 7) (.d (.list (L.map .int))) [.ce .box, .va (.int m), .va (.int way), .va (.list (ns.map .int)), u4, .va (.int spot), .va (.int x), .va (.list (L.map .int)), .no, .no] := fun u4 => by
          rcases h7 with rfl | rfl
          · exact .alc rfl (by nofun)
          · exact .alv rfl
        refine ae_nm hX (by ac_rfl) ?_ (by rcases h7 with rfl | rfl <;> rfl)
        refine ⟨_, _, fz _, ?_⟩
        refine ⟨fun i acc => ∃ S : List Int, acc = S.map (fun o => pairAb (x, o)) ∧ List.Sublist S (L.take i), _, .cons .nil (by nofun), by simp [notCe], ⟨[], rfl, List.nil_sublist _⟩, ?_, ?_⟩
        · rintro i d acc hd ⟨S, rfl, hS⟩
          obtain ⟨o, ho, rfl⟩ := get_map hd
          have hS2 : S.length ≤ 8 := Nat.le_trans (hS.trans (List.take_sublist _ _)).length_le L3
          have hS3 : List.Sublist S (L.take (i + 1)) := hS.trans (List.take_sublist_take_left (Nat.le_succ _))
          refine ⟨_, fun s H C cl fp => ag_nm hX (by ac_rfl) (by nofun) (xo.blk s H C cl fp), fun s H C cl fp => ats_one (at_lt ?_)⟩
          refine ae_callB gT (hr.mono (by decide)) ?_
          repeat infer_instance
          refine ⟨0, [_], rfl, rfl, rfl, 4, rfl, by decide, by decide, fun r r0 r1 => ?_⟩
          repeat infer_instance
          refine ⟨fun h => fun s H C cl fp => ?_, fun h => ⟨.cons .nil (by nofun), S, rfl, hS3⟩⟩
          repeat infer_instance
          refine ⟨.cons .nil (by nofun), by rw [List.length_map]; omega, S ++ [o], by rw [List.map_append]; rfl, ?_⟩
          rw [Ab.take_next ho]
          exact hS.append (List.Sublist.refl _)
        · rintro acc ⟨S, rfl, hS⟩
          have hS4 : List.Sublist S L := hS.trans (List.take_sublist _ _)
          have hS2 := hS4.length_le
          refine c_cat rfl rfl (by rw [List.length_map, List.length_map]; omega) ?_
          repeat infer_instance
          have e : l.map pairAb ++ S.map (fun o => pairAb (x, o)) = (l ++ S.map fun o => (x, o)).map pairAb := by rw [List.map_append, List.map_map]; rfl
          rw [e]
          repeat infer_instance
          refine as_nil ⟨l ++ S.map (fun o => (x, o)), _, rfl, .inl ⟨g.add hx hnd (nodup_on (fun a _ b _ e => congrArg Prod.snd e) (L2.sublist hS4)) (fun p hp => ?_) (fun p hp => ?_), by omega⟩⟩
          · obtain ⟨o, ho, rfl⟩ := List.mem_map.mp hp
            unfold keyP
            rw [if_neg (by omega)]
          · obtain ⟨o, ho, rfl⟩ := List.mem_map.mp hp
            have ho := hS4.mem ho
            exact ⟨⟨hxN, (L1 o ho).1⟩, by show ns.idxOf x < ns.idxOf o; rw [ix]; exact (L1 o ho).2⟩
      · rintro ρ' ⟨l, t7, rfl, hg⟩
        have up : GP m way ns (spot + 1) l := hg.elim (fun z => z.1) fun z => z.up
        have gl := pairs_len up.fw up.nd h8
        refine as_cons ?_
        refine as_if ?_
        refine at_bool ?_
        refine aw_and ?_
        refine at_eqI ?_
        repeat infer_instance
        refine ⟨fun h7 => ?_, fun _ => ⟨(fun h => nomatch h), fun _ => as_nil (as_nil ⟨l, _, _, _, rfl, up⟩)⟩⟩
        have w7 : way = 7 := by simpa using h7
        have g : GP m way ns spot l := hg.resolve_left fun z => z.2 w7
        refine aw_and ?_
        refine at_gt ?_
        repeat infer_instance
        refine ⟨fun h0 => ?_, fun _ => ⟨(fun h => nomatch h), fun _ => as_nil (as_nil ⟨l, _, _, _, rfl, up⟩)⟩⟩
        have s0 : 0 < spot := by have : (0 : Int) < spot := by simpa using h0
                                 omega
        refine aw_and1 ?_
        refine at_gt ?_
        refine ae_callB gT (hr.mono (by decide)) ?_
        repeat infer_instance
        refine ⟨0, [_], rfl, rfl, rfl, 5, rfl, by decide, by decide, fun r r0 r1 => ?_⟩
        repeat infer_instance
        refine ⟨fun _ => ?_, fun _ => as_nil (as_nil ⟨l, _, _, _, rfl, up⟩)⟩
        refine as_cons ?_
        refine as_expr ?_
        refine ae_append 4 ?_ _
        refine ae_tup ?_
        repeat infer_instance
        refine ae_callB gP hr ?_
        repeat infer_instance
        refine ae_slice ?_
        repeat infer_instance
        refine apo_none ?_
        refine apo_some ?_
        repeat infer_instance
        refine ⟨((1 + spot / 2 : Nat) : Int), by rw [show ((1 + spot / 2 : Nat) : Int) = 1 + (spot : Int) / 2 from by omega]; rfl, ?_⟩
        refine ⟨_, rfl, ?_⟩
        rw [cut_to ns _ (by omega)]
        repeat infer_instance
        refine ⟨0, [_], rfl, rfl, rfl, (ns.take (1 + spot / 2)).map .int, rfl, by rw [List.length_map, List.length_take]; omega, by rw [List.length_map, List.length_take]; omega, fun y hy => ?_⟩
        obtain ⟨o, ho, rfl⟩ := List.mem_map.mp hy
        repeat infer_instance
        refine c_app .v rfl (by rw [List.length_map]; omega) (by nofun) ?_
        have io := take_idx hnd ho
        refine as_nil (as_nil ⟨l ++ [(o, x)], _, _, _, by rw [List.map_append]; rfl, g.add hx hnd (by simp) (fun p hp => ?_) (fun p hp => ?_)⟩)
        · rw [List.mem_singleton] at hp; subst hp
          unfold keyP
          rw [if_pos w7]
        · rw [List.mem_singleton] at hp; subst hp
          exact ⟨⟨inN ((List.take_sublist _ _).mem ho), hxN⟩, by show ns.idxOf o < ns.idxOf x; rw [ix]; omega⟩
  · rintro ρ2 ⟨l, t5, t6, t7, rfl, g⟩
    have gl := pairs_len g.fw g.nd h8
    refine as_cons ?_
    refine as_cut (fun ρ => ∃ (l : List (Int × Int)) (t4 t5 t6 t7 : Sl), ρ = [.ce .box, .va (.int m), .va (.int way), .va (.list (ns.map .int)), t4, t5, t6, t7, .no, .no] ∧ (t4 = .ce (.lst (l.map pairAb)) ∨ t4 = .va (.list (l.map pairAb))) ∧ Fwd m l ns ∧ l.Nodup) ?_ ?_
    · refine as_if ?_
      refine at_eqI ?_
      refine ae_callB gT (hr.mono (by decide)) ?_
      repeat infer_instance
      refine ⟨0, [_], rfl, rfl, rfl, 3, rfl, by decide, by decide, fun r r0 r1 => ?_⟩
      repeat infer_instance
      refine ⟨fun _ => ?_, fun _ => as_nil ⟨l, _, _, _, _, rfl, .inl rfl, g.fw, g.nd⟩⟩
      refine as_cons ?_
      refine as_st xo hX (by ac_rfl) ?_
      refine ae_addL ?_
      refine ae_nm hX (by ac_rfl) ?_
      refine ae_lc (own := [("pair", 9)]) xo ?_ (blk_of (sc := defScope sPairs) hX rfl (by decide +kernel))
      refine ai_tup ?_
      refine ae_call gF (hr.mono (by decide)) ?_
      repeat infer_instance
      refine ⟨[_], rfl, rfl, m, l, ns, rfl, h8, g.fw, g.nd, fun qs hq nq => ?_⟩
      have lq := pairs_len hq nq h8
      refine ⟨_, _, .v, ?_⟩
      refine ⟨fun i acc => ∃ S : List (Int × Int), acc = S.map pairAb ∧ List.Sublist S (qs.take i) ∧ ∀ p ∈ S, p ∉ l, _, .cons .nil (by nofun), by simp [notCe], ⟨[], rfl, List.nil_sublist _, by simp⟩, ?_, ?_⟩
      · rintro i d acc hd ⟨S, rfl, hS, hn⟩
        obtain ⟨p, hp, rfl⟩ := get_map hd
        have hS2 : S.length ≤ 64 := Nat.le_trans (hS.trans (List.take_sublist _ _)).length_le lq
        have hS3 : List.Sublist S (qs.take (i + 1)) := hS.trans (List.take_sublist_take_left (Nat.le_succ _))
        refine ⟨_, fun s H C cl fp => ag_nm hX (by ac_rfl) (by nofun) (xo.blk s H C cl fp), fun s H C cl fp => ats_one ?_⟩
        refine at_bool ?_
        refine aw_and ?_
        refine at_cmp (op_notInD hu) ok_notInL rfl ?_
        repeat infer_instance
        refine ⟨_, ⟨pairAb p, l.map pairAb, rfl, rfl, rfl, shaped_pairs l, rfl⟩, ?_⟩
        rw [any_pair]
        refine ⟨fun h => ?_, fun _ => ⟨(fun h => nomatch h), fun _ => ⟨.cons .nil (by nofun), S, rfl, hS3, hn⟩⟩⟩
        refine aw_and1 ?_
        refine at_eqI ?_
        refine ae_callB gT (hr.mono (by decide)) ?_
        repeat infer_instance
        refine ⟨0, [_], rfl, rfl, rfl, 2, rfl, by decide, by decide, fun r r0 r1 => ?_⟩
        repeat infer_instance
        refine ⟨fun _ => fun s H C cl fp => ?_, fun _ => ⟨.cons .nil (by nofun), S, rfl, hS3, hn⟩⟩
        repeat infer_instance
        refine ⟨.cons .nil (by nofun), by rw [List.length_map]; omega, S ++ [p], by rw [List.map_append]; rfl, ?_, ?_⟩
        · rw [Ab.take_next hp]
          exact hS.append (List.Sublist.refl _)
        · intro z hz
          rcases List.mem_append.mp hz with hz | hz
          · exact hn z hz
          · rw [List.mem_singleton] at hz; subst hz
            simpa using h
      · rintro acc ⟨S, rfl, hS, hn⟩
        have hS4 : List.Sublist S qs := hS.trans (List.take_sublist _ _)
        have hS2 := hS4.length_le
        refine c_cat rfl rfl (by rw [List.length_map, List.length_map]; omega) ?_
        rw [← List.map_append]
        repeat infer_instance
        refine as_nil ⟨l ++ S, _, _, _, _, rfl, .inl rfl, ⟨hns, fun p hp => ?_, fun p hp => ?_⟩, ?_⟩
        · exact (List.mem_append.mp hp).elim (g.fw.ends p) fun z => hq.ends p (hS4.mem z)
        · exact (List.mem_append.mp hp).elim (g.fw.lt p) fun z => hq.lt p (hS4.mem z)
        · rw [List.nodup_append]
          exact ⟨g.nd, nq.sublist hS4, fun a ha b hb e => hn b hb (e ▸ ha)⟩
    · rintro ρ' ⟨l, t4, t5, t6, t7, rfl, h4, hf, hn⟩
      refine as_cons ?_
      refine as_ret ?_
      refine ae_t1 call_tuple_of ok_tupOf mTuple b_tuple ?_
      refine ae_b1L (cr_sortD xo.units) ok_sortD mSorted b_sorted ?_
      refine ae_nm hX (by ac_rfl) ?_ (by rcases h4 with rfl | rfl <;> rfl)
      refine c_sortD (by rcases h4 with rfl | rfl <;> rfl) (ds_pairs l) ?_
      obtain ⟨qs, pq, eq⟩ := srt_pairs l
      rw [eq]
      repeat infer_instance
      exact q qs ns (hf.perm' pq) (pq.nodup_iff.mpr hn)
end
end K69
namespace K69
open PySem PySem.Spec PyProof.Rows L2 Ab
local macro_rules | `(tactic| nofun) => `(tactic| first | exact SetAt.zero | exact SetAt.succ .zero | exact SetAt.succ (.succ .zero) | exact SetAt.succ (.succ (.succ .zero)) | exact SetAt.succ (.succ (.succ (.succ .zero))) | exact SetAt.succ (.succ (.succ (.succ (.succ .zero)))) | exact SetAt.succ (.succ (.succ (.succ (.succ (.succ .zero))))) | exact SetAt.succ (.succ (.succ (.succ (.succ (.succ (.succ .zero)))))) | exact SetAt.succ (.succ (.succ (.succ (.succ (.succ (.succ (.succ .zero))))))) | exact SetAt.succ (.succ (.succ (.succ (.succ (.succ (.succ (.succ (.succ .zero)))))))) | exact SetAt.succ (.succ (.succ (.succ (.succ (.succ (.succ (.succ (.succ (.succ .zero))))))))) | exact SetAt.succ (.succ (.succ (.succ (.succ (.succ (.succ (.succ (.succ (.succ (.succ .zero)))))))))) | exact SetAt.succ (.succ (.succ (.succ (.succ (.succ (.succ (.succ (.succ (.succ (.succ (.succ .zero))))))))))) | exact SetAt.succ (.succ (.succ (.succ (.succ (.succ (.succ (.succ (.succ (.succ (.succ (.succ (.succ .zero)))))))))))) | exact SetAt.succ (.succ (.succ (.succ (.succ (.succ (.succ (.succ (.succ (.succ (.succ (.succ (.succ (.succ .zero))))))))))))) | exact SetAt.succ (.succ (.succ (.succ (.succ (.succ (.succ (.succ (.succ (.succ (.succ (.succ (.succ (.succ (.succ .zero)))))))))))))) | exact SetAt.succ (.succ (.succ (.succ (.succ (.succ (.succ (.succ (.succ (.succ (.succ (.succ (.succ (.succ (.succ (.succ .zero))))))))))))))) | exact SetAt.succ (.succ (.succ (.succ (.succ (.succ (.succ (.succ (.succ (.succ (.succ (.succ (.succ (.succ (.succ (.succ (.succ .zero)))))))))))))))) | exact SetAt.succ (.succ (.succ (.succ (.succ (.succ (.succ (.succ (.succ (.succ (.succ (.succ (.succ (.succ (.succ (.succ (.succ (.succ .zero))))))))))))))))) | exact SetAt.succ (.succ (.succ (.succ (.succ (.succ (.succ (.succ (.succ (.succ (.succ (.succ (.succ (.succ (.succ (.succ (.succ (.succ (.succ .zero)))))))))))))))))) | exact SetAt.succ (.succ (.succ (.succ (.succ (.succ (.succ (.succ (.succ (.succ (.succ (.succ (.succ (.succ (.succ (.succ (.succ (.succ (.succ (.succ .zero))))))))))))))))))) | exact SetAt.succ (.succ (.succ (.succ (.succ (.succ (.succ (.succ (.succ (.succ (.succ (.succ (.succ (.succ (.succ (.succ (.succ (.succ (.succ (.succ (.succ .zero)))))))))))))))))))))
local macro_rules | `(tactic| ac_rfl) => `(tactic| with_reducible first | exact At.zero | exact At.succ .zero | exact At.succ (.succ .zero) | exact At.succ (.succ (.succ .zero)) | exact At.succ (.succ (.succ (.succ .zero))) | exact At.succ (.succ (.succ (.succ (.succ .zero)))) | exact At.succ (.succ (.succ (.succ (.succ (.succ .zero))))) | exact At.succ (.succ (.succ (.succ (.succ (.succ (.succ .zero)))))) | exact At.succ (.succ (.succ (.succ (.succ (.succ (.succ (.succ .zero))))))) | exact At.succ (.succ (.succ (.succ (.succ (.succ (.succ (.succ (.succ .zero)))))))) | exact At.succ (.succ (.succ (.succ (.succ (.succ (.succ (.succ (.succ (.succ .zero))))))))) | exact At.succ (.succ (.succ (.succ (.succ (.succ (.succ (.succ (.succ (.succ (.succ .zero)))))))))) | exact At.succ (.succ (.succ (.succ (.succ (.succ (.succ (.succ (.succ (.succ (.succ (.succ .zero))))))))))) | exact At.succ (.succ (.succ (.succ (.succ (.succ (.succ (.succ (.succ (.succ (.succ (.succ (.succ .zero)))))))))))) | exact At.succ (.succ (.succ (.succ (.succ (.succ (.succ (.succ (.succ (.succ (.succ (.succ (.succ (.succ .zero))))))))))))) | exact At.succ (.succ (.succ (.succ (.succ (.succ (.succ (.succ (.succ (.succ (.succ (.succ (.succ (.succ (.succ .zero)))))))))))))) | exact At.succ (.succ (.succ (.succ (.succ (.succ (.succ (.succ (.succ (.succ (.succ (.succ (.succ (.succ (.succ (.succ .zero))))))))))))))) | exact At.succ (.succ (.succ (.succ (.succ (.succ (.succ (.succ (.succ (.succ (.succ (.succ (.succ (.succ (.succ (.succ (.succ .zero)))))))))))))))) | exact At.succ (.succ (.succ (.succ (.succ (.succ (.succ (.succ (.succ (.succ (.succ (.succ (.succ (.succ (.succ (.succ (.succ (.succ .zero))))))))))))))))) | exact At.succ (.succ (.succ (.succ (.succ (.succ (.succ (.succ (.succ (.succ (.succ (.succ (.succ (.succ (.succ (.succ (.succ (.succ (.succ .zero)))))))))))))))))) | exact At.succ (.succ (.succ (.succ (.succ (.succ (.succ (.succ (.succ (.succ (.succ (.succ (.succ (.succ (.succ (.succ (.succ (.succ (.succ (.succ .zero))))))))))))))))))) | exact At.succ (.succ (.succ (.succ (.succ (.succ (.succ (.succ (.succ (.succ (.succ (.succ (.succ (.succ (.succ (.succ (.succ (.succ (.succ (.succ (.succ .zero)))))))))))))))))))))
local macro_rules | `(tactic| infer_instance) => `(tactic| first
  | (show AE _ _ _ _; first | refine ae_nm (by assumption) (by ac_rfl) ?_ | refine ae_int ?_ | refine ae_add ?_ | refine ae_ix ?_ | refine ae_sub ?_ | refine ae_pow ?_ | refine ae_mul ?_ | refine ae_mod ?_ | refine ae_fdv ?_ | refine ae_tup ?_ | refine ae_lst ?_ | refine ae_t1 call_int1 ok_int1 (by assumption) b_int ?_ | refine ae_b1 call_len_seq ok_len (by assumption) b_len ?_ | refine ae_b1 call_abs ok_abs (by assumption) b_abs ?_ | refine ae_t1L call_list_of ok_listOf (by assumption) b_list ?_ | refine ae_t1 call_tuple_of ok_tupOf (by assumption) b_tuple ?_ | refine ae_ifExp ?_ | refine ae_bl ?_ | refine ae_non ?_ | refine ae_neg ?_ | refine ae_and ?_ | refine ae_one ?_ | refine ae_or ?_ | refine ae_not ?_)
  | (show AS _ _ _ _ _; first | refine as_st (by assumption) (by assumption) (by ac_rfl) ?_ | refine as_if ?_ | refine as_ret ?_ | refine as_expr ?_ | refine as_par (by assumption) (by assumption) (by ac_rfl) (by ac_rfl) ?_ | refine as_pass ?_ | refine as_continue ?_ | refine as_break ?_)
  | (show AT _ _ _ _; first | refine at_gt ?_ | refine at_ge ?_ | refine at_lt ?_ | refine at_le ?_ | refine at_eqI ?_ | refine at_neI ?_ | refine at_not ?_)
  | (show AAs _ _ _ _; first | refine aa_one ?_ | refine aa_nil ?_)
  | (show ∃ d, cII _ _ _ _ ∧ _; first | refine c_ii rfl rfl ?_ | refine c_iib rfl rfl ?_)
  | (show ∃ d, cIx _ _ _ ∧ _; first | refine c_ix rfl rfl rfl ?_)
  | (show ∃ d, cIIc _ _ _ _ _ ∧ _; first | refine c_iic rfl rfl (by first | omega | exact ⟨by omega, by omega⟩ | (unfold CMul; omega) | (unfold CPow; decide)) ?_)
  | (show ∃ ρ', Puts _ _ _ ρ' ∧ _; first | refine puts_v (by nofun) ?_ | refine puts_c (by nofun) ?_ | refine puts_av rfl (by nofun) ?_ | refine puts_ac rfl (by nofun) (by nofun) ?_)
  | (show ∃ a ρ', Fz _ _ a ρ' ∧ _; first | refine fz_v ?_ | refine fz_av rfl ?_ | refine fz_c ?_ | refine fz_ac rfl (by nofun) ?_ | refine fz_bx rfl ?_)
  | (show ∃ a ρ', Rets _ _ a ρ' ∧ _; first | refine rets_v ?_ | refine rets_av rfl ?_ | refine rets_c ?_ | refine rets_ac rfl (by nofun) ?_)
  | (show ∃ ρ3 ρ4, SetAt _ _ (outSl _) ρ3 ∧ SetAt ρ3 _ (outSl _) ρ4 ∧ _; first | refine c_par (by nofun) (by nofun) ?_)
  | (show ∃ a ρ', Fz _ _ (.d a) ρ' ∧ _; first | refine fzd_v ?_ | refine fzd_av rfl ?_ | refine fzd_c ?_ | refine fzd_ac rfl (by nofun) ?_)
  | refine c_len rfl ?_
  | refine c_int1 rfl ?_
  | refine c_abs rfl ?_
  | refine c_items rfl ?_
  | refine c_tup rfl ?_
  | refine c_catT rfl rfl (by omega) ?_
  | refine c_cat rfl rfl (by omega) ?_
  | refine c_ds2 ?_
  | refine c_ds0 ?_
  | refine c_ds1 ?_
  | refine c_ds3 ?_
  | refine And.intro rfl ?_)
local macro_rules | `(tactic| rfl') => `(tactic| first | infer_instance | refine as_cons ?_ | refine as_nil ?_)

abbrev sLaw : Stmt := topS 17
section
variable {P : Program} {w : World} {K : PySem.W.Frag} {mg : Str → Option Value} {base : Heap}
theorem scLaw : FnScope ["script", "k", "box", "many", "way", "pairs", "due"] ["script"] (defScope sLaw) := ⟨rfl, rfl, rfl, by decide +kernel, rfl, by decide +kernel, by decide +kernel⟩
def SpLaw : Spc := fun ds Φ => ∃ ns : List Int, ds = [lockL (ns.map .int)] ∧ ns.length ≤ 63 ∧ Φ (.v (.bool true))
theorem same_rows (rs : List (List Int)) : Eqv 2 (.tuple (rs.map rowD)) (.tuple (rs.map plD)) := by
  refine .tup 1 (by simp) fun i x y hx hy => ?_
  obtain ⟨r, h1, rfl⟩ := get_map hx
  obtain ⟨r', h2, rfl⟩ := get_map hy
  rw [h1] at h2
  cases h2
  refine .plt 0 (by simp) fun j a b ha hb => ?_
  obtain ⟨n, h3, rfl⟩ := get_map ha
  obtain ⟨n', h4, rfl⟩ := get_map hb
  rw [h3] at h4
  cases h4
  exact .int 0 n
theorem ok_extF {f : Addr} {fd : FuncData} (Fn : Fun K "extensions" "extensions" sExt f fd) (mRange : mg "range" = none) (mTuple : mg "tuple" = none)
    (gM : FnP P w K mg base "may_follow" ["pairs", "row", "name"] 1 SpMay) : FnOk P w K mg base CX0 2 f fd ["many", "pairs"] (spP K 2 SpExt) := by
  refine fnOk_by Fn scExt (by decide) fun cdv A outer s H E ds Φ hr xo hX hS => ?_
  obtain ⟨m, ps, rfl, hm6, hz, q⟩ := hS
  repeat rfl'
  refine as_for xo ?_
  refine ai_range1 ?_ mRange
  repeat rfl'
  refine ⟨_, rfl, by constructor <;> omega, fun i ρ => ∃ t : Sl, ρ = [.va (.int m), .va (prsD ps), .ce (.lst ((extR m ps i).map rowD)), t, .no, .no], ⟨_, rfl⟩, ?_, ?_⟩
  · rintro i d ρ2 hd ⟨t, rfl⟩
    have hi : i < m := by
      have := (List.getElem?_eq_some_iff.mp hd).1
      rw [intsFrom_len] at this
      omega
    refine ⟨_, ag_nm hX (by ac_rfl) (by nofun) xo, ?_⟩
    repeat rfl'
    refine as_stF2 (own := [("row", 4), ("name", 5)]) (vs1 := [5]) (List Int) Int xo hX (by ac_rfl) ?_ (blk_of (sc := defScope sExt) hX rfl (by decide +kernel)) (by decide)
    refine ai_list ?_
    repeat rfl'
    refine ⟨_, _, .alc rfl (by nofun), ?_⟩
    refine ⟨extR m ps i, rowD, _, fun _ => names m, fun _ x => .int x, fun r x => mayF ps r x, fun r x => rowD (r ++ [x]), rfl, .cons (.cons .nil (by nofun)) (by nofun), by simp [notCe], ?_, ?_, ?_⟩
    · have h1 := (extR_len (m := m) (ps := ps) i).2
      have h2 : m ^ (i + 1) ≤ 6 ^ 6 := Nat.le_trans (Nat.pow_le_pow_left hm6 _) (Nat.pow_le_pow_right (by decide) (by omega))
      have h3 : (6 : Nat) ^ 6 = 46656 := by decide
      show ((extR m ps i).flatMap fun _ => names m).length < 1000000
      omega
    · intro r hr'
      refine ⟨_, fun s H C cl fp => ag_nm hX (by ac_rfl) (by nofun) (xo.blk s H C cl fp), fun s H C cl fp => ai_range1 ?_ mRange⟩
      repeat rfl'
      refine ⟨m, rfl, by constructor <;> omega, by rw [Int.toNat_natCast]; exact intsFrom0 m, _, .cons .nil (by nofun), ?_, .cons (.cons .nil (by nofun)) (by nofun)⟩
      intro x hx
      refine ⟨_, fun s H C cl fp => ag_nm hX (by ac_rfl) (by nofun) (xo.blk s H C cl fp), fun s H C cl fp => ats_one (at_val ?_)⟩
      refine ae_call gM hr ?_
      repeat rfl'
      refine ⟨[_, _, _], rfl, rfl, ps, r, x, rfl, hz, ?_⟩
      refine ⟨_, rfl, fun h => ⟨h, fun s H C cl fp => ?_⟩, fun h => ⟨h, .cons .nil (by nofun)⟩⟩
      refine ae_addT ?_
      repeat rfl'
      have hl := extR_row i r hr'
      refine c_catT rfl rfl (by simp only [List.length_map, List.length_cons, List.length_nil]; omega) ?_
      exact ⟨_, fz_eq (by simp [rowD]), .cons .nil (by nofun)⟩
    · repeat rfl'
      exact ⟨_, congrArg (fun z => [_, _, Sl.ce (.lst z), _, _, _]) (extR_next m ps i)⟩
  · rintro ρ2 ⟨t, rfl⟩
    rw [intsFrom_len]
    repeat rfl'
    exact q
theorem ok_lawF {f : Addr} {fd : FuncData} (Fn : Fun K "law" "law" sLaw f fd) (mRange : mg "range" = none) (mTuple : mg "tuple" = none) (mMax : mg "max" = none) (mMin : mg "min" = none) (mLen : mg "len" = none)
    (gBox : FnP P w K mg base "_law_box" ["script", "k"] 1 SpBox) (gT : FnB P w K mg base "_law_take" ["box", "many"] 1 SpTake) (gP : FnB P w K mg base "_law_pick" ["box", "some"] 2 SpPick) (gPr : FnB P w K mg base "_law_pairs" ["box", "many", "way"] 3 SpPairs)
    (gK : FnP P w K mg base "_law_kept" ["many", "pairs"] 2 SpKept) (gS : FnP P w K mg base "_law_same" ["told", "due"] 3 (SpSame 2)) (gE : FnP P w K mg base "extensions" ["many", "pairs"] 2 SpExt) (gC : FnP P w K mg base "closed_pairs" ["many", "pairs"] 1 SpClos) (gM : FnP P w K mg base "extensions_many" ["many", "pairs"] 3 SpExtM)
    {fe : Addr} {fde : FuncData} (FnE : FnOk P w K mg base CX0 2 fe fde ["many", "pairs"] (spP K 2 SpExt)) (hmE : mg "extensions" = some (.ref fe)) (hkE : PySem.W.keepIn K (.ref fe) = true) (hbE : L2.KBn K fde ["many", "pairs"] 0 ["many", "pairs"] (fun _ ws => ws) (fun _ zs => zs)) :
    FnOk P w K mg base CX0 4 f fd ["script"] (spP K 1 SpLaw) := by
  refine fnOk_by Fn scLaw (by decide) fun cdv A outer s H E ds Φ hr xo hX hS => ?_
  obtain ⟨ns, rfl, h63, q⟩ := hS
  refine as_cons ?_
  refine as_for xo ?_
  refine ai_range1 ?_ mRange
  refine aa_one ?_
  refine ae_max2 xo mMax ?_
  repeat infer_instance
  refine ae_min2 xo mMin ?_
  repeat infer_instance
  rw [show ((ns.map PyData.int).length : Int) = ns.length from by rw [List.length_map]]
  refine ⟨_, rfl, ?_, fun i ρ => ∃ t1 t2 t3 t4 t5 t6 : Sl, ρ = [.va (lockL (ns.map .int)), t1, t2, t3, t4, t5, t6], ⟨_, _, _, _, _, _, rfl⟩, ?_, ?_⟩
  · constructor <;> (split <;> split <;> omega)
  · rintro i d ρ2 hd ⟨t1, t2, t3, t4, t5, t6, rfl⟩
    have hi := (List.getElem?_eq_some_iff.mp hd).1
    rw [intsFrom_len] at hi
    have hi8 : i < 8 := by
      have : (if (if (6 : Int) < ns.length then (6 : Int) else ns.length) > 3 then (if (6 : Int) < ns.length then (6 : Int) else ns.length) else (3 : Int)) ≤ 6 := by split <;> (try split) <;> omega
      omega
    rw [intsFrom_get (by omega)] at hd
    injection hd with hd
    subst hd
    rw [show (0 : Int) + (i : Int) = (i : Int) from by omega]
    refine ⟨_, ag_nm hX (by ac_rfl) (by nofun) xo, ?_⟩
    refine as_cons ?_
    refine as_st xo hX (by ac_rfl) ?_
    refine ae_call gBox (hr.mono (by decide)) ?_
    repeat infer_instance
    refine ⟨[_, _], rfl, rfl, ns, i, rfl, by omega, ?_⟩
    repeat infer_instance
    refine as_cons ?_
    refine as_par xo hX (by ac_rfl) (by ac_rfl) ?_
    repeat infer_instance
    refine ae_callB gT (hr.mono (by decide)) ?_
    repeat infer_instance
    refine ⟨2, [_], rfl, rfl, rfl, 5, rfl, by decide, by decide, fun r r0 r1 => ?_⟩
    repeat infer_instance
    refine ae_callB gT (hr.mono (by decide)) ?_
    repeat infer_instance
    refine ⟨2, [_], rfl, rfl, rfl, 8, rfl, by decide, by decide, fun way w0 w1 => ?_⟩
    repeat infer_instance
    refine as_cons ?_
    refine as_cut (fun ρ => ∃ m : Nat, 1 ≤ m ∧ m ≤ 6 ∧ ρ = [.va (lockL (ns.map .int)), .va (.int i), .ce .box, .va (.int m), .va (.int way), t5, t6]) ?_ ?_
    · refine as_if ?_
      refine at_eqI ?_
      repeat infer_instance
      refine ⟨fun _ => ?_, fun _ => ?_⟩
      · refine as_cons ?_
        refine as_st xo hX (by ac_rfl) ?_
        refine ae_callB gP (hr.mono (by decide)) ?_
        repeat infer_instance
        refine ⟨2, [_], rfl, rfl, rfl, [.int 4, .int 5, .int 6], rfl, by decide, by decide, fun y hy => ?_⟩
        have : ∃ m : Nat, 1 ≤ m ∧ m ≤ 6 ∧ y = .int m := by
          simp only [List.mem_cons, List.not_mem_nil, or_false] at hy
          rcases hy with rfl | rfl | rfl
          · exact ⟨4, by decide, by decide, rfl⟩
          · exact ⟨5, by decide, by decide, rfl⟩
          · exact ⟨6, by decide, by decide, rfl⟩
        obtain ⟨m, m1, m6, rfl⟩ := this
        repeat infer_instance
        exact as_nil ⟨m, m1, m6, rfl⟩
      · exact as_nil ⟨(1 + r).toNat, by omega, by omega, by rw [show (((1 + r).toNat : Nat) : Int) = 1 + r from by omega]; rfl⟩
    · rintro ρ' ⟨m, m1, m6, rfl⟩
      refine as_cons ?_
      refine as_st xo hX (by ac_rfl) ?_
      refine ae_callB gPr hr ?_
      repeat infer_instance
      refine ⟨2, [_, _], rfl, rfl, rfl, m, way, rfl, by omega, fun ps ord hf hn => ?_⟩
      have pl := pairs_len hf hn (by omega)
      have hin : ∀ r ∈ ordR m m, ∀ p ∈ ps, p.1 ∈ r ∧ p.2 ∈ r := fun r hr' p hp => by
        obtain ⟨h1, h2, h3⟩ := ordR_row m r hr'
        exact ⟨full_mem h1 h2 h3 (hf.ends p hp).1, full_mem h1 h2 h3 (hf.ends p hp).2⟩
      repeat infer_instance
      refine as_cons ?_
      refine as_st xo hX (by ac_rfl) ?_
      refine ae_t1 call_tuple_of ok_tupOf mTuple b_tuple ?_
      refine ae_call gK (hr.mono (by decide)) ?_
      repeat infer_instance
      refine ⟨[_, _], rfl, rfl, m, ps, rfl, m6, hin, ?_⟩
      refine c_tup rfl ?_
      have ne := kept_ne hf
      have ek := ext_kept hf
      repeat infer_instance
      refine as_cons ?_
      refine as_if ?_
      refine at_bool ?_
      refine aw_or ?_
      refine at_eqPl xo ?_
      repeat infer_instance
      refine ⟨_, ⟨_, rfl, rfl, rfl⟩, fun _ => ?_, fun h => absurd (of_decide_eq_true h) ne⟩
      refine aw_or1 ?_
      refine at_not ?_
      refine at_val ?_
      refine ae_call gS (hr.mono (by decide)) ?_
      refine aa_one ?_
      refine ae_callKw FnE hmE hkE hbE rfl (hr.mono (by decide)) ?_
      repeat infer_instance
      refine ⟨_, _, rfl, rfl, m, ps, rfl, m6, by omega, ?_⟩
      rw [ek]
      repeat infer_instance
      refine ⟨[_, _], rfl, rfl, _, _, rfl, same_rows _, ?_⟩
      refine ⟨_, rfl, (fun h => nomatch h), fun _ => ?_⟩
      refine as_nil ?_
      refine as_cons ?_
      refine as_if ?_
      refine at_not ?_
      refine at_val ?_
      refine ae_call gS (hr.mono (by decide)) ?_
      refine aa_one ?_
      refine ae_call gE (hr.mono (by decide)) ?_
      repeat infer_instance
      refine ae_call gC (hr.mono (by decide)) ?_
      repeat infer_instance
      refine ⟨[_, _], rfl, rfl, m, ps, rfl, by omega, by omega, fun qs q1 q2 q3 => ?_⟩
      repeat infer_instance
      refine ⟨[_, _], rfl, rfl, m, qs, rfl, m6, by omega, ?_⟩
      rw [ext_kept (hf.tr q2), kept_tr hf q1 q2]
      repeat infer_instance
      refine ⟨[_, _], rfl, rfl, _, _, rfl, same_rows _, ?_⟩
      refine ⟨_, rfl, (fun h => nomatch h), fun _ => ?_⟩
      refine as_nil ?_
      refine as_cons ?_
      refine as_if ?_
      refine at_not ?_
      refine at_val ?_
      refine ae_call gS (hr.mono (by decide)) ?_
      refine aa_one ?_
      refine ae_call gM hr ?_
      repeat infer_instance
      refine ⟨[_, _], rfl, rfl, m, ps, ord, rfl, m6, by omega, hf, ?_⟩
      repeat infer_instance
      refine ⟨[_, _], rfl, rfl, _, _, rfl, by rw [List.length_map, ek]; exact .int 2 _, ?_⟩
      refine ⟨_, rfl, (fun h => nomatch h), fun _ => ?_⟩
      exact as_nil (as_nil ⟨_, _, _, _, _, _, rfl⟩)
  · rintro ρ2 ⟨t1, t2, t3, t4, t5, t6, rfl⟩
    repeat rfl'
    exact q
end
end K69
namespace K69
open PySem PySem.Spec PyProof.Rows L2 Ab
theorem all_mk {l : PySem.W.OpenLaw} {w : World} {K : PySem.W.Frag} {h : Heap} {mg : Str → Option Value} {fa f1 f2 f3 f4 f5 f7 f8 f9 f10 f11 f12 f13 f14 f15 f16 f17 : Addr} (X : K.In h) (G : h.Ns mainGlobals mg) (hfa : mg "law" = some (.ref fa))
    {od1 an1 od2 an2 od3 an3 od4 an4 od5 an5 od7 an7 od8 an8 od9 an9 od10 an10 od11 an11 od12 an12 od13 an13 od14 an14 od15 an15 od16 an16 od17 an17 : Option Addr} {sl1 sl2 sl3 sl4 sl5 sl7 sl8 sl9 sl10 sl11 sl12 sl13 sl14 sl15 sl16 sl17 : Array (Option Value)} {oc1 kV1 dc1 pm1 cd1 ct1 oc2 kV2 dc2 pm2 cd2 ct2 oc3 kV3 dc3 pm3 cd3 ct3 oc4 kV4 dc4 pm4 cd4 ct4 oc5 kV5 dc5 pm5 cd5 ct5 oc7 kV7 dc7 pm7 cd7 ct7 oc8 kV8 dc8 pm8 cd8 ct8 oc9 kV9 dc9 pm9 cd9 ct9 oc10 kV10 dc10 pm10 cd10 ct10 oc11 kV11 dc11 pm11 cd11 ct11 oc12 kV12 dc12 pm12 cd12 ct12 oc13 kV13 dc13 pm13 cd13 ct13 oc14 kV14 dc14 pm14 cd14 ct14 oc15 kV15 dc15 pm15 cd15 ct15 oc16 kV16 dc16 pm16 cd16 ct16 oc17 kV17 dc17 pm17 cd17 ct17 : Value}
    (a1 : PySem.W.nsIn K mainGlobals "closed_pairs" = some (some (.ref f1))) (l1 : K.lookup f1 = some ⟨oc1, od1, .func (PySem.W.fnOf "closed_pairs" "closed_pairs" (defArgs (topS 1)) (defBody (topS 1)) (defScope (topS 1)) .none kV1 dc1 pm1 an1 cd1 ct1), sl1⟩) (c1 : PySem.W.codeIn K cd1 "closed_pairs" = true) (k1 : PySem.W.keepIn K (.ref f1) = true)
    (a2 : PySem.W.nsIn K mainGlobals "may_follow" = some (some (.ref f2))) (l2 : K.lookup f2 = some ⟨oc2, od2, .func (PySem.W.fnOf "may_follow" "may_follow" (defArgs (topS 2)) (defBody (topS 2)) (defScope (topS 2)) .none kV2 dc2 pm2 an2 cd2 ct2), sl2⟩) (c2 : PySem.W.codeIn K cd2 "may_follow" = true) (k2 : PySem.W.keepIn K (.ref f2) = true)
    (a3 : PySem.W.nsIn K mainGlobals "extensions" = some (some (.ref f3))) (l3 : K.lookup f3 = some ⟨oc3, od3, .func (PySem.W.fnOf "extensions" "extensions" (defArgs (topS 3)) (defBody (topS 3)) (defScope (topS 3)) .none kV3 dc3 pm3 an3 cd3 ct3), sl3⟩) (c3 : PySem.W.codeIn K cd3 "extensions" = true) (k3 : PySem.W.keepIn K (.ref f3) = true)
    (a4 : PySem.W.nsIn K mainGlobals "begun_many" = some (some (.ref f4))) (l4 : K.lookup f4 = some ⟨oc4, od4, .func (PySem.W.fnOf "begun_many" "begun_many" (defArgs (topS 4)) (defBody (topS 4)) (defScope (topS 4)) .none kV4 dc4 pm4 an4 cd4 ct4), sl4⟩) (c4 : PySem.W.codeIn K cd4 "begun_many" = true) (k4 : PySem.W.keepIn K (.ref f4) = true)
    (a5 : PySem.W.nsIn K mainGlobals "extensions_many" = some (some (.ref f5))) (l5 : K.lookup f5 = some ⟨oc5, od5, .func (PySem.W.fnOf "extensions_many" "extensions_many" (defArgs (topS 5)) (defBody (topS 5)) (defScope (topS 5)) .none kV5 dc5 pm5 an5 cd5 ct5), sl5⟩) (c5 : PySem.W.codeIn K cd5 "extensions_many" = true) (k5 : PySem.W.keepIn K (.ref f5) = true)
    (a7 : PySem.W.nsIn K mainGlobals "_law_box" = some (some (.ref f7))) (l7 : K.lookup f7 = some ⟨oc7, od7, .func (PySem.W.fnOf "_law_box" "_law_box" (defArgs (topS 7)) (defBody (topS 7)) (defScope (topS 7)) .none kV7 dc7 pm7 an7 cd7 ct7), sl7⟩) (c7 : PySem.W.codeIn K cd7 "_law_box" = true) (k7 : PySem.W.keepIn K (.ref f7) = true)
    (a8 : PySem.W.nsIn K mainGlobals "_law_take" = some (some (.ref f8))) (l8 : K.lookup f8 = some ⟨oc8, od8, .func (PySem.W.fnOf "_law_take" "_law_take" (defArgs (topS 8)) (defBody (topS 8)) (defScope (topS 8)) .none kV8 dc8 pm8 an8 cd8 ct8), sl8⟩) (c8 : PySem.W.codeIn K cd8 "_law_take" = true) (k8 : PySem.W.keepIn K (.ref f8) = true)
    (a9 : PySem.W.nsIn K mainGlobals "_law_pick" = some (some (.ref f9))) (l9 : K.lookup f9 = some ⟨oc9, od9, .func (PySem.W.fnOf "_law_pick" "_law_pick" (defArgs (topS 9)) (defBody (topS 9)) (defScope (topS 9)) .none kV9 dc9 pm9 an9 cd9 ct9), sl9⟩) (c9 : PySem.W.codeIn K cd9 "_law_pick" = true) (k9 : PySem.W.keepIn K (.ref f9) = true)
    (a10 : PySem.W.nsIn K mainGlobals "_law_shuffled" = some (some (.ref f10))) (l10 : K.lookup f10 = some ⟨oc10, od10, .func (PySem.W.fnOf "_law_shuffled" "_law_shuffled" (defArgs (topS 10)) (defBody (topS 10)) (defScope (topS 10)) .none kV10 dc10 pm10 an10 cd10 ct10), sl10⟩) (c10 : PySem.W.codeIn K cd10 "_law_shuffled" = true) (k10 : PySem.W.keepIn K (.ref f10) = true)
    (a11 : PySem.W.nsIn K mainGlobals "_law_same" = some (some (.ref f11))) (l11 : K.lookup f11 = some ⟨oc11, od11, .func (PySem.W.fnOf "_law_same" "_law_same" (defArgs (topS 11)) (defBody (topS 11)) (defScope (topS 11)) .none kV11 dc11 pm11 an11 cd11 ct11), sl11⟩) (c11 : PySem.W.codeIn K cd11 "_law_same" = true) (k11 : PySem.W.keepIn K (.ref f11) = true)
    (a12 : PySem.W.nsIn K mainGlobals "_law_followed" = some (some (.ref f12))) (l12 : K.lookup f12 = some ⟨oc12, od12, .func (PySem.W.fnOf "_law_followed" "_law_followed" (defArgs (topS 12)) (defBody (topS 12)) (defScope (topS 12)) .none kV12 dc12 pm12 an12 cd12 ct12), sl12⟩) (c12 : PySem.W.codeIn K cd12 "_law_followed" = true) (k12 : PySem.W.keepIn K (.ref f12) = true)
    (a13 : PySem.W.nsIn K mainGlobals "_law_pairs" = some (some (.ref f13))) (l13 : K.lookup f13 = some ⟨oc13, od13, .func (PySem.W.fnOf "_law_pairs" "_law_pairs" (defArgs (topS 13)) (defBody (topS 13)) (defScope (topS 13)) .none kV13 dc13 pm13 an13 cd13 ct13), sl13⟩) (c13 : PySem.W.codeIn K cd13 "_law_pairs" = true) (k13 : PySem.W.keepIn K (.ref f13) = true)
    (a14 : PySem.W.nsIn K mainGlobals "_law_orders" = some (some (.ref f14))) (l14 : K.lookup f14 = some ⟨oc14, od14, .func (PySem.W.fnOf "_law_orders" "_law_orders" (defArgs (topS 14)) (defBody (topS 14)) (defScope (topS 14)) .none kV14 dc14 pm14 an14 cd14 ct14), sl14⟩) (c14 : PySem.W.codeIn K cd14 "_law_orders" = true) (k14 : PySem.W.keepIn K (.ref f14) = true)
    (a15 : PySem.W.nsIn K mainGlobals "_law_keeps" = some (some (.ref f15))) (l15 : K.lookup f15 = some ⟨oc15, od15, .func (PySem.W.fnOf "_law_keeps" "_law_keeps" (defArgs (topS 15)) (defBody (topS 15)) (defScope (topS 15)) .none kV15 dc15 pm15 an15 cd15 ct15), sl15⟩) (c15 : PySem.W.codeIn K cd15 "_law_keeps" = true) (k15 : PySem.W.keepIn K (.ref f15) = true)
    (a16 : PySem.W.nsIn K mainGlobals "_law_kept" = some (some (.ref f16))) (l16 : K.lookup f16 = some ⟨oc16, od16, .func (PySem.W.fnOf "_law_kept" "_law_kept" (defArgs (topS 16)) (defBody (topS 16)) (defScope (topS 16)) .none kV16 dc16 pm16 an16 cd16 ct16), sl16⟩) (c16 : PySem.W.codeIn K cd16 "_law_kept" = true) (k16 : PySem.W.keepIn K (.ref f16) = true)
    (a17 : PySem.W.nsIn K mainGlobals "law" = some (some (.ref f17))) (l17 : K.lookup f17 = some ⟨oc17, od17, .func (PySem.W.fnOf "law" "law" (defArgs (topS 17)) (defBody (topS 17)) (defScope (topS 17)) .none kV17 dc17 pm17 an17 cd17 ct17), sl17⟩) (c17 : PySem.W.codeIn K cd17 "law" = true) (k17 : PySem.W.keepIn K (.ref f17) = true)
    (z0 : PySem.W.nsIn K mainGlobals "len" = some none)
    (z1 : PySem.W.nsIn K mainGlobals "abs" = some none)
    (z2 : PySem.W.nsIn K mainGlobals "int" = some none)
    (z3 : PySem.W.nsIn K mainGlobals "list" = some none)
    (z4 : PySem.W.nsIn K mainGlobals "range" = some none)
    (z5 : PySem.W.nsIn K mainGlobals "all" = some none)
    (z6 : PySem.W.nsIn K mainGlobals "tuple" = some none)
    (z7 : PySem.W.nsIn K mainGlobals "sorted" = some none)
    (z8 : PySem.W.nsIn K mainGlobals "set" = some none)
    (z9 : PySem.W.nsIn K mainGlobals "isinstance" = some none)
    (z10 : PySem.W.nsIn K mainGlobals "zip" = some none)
    (z11 : PySem.W.nsIn K mainGlobals "bool" = some none)
    (z12 : PySem.W.nsIn K mainGlobals "enumerate" = some none)
    (z13 : PySem.W.nsIn K mainGlobals "max" = some none)
    (z14 : PySem.W.nsIn K mainGlobals "min" = some none)
    : ∃ fd : FuncData, (∀ (s : Shared) (v : Value), BindsTo s fd ⟨[v], []⟩ [("script", v)]) ∧ ∀ base : Heap, K.In base → base.Ns mainGlobals mg → FnOk l.prog w K mg base CX0 4 fa fd ["script"] (spP K 1 SpLaw) := by
  have e := hfa.symm.trans (PySem.W.mg_of X G a17)
  cases e
  have F1 := fun_mk (st := topS 1) l1 c1 k1
  have m1 := PySem.W.mg_of X G a1
  have b1 := F1.binds (ps := ["many", "pairs"]) fun _ _ _ _ _ _ us hl => match us, hl with | [_, _], _ => rfl
  have F2 := fun_mk (st := topS 2) l2 c2 k2
  have m2 := PySem.W.mg_of X G a2
  have b2 := F2.binds (ps := ["pairs", "row", "name"]) fun _ _ _ _ _ _ us hl => match us, hl with | [_, _, _], _ => rfl
  have F3 := fun_mk (st := topS 3) l3 c3 k3
  have m3 := PySem.W.mg_of X G a3
  have b3 := F3.binds (ps := ["many", "pairs"]) fun _ _ _ _ _ _ us hl => match us, hl with | [_, _], _ => rfl
  have F4 := fun_mk (st := topS 4) l4 c4 k4
  have m4 := PySem.W.mg_of X G a4
  have b4 := F4.binds (ps := ["many", "pairs"]) fun _ _ _ _ _ _ us hl => match us, hl with | [_, _], _ => rfl
  have F5 := fun_mk (st := topS 5) l5 c5 k5
  have m5 := PySem.W.mg_of X G a5
  have b5 := F5.binds (ps := ["many", "pairs"]) fun _ _ _ _ _ _ us hl => match us, hl with | [_, _], _ => rfl
  have F7 := fun_mk (st := topS 7) l7 c7 k7
  have m7 := PySem.W.mg_of X G a7
  have b7 := F7.binds (ps := ["script", "k"]) fun _ _ _ _ _ _ us hl => match us, hl with | [_, _], _ => rfl
  have F8 := fun_mk (st := topS 8) l8 c8 k8
  have m8 := PySem.W.mg_of X G a8
  have b8 := F8.binds (ps := ["box", "many"]) fun _ _ _ _ _ _ us hl => match us, hl with | [_, _], _ => rfl
  have F9 := fun_mk (st := topS 9) l9 c9 k9
  have m9 := PySem.W.mg_of X G a9
  have b9 := F9.binds (ps := ["box", "some"]) fun _ _ _ _ _ _ us hl => match us, hl with | [_, _], _ => rfl
  have F10 := fun_mk (st := topS 10) l10 c10 k10
  have m10 := PySem.W.mg_of X G a10
  have b10 := F10.binds (ps := ["box", "some"]) fun _ _ _ _ _ _ us hl => match us, hl with | [_, _], _ => rfl
  have F11 := fun_mk (st := topS 11) l11 c11 k11
  have m11 := PySem.W.mg_of X G a11
  have b11 := F11.binds (ps := ["told", "due"]) fun _ _ _ _ _ _ us hl => match us, hl with | [_, _], _ => rfl
  have F12 := fun_mk (st := topS 12) l12 c12 k12
  have m12 := PySem.W.mg_of X G a12
  have b12 := F12.binds (ps := ["pairs"]) fun _ _ _ _ _ _ us hl => match us, hl with | [_], _ => rfl
  have F13 := fun_mk (st := topS 13) l13 c13 k13
  have m13 := PySem.W.mg_of X G a13
  have b13 := F13.binds (ps := ["box", "many", "way"]) fun _ _ _ _ _ _ us hl => match us, hl with | [_, _, _], _ => rfl
  have F14 := fun_mk (st := topS 14) l14 c14 k14
  have m14 := PySem.W.mg_of X G a14
  have b14 := F14.binds (ps := ["many"]) fun _ _ _ _ _ _ us hl => match us, hl with | [_], _ => rfl
  have F15 := fun_mk (st := topS 15) l15 c15 k15
  have m15 := PySem.W.mg_of X G a15
  have b15 := F15.binds (ps := ["order", "pairs"]) fun _ _ _ _ _ _ us hl => match us, hl with | [_, _], _ => rfl
  have F16 := fun_mk (st := topS 16) l16 c16 k16
  have m16 := PySem.W.mg_of X G a16
  have b16 := F16.binds (ps := ["many", "pairs"]) fun _ _ _ _ _ _ us hl => match us, hl with | [_, _], _ => rfl
  have F17 := fun_mk (st := topS 17) l17 c17 k17
  have m17 := PySem.W.mg_of X G a17
  have b17 := F17.binds (ps := ["script"]) fun _ _ _ _ _ _ us hl => match us, hl with | [_], _ => rfl
  have n_len := PySem.W.mg_none_of X G z0
  have n_abs := PySem.W.mg_none_of X G z1
  have n_int := PySem.W.mg_none_of X G z2
  have n_list := PySem.W.mg_none_of X G z3
  have n_range := PySem.W.mg_none_of X G z4
  have n_all := PySem.W.mg_none_of X G z5
  have n_tuple := PySem.W.mg_none_of X G z6
  have n_sorted := PySem.W.mg_none_of X G z7
  have n_set := PySem.W.mg_none_of X G z8
  have n_isinstance := PySem.W.mg_none_of X G z9
  have n_zip := PySem.W.mg_none_of X G z10
  have n_bool := PySem.W.mg_none_of X G z11
  have n_enumerate := PySem.W.mg_none_of X G z12
  have n_max := PySem.W.mg_none_of X G z13
  have n_min := PySem.W.mg_none_of X G z14
  have kb := kbn_of (ps := ["many", "pairs"]) F3 fun _ _ _ _ _ _ ws hl => match ws, hl with | [_, _], _ => rfl
  refine ⟨PySem.W.fnOf "law" "law" (defArgs (topS 17)) (defBody (topS 17)) (defScope (topS 17)) .none kV17 dc17 pm17 an17 cd17 ct17, fun s v => .of_eq rfl, fun base _ _ => ?_⟩
  have gT : FnB l.prog w K mg base "_law_take" ["box", "many"] 1 SpTake := ok_take F8 m8 b8 n_int
  have gP : FnB l.prog w K mg base "_law_pick" ["box", "some"] 2 SpPick := ok_pick F9 m9 b9 n_len gT
  have gSh : FnB l.prog w K mg base "_law_shuffled" ["box", "some"] 2 SpShuf := ok_shuf F10 m10 b10 n_len n_list n_range gT
  have gBx : FnP l.prog w K mg base "_law_box" ["script", "k"] 1 SpBox := ok_box F7 m7 b7 n_len n_abs n_int
  have gMy : FnP l.prog w K mg base "may_follow" ["pairs", "row", "name"] 1 SpMay := ok_may F2 m2 b2 n_all
  have gE : FnP l.prog w K mg base "extensions" ["many", "pairs"] 2 SpExt := ok_ext F3 m3 b3 n_range n_tuple gMy
  have gC : FnP l.prog w K mg base "closed_pairs" ["many", "pairs"] 1 SpClos := ok_clos F1 m1 b1 n_range n_tuple n_list n_sorted
  have gB : FnP l.prog w K mg base "begun_many" ["many", "pairs"] 2 SpBegun := ok_begun F4 m4 b4 n_range n_tuple n_sorted gMy
  have gM : FnP l.prog w K mg base "extensions_many" ["many", "pairs"] 3 SpExtM := ok_extM F5 m5 b5 n_range n_tuple gB
  have gO : FnP l.prog w K mg base "_law_orders" ["many"] 1 SpOrd := ok_ord F14 m14 b14 n_range
  have gKe : FnP l.prog w K mg base "_law_keeps" ["order", "pairs"] 1 SpKeeps := ok_keeps F15 m15 b15
  have gK : FnP l.prog w K mg base "_law_kept" ["many", "pairs"] 2 SpKept := ok_kept F16 m16 b16 gO gKe
  have gS : FnP l.prog w K mg base "_law_same" ["told", "due"] 3 (SpSame 2) := ok_same F11 m11 b11 n_isinstance n_tuple n_len n_zip n_int n_bool 2
  have gF : FnP l.prog w K mg base "_law_followed" ["pairs"] 1 SpFoll := ok_foll F12 m12 b12 n_range n_tuple n_list n_sorted n_set
  have gPr : FnB l.prog w K mg base "_law_pairs" ["box", "many", "way"] 3 SpPairs := ok_pairs F13 m13 b13 n_range n_tuple n_list n_sorted n_enumerate gT gP gSh gF
  exact ok_lawF F17 n_range n_tuple n_max n_min n_len gBx gT gP gPr gK gS gE gC gM (ok_extF F3 n_range n_tuple gMy) m3 F3.kp kb
theorem sp_start {K : PySem.W.Frag} {H : Hp} {a : Addr} {ns : List Int} {E : XK} (hl : ns.length ≤ 63) (hS : SqL K H a (ns.map V.int)) : spP K 1 SpLaw [.ref a] H (fun v _ => v = .bl true) E := by
  refine ⟨rfl, H, [], [], [lockL (ns.map .int)], fun R => R = .v (.bool true), ⟨Same.refl _, rfl, fun i d h => by simp at h, fun i c h => by simp at h, fun i j c e a h => by simp at h⟩, .cons (.lok hS (ints_dpAll ns)) .nil, ⟨ns, rfl, hl, rfl⟩, fun v H' F' R e ro q => ?_⟩
  subst q
  obtain ⟨_, h⟩ : StOk K F' H' [] [] ∧ Rp K F' v (.bool true) := ro
  exact dp_bool h
end K69
open PySem PySem.W PyProof.Rows
set_option maxHeartbeats 0 in
theorem PySem.Challenge.cw_onlysums_k69_orders_that_keep_conditions_holds : PySem.Challenge.rw_onlysums_k69_orders_that_keep_conditions.Holds := by
  w_on; o_law; k_head; (case hw => w_witness2)
  k_fill
  refine L2.walk_of (l := PySem.Challenge.rw_onlysums_k69_orders_that_keep_conditions) (n := 63) (k := 4) (x := "script") (CX := fun _ => L2.CX0) (sp := fun w => Ab.spP _ 1 K69.SpLaw) rfl (by decide) rfl ⟨rfl, by decide, by decide⟩ (fun w h Y => PySem.W.kIn_of Y) ?F (fun _ _ a ns hl _ hS => K69.sp_start hl hS) (fun _ _ _ _ _ h => h)
  case F =>
    intro w mg fa h KX G hmg
    refine' K69.all_mk KX G hmg ?a1 ?l1 ?c1 ?k1 ?a2 ?l2 ?c2 ?k2 ?a3 ?l3 ?c3 ?k3 ?a4 ?l4 ?c4 ?k4 ?a5 ?l5 ?c5 ?k5 ?a7 ?l7 ?c7 ?k7 ?a8 ?l8 ?c8 ?k8 ?a9 ?l9 ?c9 ?k9 ?a10 ?l10 ?c10 ?k10 ?a11 ?l11 ?c11 ?k11 ?a12 ?l12 ?c12 ?k12 ?a13 ?l13 ?c13 ?k13 ?a14 ?l14 ?c14 ?k14 ?a15 ?l15 ?c15 ?k15 ?a16 ?l16 ?c16 ?k16 ?a17 ?l17 ?c17 ?k17 ?z0 ?z1 ?z2 ?z3 ?z4 ?z5 ?z6 ?z7 ?z8 ?z9 ?z10 ?z11 ?z12 ?z13 ?z14
    (case a1 => k_is); (case l1 => k_is); (case c1 => k_is); (case k1 => k_is); (case a2 => k_is); (case l2 => k_is); (case c2 => k_is); (case k2 => k_is); (case a3 => k_is); (case l3 => k_is); (case c3 => k_is); (case k3 => k_is); (case a4 => k_is); (case l4 => k_is); (case c4 => k_is); (case k4 => k_is); (case a5 => k_is); (case l5 => k_is); (case c5 => k_is); (case k5 => k_is); (case a7 => k_is); (case l7 => k_is); (case c7 => k_is); (case k7 => k_is); (case a8 => k_is); (case l8 => k_is); (case c8 => k_is); (case k8 => k_is); (case a9 => k_is); (case l9 => k_is); (case c9 => k_is); (case k9 => k_is); (case a10 => k_is); (case l10 => k_is); (case c10 => k_is); (case k10 => k_is); (case a11 => k_is); (case l11 => k_is); (case c11 => k_is); (case k11 => k_is); (case a12 => k_is); (case l12 => k_is); (case c12 => k_is); (case k12 => k_is); (case a13 => k_is); (case l13 => k_is); (case c13 => k_is); (case k13 => k_is); (case a14 => k_is); (case l14 => k_is); (case c14 => k_is); (case k14 => k_is); (case a15 => k_is); (case l15 => k_is); (case c15 => k_is); (case k15 => k_is); (case a16 => k_is); (case l16 => k_is); (case c16 => k_is); (case k16 => k_is); (case a17 => k_is); (case l17 => k_is); (case c17 => k_is); (case k17 => k_is); (case z0 => k_is); (case z1 => k_is); (case z2 => k_is); (case z3 => k_is); (case z4 => k_is); (case z5 => k_is); (case z6 => k_is); (case z7 => k_is); (case z8 => k_is); (case z9 => k_is); (case z10 => k_is); (case z11 => k_is); (case z12 => k_is); (case z13 => k_is); (case z14 => k_is)

