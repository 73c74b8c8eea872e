import PyProof.Rows.All
import Wide.All
import OpenK.AllK
import Wide.FinOn
import HandS.ForSpec
import HandS.Comp
import HandS.Wide
import HandS.EndBits
import HandS.IsInst
import HandS.Rev
import HandS.Iter
import HandS.Style
import HandS.ExcIs
import HandS.Flt
import HandS.Conv
import HandS.Deep
import PyProof.ListRange
import HandS.Dict
import HandS.ExcOwn
import HandS.SortInts
import HandS.SortRule
import HandS.TryMany
import HandS.Zip
import HandS.Text
import KE.GoesRaise
import HandS.Exc
import PyProof.StrLawsFirst
import PyProof.StrLawsChain
import PyProof.ReprReads
import PySem.Challenge.RW_deeprests_k81_polynomials_read
set_option Elab.async false
set_option linter.all false
set_option maxRecDepth 100000
set_option maxHeartbeats 4000000
namespace Pz
open PySem PySem.Spec PyProof.Rows L2

/-! ### values and slots -/
/-- what an owned object holds -/
inductive Oc where
  | ls (ds : List PyData)
  | dc (kvs : List (Key × PyData))
  | dl (kvs : List (Key × PyData))
  | dt (kvs : List (List Key × PyData))
  | tl (d1 d2 : List PyData)
  | ob (P : Int) (kvs : List (Key × PyData))
/-- a slot, or a value: nothing known, frozen data, an owned object, a list that some slot owns (its items frozen), data that is readable now -/
inductive PV where
  | un | im (d : PyData) | ow (c : Oc) | lv (ds : List PyData) | rd (d : PyData) | xc (a : Addr)
abbrev Rho := List PV
def Oc.data : Oc → PyData
  | .ls ds => .list ds
  | .dc _ => .dict []
  | .dl _ => .dict []
  | .dt _ => .dict []
  | .tl _ _ => .dict []
  | .ob _ _ => .dict []
def PV.data : PV → PyData
  | .un => .dict [] | .im d => d | .ow c => c.data | .lv ds => .list ds | .rd d => d | .xc _ => .dict []

/-- what a slot may hold -/
def PV.keeps : PV → Bool
  | .im _ => true | .ow _ => true | _ => false

mutual
/-- data as they lie in the heap; odd: a dict, of which the kind alone is known -/
inductive Dp (K : PySem.W.Frag) (H : Hp) : V → PyData → Prop
  | non : Dp K H .non .none
  | bl (b : Bool) : Dp K H (.bl b) (.bool b)
  | int (i : Int) : Dp K H (.int i) (.int i)
  | str (x : Str) : Dp K H (.str x) (.str x)
  | lst {a : Addr} {xs : List V} {ds : List PyData} : SqL K H a xs → DpAll K H xs ds → Dp K H (.ref a) (.list ds)
  | tup {a : Addr} {xs : List V} {ds : List PyData} : SqT K H a xs → DpAll K H xs ds → Dp K H (.ref a) (.tuple ds)
  | odd {a : Addr} {kv : List (Key × V)} : H a = some (.dK kv) → Dp K H (.ref a) (.dict [(.none, .none)])
inductive DpAll (K : PySem.W.Frag) (H : Hp) : List V → List PyData → Prop
  | nil : DpAll K H [] []
  | cons {v : V} {vs : List V} {d : PyData} {ds : List PyData} : Dp K H v d → DpAll K H vs ds → DpAll K H (v :: vs) (d :: ds)
end
mutual
theorem dp_kit {K : PySem.W.Frag} {H : Hp} : ∀ {d : PyData} {v : V}, d.canLay0 = true → Dp K H v d → L2.Dp K H v d
  | _, _, _, .non => .non
  | _, _, _, .bl b => .bl b
  | _, _, _, .int i => .int i
  | _, _, _, .str x => .str x
  | _, _, c, .lst h a => .lst h (dpa_kit (by simpa [PyData.canLay0] using c) a)
  | _, _, c, .tup h a => .tup h (dpa_kit (by simpa [PyData.canLay0] using c) a)
  | _, _, c, .odd h => by simp [PyData.canLay0] at c
theorem dpa_kit {K : PySem.W.Frag} {H : Hp} : ∀ {ds : List PyData} {vs : List V}, PyData.canLayAll0 ds = true → DpAll K H vs ds → L2.DpAll K H vs ds
  | _, _, _, .nil => .nil
  | _, _, c, .cons h t => .cons (dp_kit (by simp [PyData.canLayAll0] at c; exact c.1) h) (dpa_kit (by simp [PyData.canLayAll0] at c; exact c.2) t)
end
mutual
theorem dp_own {K : PySem.W.Frag} {H : Hp} : ∀ {d : PyData} {v : V}, L2.Dp K H v d → Dp K H v d
  | _, _, .non => .non
  | _, _, .bl b => .bl b
  | _, _, .int i => .int i
  | _, _, .str x => .str x
  | _, _, .lst h a => .lst h (dpa_own a)
  | _, _, .tup h a => .tup h (dpa_own a)
theorem dpa_own {K : PySem.W.Frag} {H : Hp} : ∀ {ds : List PyData} {vs : List V}, L2.DpAll K H vs ds → DpAll K H vs ds
  | _, _, .nil => .nil
  | _, _, .cons h t => .cons (dp_own h) (dpa_own t)
end
theorem Same.sqT {K : PySem.W.Frag} {H H' : Hp} {a : Addr} {xs : List V} (e : Same H H') (h : SqT K H a xs) : SqT K H' a xs := by
  rcases h with (h | ⟨o, h⟩) | h
  · exact .inl (.inl (e _ _ h))
  · exact .inl (.inr ⟨o, e _ _ h⟩)
  · exact .inr h
mutual
theorem dp_mono {K : PySem.W.Frag} {H H' : Hp} (s : Same H H') : ∀ {d : PyData} {v : V}, Dp K H v d → Dp K H' v d
  | _, _, .non => .non
  | _, _, .bl b => .bl b
  | _, _, .int i => .int i
  | _, _, .str x => .str x
  | _, _, .lst h a => .lst (s.seq h) (dpAll_mono s a)
  | _, _, .tup h a => .tup (Same.sqT s h) (dpAll_mono s a)
  | _, _, .odd h => .odd (s _ _ h)
theorem dpAll_mono {K : PySem.W.Frag} {H H' : Hp} (s : Same H H') : ∀ {ds : List PyData} {vs : List V}, DpAll K H vs ds → DpAll K H' vs ds
  | _, _, .nil => .nil
  | _, _, .cons h t => .cons (dp_mono s h) (dpAll_mono s t)
end
section
variable {K : PySem.W.Frag} {H : Hp}
theorem dpa_len : ∀ {vs : List V} {ds : List PyData}, DpAll K H vs ds → vs.length = ds.length
  | _, _, .nil => rfl
  | _, _, .cons _ t => by rw [List.length_cons, List.length_cons, dpa_len t]
theorem dpa_get : ∀ {vs : List V} {ds : List PyData} {i : Nat} {d : PyData}, DpAll K H vs ds → ds[i]? = some d → ∃ v, vs[i]? = some v ∧ Dp K H v d
  | _, _, _, _, .nil, e => by simp at e
  | _, _, 0, d, .cons h _, e => by simp at e; subst e; exact ⟨_, rfl, h⟩
  | _, _, i + 1, d, .cons _ t, e => by
    obtain ⟨v, e1, h⟩ := dpa_get (i := i) (d := d) t (by simpa using e)
    exact ⟨v, by simpa using e1, h⟩
theorem dpa_app : ∀ {vs ws : List V} {ds es : List PyData}, DpAll K H vs ds → DpAll K H ws es → DpAll K H (vs ++ ws) (ds ++ es)
  | _, _, _, _, .nil, t => t
  | _, _, _, _, .cons h r, t => .cons h (dpa_app r t)
theorem dpa_take (n : Nat) : ∀ {vs : List V} {ds : List PyData}, DpAll K H vs ds → DpAll K H (vs.take n) (ds.take n) := by
  induction n with
  | zero => intro vs ds _; simp; exact .nil
  | succ n ih => intro vs ds h; cases h with
    | nil => simp; exact .nil
    | cons h t => simp; exact .cons h (ih t)
theorem dpa_drop (n : Nat) : ∀ {vs : List V} {ds : List PyData}, DpAll K H vs ds → DpAll K H (vs.drop n) (ds.drop n) := by
  induction n with
  | zero => intro vs ds h; exact h
  | succ n ih => intro vs ds h; cases h with
    | nil => simp; exact .nil
    | cons h t => simp; exact ih t
theorem dpa_set {v : V} {d : PyData} (hd : Dp K H v d) : ∀ {vs : List V} {ds : List PyData} (i : Nat), DpAll K H vs ds → DpAll K H (vs.set i v) (ds.set i d)
  | _, _, _, .nil => .nil
  | _, _, 0, .cons _ t => .cons hd t
  | _, _, i + 1, .cons h t => .cons h (dpa_set hd i t)
theorem dpa_dropLast {vs : List V} {ds : List PyData} (h : DpAll K H vs ds) : DpAll K H vs.dropLast ds.dropLast := by
  rw [List.dropLast_eq_take, List.dropLast_eq_take, dpa_len h]
  exact dpa_take _ h
theorem dpa_reverse : ∀ {vs : List V} {ds : List PyData}, DpAll K H vs ds → DpAll K H vs.reverse ds.reverse
  | _, _, .nil => .nil
  | _, _, .cons h t => by
    rw [List.reverse_cons, List.reverse_cons]
    exact dpa_app (dpa_reverse t) (.cons h .nil)
theorem dpa_ints : ∀ (ns : List Int), DpAll K H (ns.map V.int) (ns.map PyData.int)
  | [] => .nil
  | n :: r => .cons (.int n) (dpa_ints r)
theorem dpa_ints_inv : ∀ {vs : List V} {ns : List Int}, DpAll K H vs (ns.map PyData.int) → vs = ns.map V.int
  | _, [], h => by cases h; rfl
  | _, n :: r, h => by
    rw [List.map_cons] at h
    cases h with
    | cons h t => cases h; rw [List.map_cons, ← dpa_ints_inv t]
end

/-! ### the frozen part and how the heap grows -/
structure Ext (F H F' H' : Hp) : Prop where
  ff : Same F F'
  hh : Same H H'
  fh : Same F' H'
  nw : ∀ a o, H a = some o → F a = none → F' a = none
theorem Ext.refl {F H : Hp} (s : Same F H) : Ext F H F H := ⟨.refl _, .refl _, s, fun _ _ _ h => h⟩
theorem Ext.trans {F H F1 H1 F2 H2 : Hp} (a : Ext F H F1 H1) (b : Ext F1 H1 F2 H2) : Ext F H F2 H2 :=
  ⟨a.ff.trans b.ff, a.hh.trans b.hh, b.fh, fun x o h e => b.nw x o (a.hh x o h) (a.nw x o h e)⟩
theorem same_upd {H : Hp} {p : Addr} {o : HO} (h : H p = none) : Same H (upd H p o) := fun b x e => by
  rw [upd_ne (ne_of_none e h)]
  exact e
theorem same_upd2 {F H : Hp} {p : Addr} {o : HO} (s : Same F H) (h : F p = none) : Same F (upd H p o) := fun b x e => by
  rw [upd_ne (ne_of_none e h)]
  exact s b x e
theorem same_upd3 {F H : Hp} {p : Addr} {o : HO} (s : Same F H) : Same (upd F p o) (upd H p o) := fun b x e => by
  by_cases h : b = p
  · subst h; rw [upd_same] at e ⊢; exact e
  · rw [upd_ne h] at e ⊢; exact s b x e
theorem none_upd {F : Hp} {a p : Addr} {o : HO} (h : F a = none) (n : a ≠ p) : upd F p o a = none := by rw [upd_ne n]; exact h
/-- a new object, frozen -/
theorem Ext.new {F H : Hp} {p : Addr} {o : HO} (s : Same F H) (h : H p = none) : Ext F H (upd F p o) (upd H p o) :=
  ⟨same_upd (s.free h), same_upd h, same_upd3 s, fun a u e n => none_upd n (ne_of_none e h)⟩
/-- a new object, not frozen -/
theorem Ext.own {F H : Hp} {p : Addr} {o : HO} (s : Same F H) (h : H p = none) : Ext F H F (upd H p o) :=
  ⟨.refl _, same_upd h, s.trans (same_upd h), fun a u e n => n⟩

def DcAll (K : PySem.W.Frag) (F : Hp) (kv : List (Key × V)) (kvs : List (Key × PyData)) : Prop := kv.map (·.1) = kvs.map (·.1) ∧ DpAll K F (kv.map (·.2)) (kvs.map (·.2))
def DtAll (K : PySem.W.Frag) (F : Hp) (kv : List (List Key × V)) (kvs : List (List Key × PyData)) : Prop := kv.map (·.1) = kvs.map (·.1) ∧ DpAll K F (kv.map (·.2)) (kvs.map (·.2))
def Own (K : PySem.W.Frag) (F H : Hp) (p : Addr) (fp : List Addr) : Oc → Prop
  | .ls ds => fp = [p] ∧ ∃ vs, H p = some (.lst vs) ∧ DpAll K F vs ds
  | .dc kvs => fp = [p] ∧ ∃ kv, H p = some (.dK kv) ∧ DcAll K F kv kvs
  | .dl kvs => fp = [p] ∧ ∃ kv od, H p = some (.frz od (.dK kv)) ∧ DcAll K F kv kvs
  | .dt kvs => fp = [p] ∧ ∃ kv, H p = some (.dT kv) ∧ DtAll K F kv kvs
  | .tl d1 d2 => ∃ q1 q2 vs1 vs2, fp = [p, q1, q2] ∧ q1 ≠ q2 ∧ H p = some (.tup [.ref q1, .ref q2]) ∧ H q1 = some (.lst vs1) ∧ H q2 = some (.lst vs2) ∧ DpAll K F vs1 d1 ∧ DpAll K F vs2 d2
  | .ob P kvs => ∃ C dx q kv, fp = [p, dx, q] ∧ PySem.W.nsIn K mainGlobals "Desk" = some (some (.ref C)) ∧ H p = some (.ins C dx [("prime", .int P), ("kept", .ref q)]) ∧ H dx = some (.own p) ∧ H q = some (.dK kv) ∧ DcAll K F kv kvs
section
variable {K : PySem.W.Frag} {F F' H H' : Hp} {p : Addr} {fp : List Addr} {c : Oc}
theorem Own.mono (h : Own K F H p fp c) (s : Same F F') (k : ∀ a ∈ fp, H' a = H a) : Own K F' H' p fp c := by
  cases c with
  | ls ds =>
    obtain ⟨rfl, vs, e, d⟩ := h
    exact ⟨rfl, vs, (k p (by simp)).trans e, dpAll_mono s d⟩
  | dc kvs =>
    obtain ⟨rfl, kv, e, d⟩ := h
    exact ⟨rfl, kv, (k p (by simp)).trans e, d.1, dpAll_mono s d.2⟩
  | dl kvs =>
    obtain ⟨rfl, kv, od, e, d⟩ := h
    exact ⟨rfl, kv, od, (k p (by simp)).trans e, d.1, dpAll_mono s d.2⟩
  | dt kvs =>
    obtain ⟨rfl, kv, e, d⟩ := h
    exact ⟨rfl, kv, (k p (by simp)).trans e, d.1, dpAll_mono s d.2⟩
  | tl d1 d2 =>
    obtain ⟨q1, q2, vs1, vs2, rfl, n, e, e1, e2, a1, a2⟩ := h
    exact ⟨q1, q2, vs1, vs2, rfl, n, (k p (by simp)).trans e, (k q1 (by simp)).trans e1, (k q2 (by simp)).trans e2, dpAll_mono s a1, dpAll_mono s a2⟩
  | ob P kvs =>
    obtain ⟨C, dx, q, kv, rfl, n, e, e1, e2, d⟩ := h
    exact ⟨C, dx, q, kv, rfl, n, (k p (by simp)).trans e, (k dx (by simp)).trans e1, (k q (by simp)).trans e2, d.1, dpAll_mono s d.2⟩
end

/-- a value that has come: x, in the heap H (H0: the heap ahead of it) -/
def Out (K : PySem.W.Frag) (F' H0 H' : Hp) (v : V) : PV → Prop
  | .im d => Dp K F' v d
  | .rd d => Dp K H' v d
  | .lv ds => ∃ p vs, v = .ref p ∧ SqL K H' p vs ∧ DpAll K F' vs ds
  | .ow c => ∃ p fp, v = .ref p ∧ Own K F' H' p fp c ∧ ∀ a ∈ fp, H0 a = none ∧ F' a = none ∧ ∃ o, H' a = some o
  | .un => False
  | .xc _ => False
theorem Own.dp {K : PySem.W.Frag} {F H : Hp} {p : Addr} {fp : List Addr} {ds : List PyData} (s : Same F H) (h : Own K F H p fp (.ls ds)) : Dp K H (.ref p) (.list ds) := by
  obtain ⟨rfl, vs, e, d⟩ := h
  exact .lst (SqL.of e) (dpAll_mono s d)
section
variable {K : PySem.W.Frag} {F H F1 H1 F2 H2 : Hp} {v : V} {x : PV}
theorem Out.keep (o : Out K F1 H H1 v x) (e : Ext F1 H1 F2 H2) : Out K F2 H H2 v x := by
  cases x with
  | un => exact o
  | xc _ => exact o
  | im d => exact dp_mono e.ff o
  | rd d => exact dp_mono e.hh o
  | lv ds => obtain ⟨p, vs, h1, h2, h3⟩ := o; exact ⟨p, vs, h1, e.hh.seq h2, dpAll_mono e.ff h3⟩
  | ow c =>
    obtain ⟨p, fp, rfl, w, k⟩ := o
    exact ⟨p, fp, rfl, w.mono e.ff (fun a ha => by obtain ⟨_, _, u, hu⟩ := k a ha; rw [e.hh a u hu, hu]), fun a ha => by
      obtain ⟨h1, h2, u, hu⟩ := k a ha
      exact ⟨h1, e.nw a u hu h2, u, e.hh a u hu⟩⟩
theorem Out.earlier {H0 : Hp} (o : Out K F1 H H1 v x) (s : Same H0 H) : Out K F1 H0 H1 v x := by
  cases x with
  | un => exact o
  | xc _ => exact o
  | im d => exact o
  | rd d => exact o
  | lv ds => exact o
  | ow c =>
    obtain ⟨p, fp, rfl, w, k⟩ := o
    exact ⟨p, fp, rfl, w, fun a ha => ⟨s.free (k a ha).1, (k a ha).2⟩⟩
end

/-! ### the state -/
def SR (K : PySem.W.Frag) (F H : Hp) (fp : List Addr) (o : Option V) : PV → Prop
  | .un => fp = []
  | .im d => fp = [] ∧ ∃ v, o = some v ∧ Dp K F v d
  | .ow c => ∃ p, o = some (.ref p) ∧ Own K F H p fp c
  | .lv _ => False
  | .rd _ => False
  | .xc a => fp = [] ∧ o = some (.ref a)
structure RS (K : PySem.W.Frag) (F0 H0 F : Hp) (ρ : Rho) (σ : L2.St) (H : Hp) : Prop where
  ext : Ext F0 H0 F H
  len : ρ.length = σ.length
  sl : ∃ fps : Nat → List Addr, (∀ i x o, ρ[i]? = some x → σ[i]? = some o → SR K F H (fps i) o x) ∧
    (∀ i a, a ∈ fps i → H0 a = none ∧ F a = none ∧ ∃ o, H a = some o) ∧ ∀ i j a, a ∈ fps i → a ∈ fps j → i = j
section
variable {K : PySem.W.Frag} {F0 H0 F H F' H' : Hp} {ρ : Rho} {σ : L2.St} {v : V} {x : PV}
theorem SR.keep {fp : List Addr} {o : Option V} (h : SR K F H fp o x) (s : Same F F') (k : ∀ a ∈ fp, H' a = H a) : SR K F' H' fp o x := by
  cases x with
  | un => exact h
  | xc _ => exact h
  | im d => obtain ⟨rfl, v, e, d⟩ := h; exact ⟨rfl, v, e, dp_mono s d⟩
  | rd d => exact h
  | lv d => exact h
  | ow c => obtain ⟨p, e, w⟩ := h; exact ⟨p, e, w.mono s k⟩
theorem RS.grow (r : RS K F0 H0 F ρ σ H) (e : Ext F H F' H') : RS K F0 H0 F' ρ σ H' := by
  obtain ⟨fps, h1, h2, h3⟩ := r.sl
  refine ⟨r.ext.trans e, r.len, fps, fun i x o a b => (h1 i x o a b).keep e.ff fun q hq => ?_, fun i a ha => ?_, h3⟩
  · obtain ⟨_, _, u, hu⟩ := h2 i q hq
    rw [e.hh q u hu, hu]
  · obtain ⟨q1, q2, u, hu⟩ := h2 i a ha
    exact ⟨q1, e.nw a u hu q2, u, e.hh a u hu⟩
theorem RS.start {F H : Hp} (s : Same F H) {vs : List V} {ds : List PyData} (h : DpAll K F vs ds) {N : List Str} : RS K F H F (ds.map PV.im ++ List.replicate (N.length - ds.length) PV.un) (start N vs) H := by
  refine ⟨.refl s, by unfold L2.start; simp [dpa_len h], fun _ => [], fun i x o a b => ?_, fun _ _ z => (nomatch z), fun _ _ _ z => (nomatch z)⟩
  have hl := dpa_len h
  unfold L2.start at b
  by_cases hi : i < ds.length
  · rw [List.getElem?_append_left (by simpa using hi), List.getElem?_map] at a
    rw [List.getElem?_append_left (by simp; omega), List.getElem?_map] at b
    obtain ⟨d, hd⟩ : ∃ d, ds[i]? = some d := ⟨_, List.getElem?_eq_getElem hi⟩
    obtain ⟨v, hv, p⟩ := dpa_get h hd
    rw [hd] at a; rw [hv] at b
    cases a; cases b
    exact ⟨rfl, v, rfl, p⟩
  · rw [List.getElem?_append_right (by simpa using hi)] at a
    rw [List.getElem?_replicate] at a
    split at a
    · cases a; rfl
    · cases a
theorem RS.forget (r : RS K F0 H0 F ρ σ H) (i : Nat) (o : Option V) : RS K F0 H0 F (ρ.set i .un) (σ.set i o) H := by
  obtain ⟨fps, h1, h2, h3⟩ := r.sl
  refine ⟨r.ext, by simp [r.len], fun j => if j = i then [] else fps j, fun j y o' a b => ?_, fun j a ha => ?_, fun j k a hj hk => ?_⟩
  · by_cases hj : j = i
    · subst hj
      simp only [if_pos]
      by_cases hl : j < ρ.length
      · rw [List.getElem?_set_self hl] at a
        cases a
        rfl
      · rw [List.getElem?_eq_none (by simpa using hl)] at a
        cases a
    · simp only [if_neg hj]
      rw [List.getElem?_set_ne (Ne.symm hj)] at a b
      exact h1 j y o' a b
  · by_cases hj : j = i
    · simp only [if_pos hj] at ha; cases ha
    · simp only [if_neg hj] at ha
      exact h2 j a ha
  · by_cases hj' : j = i
    · simp only [if_pos hj'] at hj; cases hj
    · by_cases hk' : k = i
      · simp only [if_pos hk'] at hk; cases hk
      · simp only [if_neg hj'] at hj
        simp only [if_neg hk'] at hk
        exact h3 j k a hj hk
/-- a slot is stored; the value came since Hs -/
theorem RS.store {F1 Hs : Hp} {i : Nat} (r : RS K F0 H0 F1 ρ σ Hs) (e : Ext F1 Hs F H) (hx : Out K F Hs H v x) (nr : x.keeps = true) : RS K F0 H0 F (ρ.set i x) (σ.set i (some v)) H := by
  obtain ⟨fps, h1, h2, h3⟩ := r.sl
  have r2 := r.grow e
  obtain ⟨fp, sr, o1, o2⟩ : ∃ fp : List Addr, SR K F H fp (some v) x ∧ (∀ a ∈ fp, H0 a = none ∧ F a = none ∧ ∃ o, H a = some o) ∧ ∀ j a, a ∈ fps j → a ∈ fp → False := by
    cases x with
    | un => exact hx.elim
    | xc _ => exact hx.elim
    | rd d => cases nr
    | lv d => cases nr
    | im d => exact ⟨[], ⟨rfl, v, rfl, hx⟩, fun _ z => (nomatch z), fun _ _ _ z => (nomatch z)⟩
    | ow c =>
      obtain ⟨p, fp, rfl, w, k⟩ := hx
      refine ⟨fp, ⟨p, rfl, w⟩, fun a ha => ⟨r.ext.hh.free (k a ha).1, (k a ha).2⟩, fun j a hj ha => ?_⟩
      obtain ⟨_, _, o, ho⟩ := h2 j a hj
      rw [(k a ha).1] at ho
      cases ho
  refine ⟨r2.ext, by simp [r.len], fun j => if j = i then fp else fps j, fun j y o a b => ?_, fun j a ha => ?_, fun j k a hj hk => ?_⟩
  · by_cases hj : j = i
    · subst hj
      simp only [if_pos]
      by_cases hl : j < ρ.length
      · rw [List.getElem?_set_self hl] at a
        rw [List.getElem?_set_self (by rw [← r.len]; exact hl)] at b
        cases a; cases b
        exact sr
      · rw [List.getElem?_eq_none (by simpa using hl)] at a
        cases a
    · simp only [if_neg hj]
      rw [List.getElem?_set_ne (Ne.symm hj)] at a b
      refine (h1 j y o a b).keep e.ff fun q hq => ?_
      obtain ⟨_, _, u, hu⟩ := h2 j q hq
      rw [e.hh q u hu, hu]
  · by_cases hj : j = i
    · simp only [if_pos hj] at ha
      exact o1 a ha
    · simp only [if_neg hj] at ha
      obtain ⟨q1, q2, u, hu⟩ := h2 j a ha
      exact ⟨q1, e.nw a u hu q2, u, e.hh a u hu⟩
  · by_cases hj' : j = i
    · by_cases hk' : k = i
      · rw [hj', hk']
      · simp only [if_pos hj'] at hj
        simp only [if_neg hk'] at hk
        exact (o2 k a hk hj).elim
    · by_cases hk' : k = i
      · simp only [if_neg hj'] at hj
        simp only [if_pos hk'] at hk
        exact (o2 j a hj hk).elim
      · simp only [if_neg hj'] at hj
        simp only [if_neg hk'] at hk
        exact h3 j k a hj hk
/-- an owned object's slot changes its content: H is upd at p -/
theorem RS.write {i : Nat} {p : Addr} {o : HO} {c c' : Oc} (r : RS K F0 H0 F ρ σ H) (hi : ρ[i]? = some (.ow c)) (hp : σ[i]? = some (some (.ref p)))
    (hw : ∀ fp, Own K F H p fp c → p ∈ fp ∧ Own K F (upd H p o) p fp c') : RS K F0 H0 F (ρ.set i (.ow c')) σ (upd H p o) := by
  obtain ⟨fps, h1, h2, h3⟩ := r.sl
  obtain ⟨q, e, w⟩ := h1 i _ _ hi hp
  cases e
  obtain ⟨hm, w'⟩ := hw _ w
  obtain ⟨n0, nF, u, hu⟩ := h2 i p hm
  have nodup : ∀ j, j ≠ i → ∀ a ∈ fps j, a ≠ p := fun j hj a ha z => hj (h3 j i a ha (by rw [z]; exact hm))
  refine ⟨⟨r.ext.ff, same_upd2 r.ext.hh n0, same_upd2 r.ext.fh nF, r.ext.nw⟩, by simp [r.len], fps, fun j y o' a b => ?_, fun j a ha => ?_, h3⟩
  · by_cases hj : j = i
    · subst hj
      have hl : j < ρ.length := (List.getElem?_eq_some_iff.mp hi).1
      rw [List.getElem?_set_self hl] at a
      cases a
      rw [hp] at b
      cases b
      exact ⟨p, rfl, w'⟩
    · rw [List.getElem?_set_ne (Ne.symm hj)] at a
      exact (h1 j y o' a b).keep (.refl _) fun q hq => upd_ne (nodup j hj q hq)
  · obtain ⟨q1, q2, u', hu'⟩ := h2 j a ha
    refine ⟨q1, q2, ?_⟩
    by_cases hap : a = p
    · rw [hap, upd_same]; exact ⟨_, rfl⟩
    · rw [upd_ne hap]; exact ⟨_, hu'⟩
/-- an owned list's slot is frozen -/
theorem RS.freeze {i : Nat} {ds : List PyData} (r : RS K F0 H0 F ρ σ H) (hi : ρ[i]? = some (.ow (.ls ds))) : ∃ F', RS K F0 H0 F' (ρ.set i (.im (.list ds))) σ H := by
  obtain ⟨fps, h1, h2, h3⟩ := r.sl
  have hl : i < ρ.length := (List.getElem?_eq_some_iff.mp hi).1
  have hl2 : i < σ.length := by rw [← r.len]; exact hl
  obtain ⟨q, e, w⟩ := h1 i _ _ hi (List.getElem?_eq_getElem hl2)
  obtain ⟨efp, vs, hq, d⟩ := w
  have hm : q ∈ fps i := by rw [efp]; simp
  obtain ⟨n0, nF, _⟩ := h2 i q hm
  have sF : Same F (upd F q (.lst vs)) := same_upd nF
  refine ⟨upd F q (.lst vs), ⟨r.ext.ff.trans sF, r.ext.hh, ?_, ?_⟩, by simp [r.len], fun j => if j = i then [] else fps j, fun j y o a b => ?_, fun j a ha => ?_, fun j k a hj hk => ?_⟩
  · intro a o ha
    by_cases h : a = q
    · subst h; rw [upd_same] at ha; cases ha; exact hq
    · rw [upd_ne h] at ha; exact r.ext.fh a o ha
  · intro a o ha hn
    refine none_upd (r.ext.nw a o ha hn) fun z => ?_
    subst z
    rw [n0] at ha; cases ha
  · by_cases hj : j = i
    · subst hj
      rw [List.getElem?_set_self hl] at a
      cases a
      simp only [if_pos]
      rw [List.getElem?_eq_getElem hl2] at b
      refine ⟨rfl, .ref q, by rw [← Option.some.inj b, e], .lst (SqL.of upd_same) (dpAll_mono sF d)⟩
    · simp only [if_neg hj]
      rw [List.getElem?_set_ne (Ne.symm hj)] at a
      exact (h1 j y o a b).keep sF fun _ _ => rfl
  · by_cases hj : j = i
    · simp only [if_pos hj] at ha; cases ha
    · simp only [if_neg hj] at ha
      obtain ⟨q1, q2, q3⟩ := h2 j a ha
      exact ⟨q1, none_upd q2 fun z => hj (h3 j i a ha (by rw [z]; exact hm)), q3⟩
  · by_cases hj' : j = i
    · simp only [if_pos hj'] at hj; cases hj
    · by_cases hk' : k = i
      · simp only [if_pos hk'] at hk; cases hk
      · simp only [if_neg hj'] at hj
        simp only [if_neg hk'] at hk
        exact h3 j k a hj hk
end
end Pz

namespace Pz
open PySem PySem.Spec PyProof.Rows L2

/-! ### judgements -/
/-- the text's own exceptions -/
inductive Xn where
  | RestError | NoDepth | NoInverse | NoBall | NoSingle | TooDeep | NoSmall | NoParts | NoPrime | NoText | NoName | NoRow | TooGreat
  deriving DecidableEq
def Xn.nm : Xn → Str
  | .RestError => "RestError" | .NoDepth => "NoDepth" | .NoInverse => "NoInverse" | .NoBall => "NoBall" | .NoSingle => "NoSingle" | .TooDeep => "TooDeep" | .NoSmall => "NoSmall"
  | .NoParts => "NoParts" | .NoPrime => "NoPrime" | .NoText => "NoText" | .NoName => "NoName" | .NoRow => "NoRow" | .TooGreat => "TooGreat"
abbrev XW := Xn → Rho → Prop
abbrev RE := XW → Rho → (PV → Prop) → Prop
abbrev RT := XW → Rho → (Bool → Prop) → Prop
abbrev RA := XW → Rho → (List PyData → Prop) → Prop
structure PEnds where
  nx : Rho → Prop
  rt : PV → Rho → Prop
  ex : XW
  bk : Rho → Prop := fun _ => False
  ct : Rho → Prop := fun _ => False
abbrev RC := PEnds → Rho → Prop
structure Zp where
  F0 : Hp
  H0 : Hp
  cl : Xn → Addr
abbrev RSz (K : PySem.W.Frag) (Z : Zp) : Hp → Rho → L2.St → Hp → Prop := RS K Z.F0 Z.H0
def lE (K : PySem.W.Frag) (Z : Zp) (t : Rho → (PV → Prop) → Prop) : TE := fun σ H Q => ∃ F ρ Q', RSz K Z F ρ σ H ∧ t ρ Q' ∧ ∀ x v F' H', Q' x → Ext F H F' H' → Out K F' H H' v x → Q v H'
def lT (K : PySem.W.Frag) (Z : Zp) (t : Rho → (Bool → Prop) → Prop) : TT := fun σ H Q => ∃ F ρ Q', RSz K Z F ρ σ H ∧ t ρ Q' ∧ ∀ b F' H', Q' b → Ext F H F' H' → Q b H'
/-- frozen arguments; readable ones -/
def lA (K : PySem.W.Frag) (Z : Zp) (n : Nat) (t : Rho → (List PyData → Prop) → Prop) : TA := fun σ H Q => ∃ F ρ Q', RSz K Z F ρ σ H ∧ t ρ Q' ∧ ∀ ds vs F' H', Q' ds → ds.length = n → Ext F H F' H' → DpAll K F' vs ds → Q vs H'
def lR (K : PySem.W.Frag) (Z : Zp) (t : Rho → (List PyData → Prop) → Prop) : TA := fun σ H Q => ∃ F ρ Q', RSz K Z F ρ σ H ∧ t ρ Q' ∧ ∀ ds vs F' H', Q' ds → Ext F H F' H' → DpAll K H' vs ds → Q vs H'
def lS (K : PySem.W.Frag) (Z : Zp) (ex : XW) (t : RC) : TS := fun D σ H => ∃ F ρ D', RSz K Z F ρ σ H ∧ t D' ρ ∧ D'.ex = ex ∧
  (∀ F ρ σ H, RSz K Z F ρ σ H → D'.nx ρ → D.nx σ H) ∧ (∀ F ρ σ H, RSz K Z F ρ σ H → D'.bk ρ → D.bk σ H) ∧ (∀ F ρ σ H, RSz K Z F ρ σ H → D'.ct ρ → D.ct σ H) ∧
  ∀ x v F' ρ' σ' H', D'.rt x ρ' → RSz K Z F' ρ' σ' H' → Out K F' Z.H0 H' v x → D.rt v H'
structure PX (X : Cx) (Z : Zp) (ex : XW) : Prop where
  tk : Takes X (fun cls d σ H => ∃ c F ρ, cls = .ref (Z.cl c) ∧ d = none ∧ RSz X.K Z F ρ σ H ∧ ex c ρ)
  po : PassesOwn (model X.prog X.w) X.A X.env X.xe
def CE (X : Cx) (Z : Zp) (e : Expr) (t : RE) : Prop := ∀ ex, PX X Z ex → PE X e (lE X.K Z (t ex))
def CT (X : Cx) (Z : Zp) (e : Expr) (t : RT) : Prop := ∀ ex, PX X Z ex → PT X e (lT X.K Z (t ex))
def CA (X : Cx) (Z : Zp) (es : List Expr) (t : RA) : Prop := ∀ ex, PX X Z ex → PA X es (lA X.K Z es.length (t ex))
def CR (X : Cx) (Z : Zp) (es : List Expr) (t : RA) : Prop := ∀ ex, PX X Z ex → PA X es (lR X.K Z (t ex))
def CS (X : Cx) (Z : Zp) (s : Stmt) (t : RC) : Prop := ∀ ex, PX X Z ex → PS X s (lS X.K Z ex t)
def CSs (X : Cx) (Z : Zp) (s : List Stmt) (t : RC) : Prop := ∀ ex, PX X Z ex → PSs X s (lS X.K Z ex t)

section
variable {X : Cx} {Z : Zp} {e : Expr} {es : List Expr} {s : Stmt} {ss : List Stmt}
theorem pe_imp {t u : TE} (h : PE X e t) (i : ∀ σ H Q, u σ H Q → t σ H Q) : PE X e u := ⟨fun p s σ H Q I q => h.run p s σ H Q I (i σ H Q q)⟩
theorem pt_imp {t u : TT} (h : PT X e t) (i : ∀ σ H Q, u σ H Q → t σ H Q) : PT X e u := ⟨fun p s σ H Q I q => h.run p s σ H Q I (i σ H Q q)⟩
theorem pa_imp {t u : TA} (h : PA X es t) (i : ∀ σ H Q, u σ H Q → t σ H Q) : PA X es u := ⟨fun pp p s σ H Q I q => h.run pp p s σ H Q I (i σ H Q q)⟩
theorem ps_imp {t u : TS} (h : PS X s t) (i : ∀ D σ H, u D σ H → t D σ H) : PS X s u := ⟨fun p s σ H D I q => h.run p s σ H D I (i D σ H q)⟩
theorem pss_imp {t u : TS} (h : PSs X ss t) (i : ∀ D σ H, u D σ H → t D σ H) : PSs X ss u := ⟨fun p s σ H D I q => h.run p s σ H D I (i D σ H q)⟩
end

/-! ### where one stands -/
/-- a def's (or a block's) body: its names, its scope -/
structure Wh (X : Cx) (N : List Str) (sc : Scope) : Prop where
  hN : X.N = N
  nd : N.Nodup
  hs : X.env.scope = sc
/-- a def's own body -/
structure WhD (X : Cx) (N : List Str) (sc : Scope) : Prop extends Wh X N sc where
  fn : ∀ x, X.fn x = true
  stk : X.stack = X.env :: X.outer
  frm : X.env.frame = some X.env.locals
  kind : sc.kind = .function

/-- a global name of the scope -/
def GlN (sc : Scope) (x : Str) : Prop := sc.names.lookup x = some .globalImplicit

/-! ### values -/
section
variable {K : PySem.W.Frag} {F H0 H : Hp} {v : V} {x : PV}
theorem Out.dd (o : Out K F H0 H v x) (s : Same F H) : Dp K H v x.data ∨ ∃ k, x.data = .dict k := by
  cases x with
  | un => exact o.elim
  | xc _ => exact o.elim
  | im d => exact .inl (dp_mono s o)
  | rd d => exact .inl o
  | lv ds => obtain ⟨p, vs, rfl, h2, h3⟩ := o; exact .inl (.lst h2 (dpAll_mono s h3))
  | ow c =>
    cases c with
    | ls ds => obtain ⟨p, fp, rfl, w, k⟩ := o; exact .inl (w.dp s)
    | dc _ => exact .inr ⟨_, rfl⟩
    | dl _ => exact .inr ⟨_, rfl⟩
    | dt _ => exact .inr ⟨_, rfl⟩
    | tl _ _ => exact .inr ⟨_, rfl⟩
    | ob _ _ => exact .inr ⟨_, rfl⟩
theorem Out.dd2 (o : Out K F H0 H v x) (s : Same F H) : Dp K H v x.data ∨ x.data = .dict [] := by
  cases x with
  | un => exact o.elim
  | xc _ => exact o.elim
  | im d => exact .inl (dp_mono s o)
  | rd d => exact .inl o
  | lv ds => obtain ⟨p, vs, rfl, h2, h3⟩ := o; exact .inl (.lst h2 (dpAll_mono s h3))
  | ow c =>
    cases c with
    | ls ds => obtain ⟨p, fp, rfl, w, k⟩ := o; exact .inl (w.dp s)
    | dc _ => exact .inr rfl
    | dl _ => exact .inr rfl
    | dt _ => exact .inr rfl
    | tl _ _ => exact .inr rfl
    | ob _ _ => exact .inr rfl
theorem Out.int {i : Int} (o : Out K F H0 H v x) (s : Same F H) (h : x.data = .int i) : v = .int i := by
  rcases o.dd s with d | ⟨k, d⟩
  · rw [h] at d; cases d; rfl
  · rw [h] at d; cases d
theorem Out.boo {i : Bool} (o : Out K F H0 H v x) (s : Same F H) (h : x.data = .bool i) : v = .bl i := by
  rcases o.dd s with d | ⟨k, d⟩
  · rw [h] at d; cases d; rfl
  · rw [h] at d; cases d
theorem Out.non (o : Out K F H0 H v x) (s : Same F H) (h : x.data = .none) : v = .non := by
  rcases o.dd s with d | ⟨k, d⟩
  · rw [h] at d; cases d; rfl
  · rw [h] at d; cases d
theorem Out.str {i : Str} (o : Out K F H0 H v x) (s : Same F H) (h : x.data = .str i) : v = .str i := by
  rcases o.dd s with d | ⟨k, d⟩
  · rw [h] at d; cases d; rfl
  · rw [h] at d; cases d
/-- the elements' frozen (or readable) data -/
theorem Out.lst {ds : List PyData} (o : Out K F H0 H v x) (s : Same F H) (h : x.data = .list ds) : ∃ p vs, v = .ref p ∧ SqL K H p vs ∧ DpAll K H vs ds := by
  rcases o.dd s with d | ⟨k, d⟩
  · rw [h] at d
    cases d with
    | lst h a => exact ⟨_, _, rfl, h, a⟩
  · rw [h] at d; cases d
theorem Out.tup {ds : List PyData} (o : Out K F H0 H v x) (s : Same F H) (h : x.data = .tuple ds) : ∃ p vs, v = .ref p ∧ SqT K H p vs ∧ DpAll K H vs ds := by
  rcases o.dd s with d | ⟨k, d⟩
  · rw [h] at d
    cases d with
    | tup h a => exact ⟨_, _, rfl, h, a⟩
  · rw [h] at d; cases d
/-- frozen elements: of a value that is no readable one -/
def PV.fz : PV → Bool
  | .rd _ => false | _ => true
theorem Out.lstF {ds : List PyData} (o : Out K F H0 H v x) (s : Same F H) (h : x.data = .list ds) (z : x.fz = true) : ∃ p vs, v = .ref p ∧ SqL K H p vs ∧ DpAll K F vs ds := by
  cases x with
  | un => exact o.elim
  | xc _ => exact o.elim
  | rd d => cases z
  | lv es =>
    have h' : PyData.list es = .list ds := h
    cases h'
    exact o
  | im d =>
    have o' : Dp K F v d := o
    have h' : d = .list ds := h
    subst h'
    cases o' with
    | lst h a => exact ⟨_, _, rfl, s.seq h, a⟩
  | ow c =>
    cases c with
    | ls es =>
      have h' : PyData.list es = .list ds := h
      cases h'
      obtain ⟨p, fp, rfl, ⟨_, vs, e, a⟩, k⟩ := o
      exact ⟨p, vs, rfl, SqL.of e, a⟩
    | dc _ => cases h
    | dl _ => cases h
    | dt _ => cases h
    | tl _ _ => cases h
    | ob _ _ => cases h
theorem Out.tupF {ds : List PyData} (o : Out K F H0 H v x) (s : Same F H) (h : x.data = .tuple ds) (z : x.fz = true) : ∃ p vs, v = .ref p ∧ SqT K H p vs ∧ DpAll K F vs ds := by
  cases x with
  | un => exact o.elim
  | xc _ => exact o.elim
  | rd d => cases z
  | lv es => cases h
  | im d =>
    have o' : Dp K F v d := o
    have h' : d = .tuple ds := h
    subst h'
    cases o' with
    | tup h a => exact ⟨_, _, rfl, Same.sqT s h, a⟩
  | ow c =>
    cases c with
    | ls es => cases h
    | dc _ => cases h
    | dl _ => cases h
    | dt _ => cases h
    | tl _ _ => cases h
    | ob _ _ => cases h
end
section
variable {K : PySem.W.Frag} {F H0 H : Hp} {v : V} {x : PV}
/-- both at once -/
theorem Out.lstB {ds : List PyData} (o : Out K F H0 H v x) (s : Same F H) (h : x.data = .list ds) : ∃ p vs, v = .ref p ∧ SqL K H p vs ∧ DpAll K H vs ds ∧ (x.fz = true → DpAll K F vs ds) := by
  cases x with
  | rd d => obtain ⟨p, vs, h1, h2, h3⟩ := o.lst s h; exact ⟨p, vs, h1, h2, h3, fun z => by cases z⟩
  | un => exact o.elim
  | xc _ => exact o.elim
  | im d => obtain ⟨p, vs, h1, h2, h3⟩ := o.lstF s h rfl; exact ⟨p, vs, h1, h2, dpAll_mono s h3, fun _ => h3⟩
  | ow c => obtain ⟨p, vs, h1, h2, h3⟩ := o.lstF s h rfl; exact ⟨p, vs, h1, h2, dpAll_mono s h3, fun _ => h3⟩
  | lv c => obtain ⟨p, vs, h1, h2, h3⟩ := o.lstF s h rfl; exact ⟨p, vs, h1, h2, dpAll_mono s h3, fun _ => h3⟩
theorem Out.tupB {ds : List PyData} (o : Out K F H0 H v x) (s : Same F H) (h : x.data = .tuple ds) : ∃ p vs, v = .ref p ∧ SqT K H p vs ∧ DpAll K H vs ds ∧ (x.fz = true → DpAll K F vs ds) := by
  cases x with
  | rd d => obtain ⟨p, vs, h1, h2, h3⟩ := o.tup s h; exact ⟨p, vs, h1, h2, h3, fun z => by cases z⟩
  | un => exact o.elim
  | xc _ => exact o.elim
  | im d => obtain ⟨p, vs, h1, h2, h3⟩ := o.tupF s h rfl; exact ⟨p, vs, h1, h2, dpAll_mono s h3, fun _ => h3⟩
  | ow c => obtain ⟨p, vs, h1, h2, h3⟩ := o.tupF s h rfl; exact ⟨p, vs, h1, h2, dpAll_mono s h3, fun _ => h3⟩
  | lv c => cases h
end
/-- a scalar's data holds in any heap -/
def scl : PyData → Bool
  | .none => true | .bool _ => true | .int _ => true | .str _ => true | _ => false
theorem scl_dp {K : PySem.W.Frag} {H F : Hp} {v : V} {d : PyData} (h : scl d = true) (x : Dp K H v d) : Dp K F v d := by
  cases x with
  | non => exact .non
  | bl b => exact .bl b
  | int i => exact .int i
  | str y => exact .str y
  | lst _ _ => cases h
  | tup _ _ => cases h
  | odd _ => cases h
/-- an element of a readable thing -/
def nrm (fz : Bool) (d : PyData) : PV := if fz || scl d then .im d else .rd d
theorem out_nrm {K : PySem.W.Frag} {F H0 H : Hp} {v : V} {d : PyData} {fz : Bool} (hF : fz = true → Dp K F v d) (hH : Dp K H v d) : Out K F H0 H v (nrm fz d) := by
  unfold nrm
  cases fz with
  | true => exact hF rfl
  | false =>
    cases hs : scl d with
    | true => exact scl_dp hs hH
    | false => exact hH

/-! ### names and constants -/
section
variable {X : Cx} {Z : Zp} {N : List Str} {sc : Scope} {pos : Pos}
def rVar (i : Nat) : RE := fun _ ρ Q => match ρ[i]? with
  | some (.im d) => Q (.im d)
  | some (.ow (.ls ds)) => Q (.lv ds)
  | some (.ow (.tl d1 d2)) => Q (.rd (.tuple [.list d1, .list d2]))
  | _ => False
theorem ce_var (A : Wh X N sc) (i : Nat) {x : Str} (hi : N[i]? = some x) (hv : Vis sc x) (hd : (x == ("__debug__" : Str)) = false) (hcd : (x == ("__classdict__" : Str)) = false) : CE X Z (.Name x pos) (rVar i) := fun ex px => by
  refine pe_imp (pe_var (i := i) (by rw [A.hN]; exact hi) (by rw [A.hs]; exact hv) hd hcd) ?_
  rintro σ H Q ⟨F, ρ, Q', r, t, q⟩
  obtain ⟨fps, h1, h2, h3⟩ := r.sl
  unfold rVar at t
  split at t
  · rename_i d e
    have hl : i < σ.length := by rw [← r.len]; exact (List.getElem?_eq_some_iff.mp e).1
    obtain ⟨_, v, ev, dv⟩ := h1 i _ _ e (List.getElem?_eq_getElem hl)
    exact ⟨v, by rw [List.getElem?_eq_getElem hl, ev], q _ v F H t (.refl r.ext.fh) dv⟩
  · rename_i ds e
    have hl : i < σ.length := by rw [← r.len]; exact (List.getElem?_eq_some_iff.mp e).1
    obtain ⟨p, ev, w⟩ := h1 i _ _ e (List.getElem?_eq_getElem hl)
    obtain ⟨_, vs, e2, a2⟩ := w
    exact ⟨.ref p, by rw [List.getElem?_eq_getElem hl, ev], q _ _ F H t (.refl r.ext.fh) ⟨p, vs, rfl, SqL.of e2, a2⟩⟩
  · rename_i d1 d2 e
    have hl : i < σ.length := by rw [← r.len]; exact (List.getElem?_eq_some_iff.mp e).1
    obtain ⟨p, ev, w⟩ := h1 i _ _ e (List.getElem?_eq_getElem hl)
    obtain ⟨q1, q2, vs1, vs2, _, _, e1, e2, e3, a2, a3⟩ := w
    exact ⟨.ref p, by rw [List.getElem?_eq_getElem hl, ev], q _ _ F H t (.refl r.ext.fh) (show Dp X.K H _ _ from .tup (.inl (.inl e1)) (.cons (.lst (SqL.of e2) (dpAll_mono r.ext.fh a2)) (.cons (.lst (SqL.of e3) (dpAll_mono r.ext.fh a3)) .nil)))⟩
  · exact t.elim
def rC (d : PyData) : RE := fun _ _ Q => Q (.im d)
theorem ce_const {e : Expr} {v : V} {d : PyData} (h : PE X e (tC v)) (hd : ∀ K H, Dp K H v d) : CE X Z e (rC d) := fun ex px => by
  refine pe_imp h ?_
  rintro σ H Q ⟨F, ρ, Q', r, t, q⟩
  exact q _ v F H t (.refl r.ext.fh) (hd _ _)
theorem ce_int {i j} : CE X Z (.Constant (.int i) j pos) (rC (.int i)) := ce_const pe_int fun _ _ => .int _
theorem ce_bl {b j} : CE X Z (.Constant (.bool b) j pos) (rC (.bool b)) := ce_const pe_bl fun _ _ => .bl _
theorem ce_non {j} : CE X Z (.Constant .none j pos) (rC .none) := ce_const pe_non fun _ _ => .non
theorem ce_str {x j} : CE X Z (.Constant (.str x) j pos) (rC (.str x)) := ce_const pe_str fun _ _ => .str _
/-- a module's int -/
theorem ce_glob {x : Str} {i : Int} {t : Tok} (A : Wh X N sc) (hg : GlN sc x) (hm : X.mg x = some (.int i t)) (hd : (x == ("__debug__" : Str)) = false) : CE X Z (.Name x pos) (rC (.int i)) :=
  ce_const (pe_glob (v := .int i) (show X.env.scope.names.lookup x = _ by rw [A.hs]; exact hg) hm ⟨t, rfl⟩ hd) fun _ _ => .int _
end

/-! ### operators on values -/
/-- an operation on two values, by its reading on data -/
def OpG (X : Cx) (r : R2) (g : PV → PV → (PV → Prop) → Prop) : Prop :=
  ∀ (F H0 H : Hp) (x y : PV) (v u : V) (Q' : PV → Prop) (Q : VK), Same F H → Out X.K F H0 H v x → Out X.K F H0 H u y → g x y Q' →
    (∀ z w F' H', Q' z → Ext F H F' H' → Out X.K F' H H' w z → Q w H') → r v u H Q
def rOp (g : PV → PV → (PV → Prop) → Prop) (ta tb : RE) : RE := fun ex ρ Q => ta ex ρ fun x => tb ex ρ fun y => g x y Q
section
variable {X : Cx} {Z : Zp} {a b : Expr} {ta tb : RE} {pos : Pos} {r : R2} {g : PV → PV → (PV → Prop) → Prop}
theorem lE_op (hg : OpG X r g) {ex : XW} {σ : L2.St} {H : Hp} {Q : VK} (h : lE X.K Z (rOp g ta tb ex) σ H Q) : tOp r (lE X.K Z (ta ex)) (lE X.K Z (tb ex)) σ H Q := by
  obtain ⟨F, ρ, Q', rs, t, q⟩ := h
  refine ⟨F, ρ, _, rs, t, fun x v F1 H1 q1 e1 o1 => ?_⟩
  refine ⟨F1, ρ, _, rs.grow e1, q1, fun y u F2 H2 q2 e2 o2 => ?_⟩
  refine hg F2 H H2 x y v u Q' Q e2.fh (o1.keep e2) (o2.earlier e1.hh) q2 fun z w F' H' qz e3 o3 => ?_
  exact q z w F' H' qz ((e1.trans e2).trans e3) (o3.earlier (e1.hh.trans e2.hh))
theorem ce_op {op : Operator} (ho : OpR X (binaryOp op) r) (hg : OpG X r g) (ha : CE X Z a ta) (hb : CE X Z b tb) : CE X Z (.BinOp a op b pos) (rOp g ta tb) := fun ex px =>
  pe_imp (pe_op ho (ha ex px) (hb ex px)) fun σ H Q h => lE_op hg h
end
/-- ints in, an int out -/
def gI (C : Int → Int → Prop) (f : Int → Int → Int) : PV → PV → (PV → Prop) → Prop := fun x y Q => match x.data, y.data with
  | .int i, .int j => C i j ∧ Q (.im (.int (f i j)))
  | _, _ => False
def gI0 (f : Int → Int → Int) : PV → PV → (PV → Prop) → Prop := fun x y Q => match x.data, y.data with
  | .int i, .int j => Q (.im (.int (f i j)))
  | _, _ => False
def gSub : PV → PV → (PV → Prop) → Prop := fun x y Q => match x.data, y.data with
  | .int i, .int j => Q (.im (.int (i - j)))
  | _, _ => False
def gMod : PV → PV → (PV → Prop) → Prop := fun x y Q => match x.data, y.data with
  | .int i, .int j => 0 < j ∧ Q (.im (.int (i % j)))
  | _, _ => False
def gDiv : PV → PV → (PV → Prop) → Prop := fun x y Q => match x.data, y.data with
  | .int i, .int j => CDivW i j ∧ Q (.im (.int (i / j)))
  | _, _ => False
def gPow : PV → PV → (PV → Prop) → Prop := fun x y Q => match x.data, y.data with
  | .int i, .int j => CPow i j ∧ Q (.im (.int (i ^ j.toNat)))
  | _, _ => False
theorem gSub_eq : gSub = gI0 fun i j => i - j := rfl
theorem gMod_eq : gMod = gI (fun _ j => 0 < j) fun i j => i % j := rfl
theorem gDiv_eq : gDiv = gI CDivW fun i j => i / j := rfl
theorem gPow_eq : gPow = gI CPow fun i j => i ^ j.toNat := rfl
section
variable {X : Cx} {Z : Zp} {a b : Expr} {ta tb : RE} {pos : Pos}
theorem opg_I {C : Int → Int → Prop} {f : Int → Int → Int} : OpG X (rI C fun i j => .int (f i j)) (gI C f) := by
  intro F H0 H x y v u Q' Q s ox oy h q
  unfold gI at h
  split at h
  · rename_i i j hx hy
    exact ⟨i, j, ox.int s hx, oy.int s hy, h.1, q _ _ F H h.2 (.refl s) (Dp.int _)⟩
  · exact h.elim
theorem opg_I0 {f : Int → Int → Int} : OpG X (rI0 fun i j => .int (f i j)) (gI0 f) := by
  intro F H0 H x y v u Q' Q s ox oy h q
  unfold gI0 at h
  split at h
  · rename_i i j hx hy
    exact ⟨i, j, ox.int s hx, oy.int s hy, q _ _ F H h (.refl s) (Dp.int _)⟩
  · exact h.elim
/-- of together less than 2 ^ 26 bits -/
def CMulB (i j : Int) : Prop := i.natAbs.log2 + j.natAbs.log2 < 67108864
theorem CMulB.ok {i j : Int} (h : CMulB i j) : IntMulOk i j := by
  have b : ∀ x : Int, Builtin.Int.intBits x ≤ x.natAbs.log2 + 1 := fun x => by
    unfold Builtin.Int.intBits
    split <;> omega
  have h1 := b i
  have h2 := b j
  have h3 : i.natAbs.log2 + j.natAbs.log2 < 67108864 := h
  have e : bitsLine = 134217728 := by decide
  unfold IntMulOk
  intro z
  rw [Bool.and_eq_true] at z
  have z2 := z.2
  unfold Builtin.Int.intTooBig at z2
  have z3 := of_decide_eq_true z2
  rw [e] at z3
  omega
theorem op_mulB : OpR X (binaryOp .Mult) (rI CMulB fun i j => .int (i * j)) := opI fun _ _ _ _ _ _ _ hc q => mul_int q hc.ok
theorem ce_sub (ha : CE X Z a ta) (hb : CE X Z b tb) : CE X Z (.BinOp a .Sub b pos) (rOp gSub ta tb) := gSub_eq ▸ ce_op op_sub opg_I0 ha hb
theorem ce_mod (ha : CE X Z a ta) (hb : CE X Z b tb) : CE X Z (.BinOp a .Mod b pos) (rOp gMod ta tb) := gMod_eq ▸ ce_op op_mod opg_I ha hb
theorem ce_fdiv (ha : CE X Z a ta) (hb : CE X Z b tb) : CE X Z (.BinOp a .FloorDiv b pos) (rOp gDiv ta tb) := gDiv_eq ▸ ce_op op_fdivW opg_I ha hb
theorem ce_pow (ha : CE X Z a ta) (hb : CE X Z b tb) : CE X Z (.BinOp a .Pow b pos) (rOp gPow ta tb) := gPow_eq ▸ ce_op op_pow opg_I ha hb
end
end Pz

namespace Pz
open PySem PySem.Spec PyProof.Rows L2

/-! ### + and * of ints, lists, texts -/
section
variable {X : Cx} {Z : Zp} {a b : Expr} {ta tb : RE} {pos : Pos}
/-- list + list, of any readable lists -/
def rCatS (K : PySem.W.Frag) : R2 := fun x y H Q => ∃ l b xs zs, x = .ref l ∧ y = .ref b ∧ SqL K H l xs ∧ SqL K H b zs ∧ xs.length + zs.length ≤ sizeLine ∧ ∀ p, H p = none → Q (.ref p) (upd H p (.lst (xs ++ zs)))
theorem op_catS : OpR X (binaryOp .Add) (rCatS X.K) := by
  intro pins s σ H x y v u Q I rx ry h
  obtain ⟨l, b, xs, zs, rfl, rfl, hH, hB, hz, q⟩ := h
  cases rx
  cases ry
  obtain ⟨its, r, pl, z⟩ := I.list hH
  obtain ⟨its2, r2, pl2, z2⟩ := I.list hB
  obtain ⟨⟨cls, dd, data, sl⟩, ho, hc, n, hd⟩ := pl.isList
  obtain ⟨⟨cls2, dd2, data2, sl2⟩, ho2, hc2, n2, hd2⟩ := pl2.isList
  simp only at hc hd hc2 hd2
  subst hc hd hc2 hd2
  have h1 := r.length
  have h2 := r2.length
  have e : its.toArray ++ its2.toArray = (its ++ its2).toArray := by simp
  refine PySem.concat_meets ⟨_, ho, rfl⟩ ⟨_, ho2, rfl⟩ noFill_list_add seq_list_add PySem.F.slot_list_add PySem.F.entry_list_add (PySem.F.args_list_add_2 _ _) (PyProof.Rows.list_addW l b its.toArray its2.toArray n n2 dd dd2 sl sl2 (by simp only [List.size_toArray]; omega)) ⟨ho, ho2, ?_⟩
  rw [e]
  exact ⟨.ref _, _, I.lnew (t' := s.toks) (r.append r2) (by rw [List.length_append]; omega), rfl, q _ I.fresh⟩
def gAdd : PV → PV → (PV → Prop) → Prop := fun x y Q => match x.data, y.data with
  | .int i, .int j => Q (.im (.int (i + j)))
  | .list ds, .list es => (x.fz = true ∧ y.fz = true) ∧ ds.length + es.length ≤ sizeLine ∧ Q (.ow (.ls (ds ++ es)))
  | .str i, .str j => i.length + j.length ≤ sizeLine ∧ Q (.im (.str (i ++ j)))
  | _, _ => False
def rAdd2 (K : PySem.W.Frag) : R2 := fun x y H Q => (rI0 (fun i j => .int (i + j)) x y H Q ∨ rCatS K x y H Q) ∨ ∃ i j, x = .str i ∧ y = .str j ∧ i.length + j.length ≤ sizeLine ∧ Q (.str (i ++ j)) H
/-- a new list of frozen items, owned by nobody yet -/
theorem out_new {K : PySem.W.Frag} {F H : Hp} {p : Addr} {vs : List V} {ds : List PyData} (hp : H p = none) (s : Same F H) (d : DpAll K F vs ds) : Out K F H (upd H p (.lst vs)) (.ref p) (.ow (.ls ds)) :=
  ⟨p, [p], rfl, ⟨rfl, vs, upd_same, d⟩, fun a ha => by
    have e : a = p := by simpa using ha
    subst e
    exact ⟨hp, s.free hp, _, upd_same⟩⟩
theorem opg_add : OpG X (rAdd2 X.K) gAdd := by
  intro F H0 H x y v u Q' Q s ox oy h q
  unfold gAdd at h
  split at h
  · rename_i i j hx hy
    exact .inl (.inl ⟨i, j, ox.int s hx, oy.int s hy, q _ _ F H h (.refl s) (Dp.int _)⟩)
  · rename_i ds es hx hy
    obtain ⟨p, vs, rfl, a1, d1⟩ := ox.lstF s hx h.1.1
    obtain ⟨p2, vs2, rfl, a2, d2⟩ := oy.lstF s hy h.1.2
    exact .inl (.inr ⟨p, p2, vs, vs2, rfl, rfl, a1, a2, by rw [dpa_len d1, dpa_len d2]; exact h.2.1, fun l hl => q _ _ F _ h.2.2 (.own s hl) (out_new hl s (dpa_app d1 d2))⟩)
  · rename_i i j hx hy
    exact .inr ⟨i, j, ox.str s hx, oy.str s hy, h.1, q _ _ F H h.2 (.refl s) (Dp.str _)⟩
  · exact h.elim
theorem ce_add (ha : CE X Z a ta) (hb : CE X Z b tb) : CE X Z (.BinOp a .Add b pos) (rOp gAdd ta tb) := ce_op ((op_add.or op_catS).or op_add_str) opg_add ha hb
def gMul : PV → PV → (PV → Prop) → Prop := fun x y Q => match x, y.data with
  | .ow (.ls ds), .int k => (-(2 ^ 63) ≤ k ∧ k < 2 ^ 63 ∧ ds.length * k.toNat ≤ sizeLine) ∧ Q (.ow (.ls (List.replicate k.toNat ds).flatten))
  | x, .int j => match x.data with
    | .int i => CMulB i j ∧ Q (.im (.int (i * j)))
    | _ => False
  | _, _ => False
theorem dpa_rep {K : PySem.W.Frag} {H : Hp} {vs : List V} {ds : List PyData} (h : DpAll K H vs ds) : ∀ n : Nat, DpAll K H (List.replicate n vs).flatten (List.replicate n ds).flatten
  | 0 => by simp; exact .nil
  | n + 1 => by
    rw [List.replicate_succ, List.replicate_succ, List.flatten_cons, List.flatten_cons]
    exact dpa_app h (dpa_rep h n)
theorem opg_mul : OpG X (fun x y H Q => rRep x y H Q ∨ rI CMulB (fun i j => .int (i * j)) x y H Q) gMul := by
  intro F H0 H x y v u Q' Q s ox oy h q
  unfold gMul at h
  split at h
  · rename_i ds k hy
    obtain ⟨p, fp, rfl, ⟨_, vs, e, d⟩, _⟩ := ox
    refine .inl ⟨p, k, vs, rfl, oy.int s hy, e, h.1.1, h.1.2.1, by rw [dpa_len d]; exact h.1.2.2, fun l hl => q _ _ F _ h.2 (.own s hl) (out_new hl s (dpa_rep d _))⟩
  · rename_i j _ hy
    split at h
    · rename_i i hx
      exact .inr ⟨i, j, ox.int s hx, oy.int s hy, h.1, q _ _ F H h.2 (.refl s) (Dp.int _)⟩
    · exact h.elim
  · exact h.elim
theorem ce_mul (ha : CE X Z a ta) (hb : CE X Z b tb) : CE X Z (.BinOp a .Mult b pos) (rOp gMul ta tb) := ce_op (op_rep.or op_mulB) opg_mul ha hb
def rNeg (ta : RE) : RE := fun ex ρ Q => ta ex ρ fun x => match x.data with
  | .int i => Q (.im (.int (-i)))
  | _ => False
theorem ce_neg (ha : CE X Z a ta) : CE X Z (.UnaryOp .USub a pos) (rNeg ta) := fun ex px => by
  refine pe_imp (pe_un un_neg (ha ex px)) ?_
  rintro σ H Q ⟨F, ρ, Q', r, t, q⟩
  refine ⟨F, ρ, _, r, t, fun x v F1 H1 q1 e1 o1 => ?_⟩
  split at q1
  · rename_i i hx
    exact ⟨i, o1.int e1.fh hx, q _ _ F1 H1 q1 e1 (Dp.int _)⟩
  · exact q1.elim
end

/-! ### comparisons -/
abbrev CmpP := PyData → PyData → (Bool → Prop) → Prop
def CmpG (X : Cx) (r : R2) (p : CmpP) : Prop :=
  ∀ (F H0 H : Hp) (x y : PV) (v u : V) (Q' : Bool → Prop) (Q : VK), Same F H → Out X.K F H0 H v x → Out X.K F H0 H u y → p x.data y.data Q' → (∀ k, Q' k → Q (.bl k) H) → r v u H Q
def rCmp (p : CmpP) (ta tb : RE) : RE := fun ex ρ Q => ta ex ρ fun x => tb ex ρ fun y => p x.data y.data fun k => Q (.im (.bool k))
def rCmpT (p : CmpP) (ta tb : RE) : RT := fun ex ρ Q => ta ex ρ fun x => tb ex ρ fun y => p x.data y.data Q
section
variable {X : Cx} {Z : Zp} {a b : Expr} {ta tb : RE} {pos : Pos} {r : R2} {p : CmpP}
theorem ce_cmp {op : CmpOp} (ho : OpR X (compareOp op) r) (hg : CmpG X r p) (hm : behindInMarks op b = false) (ha : CE X Z a ta) (hb : CE X Z b tb) : CE X Z (.Compare a [op] [b] pos) (rCmp p ta tb) := fun ex px => by
  refine pe_imp (pe_cmpR ho (ha ex px) (hb ex px) hm) ?_
  rintro σ H Q ⟨F, ρ, Q', rs, t, q⟩
  refine ⟨F, ρ, _, rs, t, fun x v F1 H1 q1 e1 o1 => ?_⟩
  refine ⟨F1, ρ, _, rs.grow e1, q1, fun y u F2 H2 q2 e2 o2 => ?_⟩
  exact hg F2 H H2 x y v u _ Q e2.fh (o1.keep e2) (o2.earlier e1.hh) q2 fun k qk => q _ _ F2 H2 qk (e1.trans e2) (Dp.bl k)
theorem ct_cmp {op : CmpOp} (ho : OpR X (compareOp op) r) (hg : CmpG X r p) (hm : behindInMarks op b = false) (ha : CE X Z a ta) (hb : CE X Z b tb) : CT X Z (.Compare a [op] [b] pos) (rCmpT p ta tb) := fun ex px => by
  refine pt_imp (pt_cmpR ho (ha ex px) (hb ex px) hm) ?_
  rintro σ H Q ⟨F, ρ, Q', rs, t, q⟩
  refine ⟨F, ρ, _, rs, t, fun x v F1 H1 q1 e1 o1 => ?_⟩
  refine ⟨F1, ρ, _, rs.grow e1, q1, fun y u F2 H2 q2 e2 o2 => ?_⟩
  exact hg F2 H H2 x y v u _ _ e2.fh (o1.keep e2) (o2.earlier e1.hh) q2 fun k qk => ⟨k, rfl, q _ F2 H2 qk (e1.trans e2)⟩
end
def iiP (f : Int → Int → Bool) : CmpP := fun x y Q => match x, y with
  | .int i, .int j => Q (f i j)
  | _, _ => False
def eqP : CmpP := fun x y Q => match x, y with
  | .int i, .int j => Q (decide (i = j))
  | .bool i, .bool j => Q (decide (i = j))
  | .tuple [.int a, .int b], .tuple [.int c, .int d] => Q (decide (a = c ∧ b = d))
  | x, y => SeqAt.shaped x = true ∧ SeqAt.shaped y = true ∧ Q (PyData.eqv x y)
def neP : CmpP := fun x y Q => match x, y with
  | .int i, .int j => Q (!decide (i = j))
  | .bool i, .bool j => Q (!decide (i = j))
  | .tuple [.int a, .int b], .tuple [.int c, .int d] => Q (!decide (a = c ∧ b = d))
  | x, y => SeqAt.shaped x = true ∧ SeqAt.shaped y = true ∧ Q (!PyData.eqv x y)
/-- the right one is None -/
def isP : CmpP := fun x y Q => match x, y with
  | .none, .none => Q true
  | .int _, .none => Q false
  | .bool _, .none => Q false
  | .str _, .none => Q false
  | .list _, .none => Q false
  | .tuple _, .none => Q false
  | _, _ => False
def isnP : CmpP := fun x y Q => isP x y fun k => Q (!k)
section
variable {X : Cx}
theorem cmpg_ii {f : Int → Int → Bool} : CmpG X (rI0 fun i j => .bl (f i j)) (iiP f) := by
  intro F H0 H x y v u Q' Q s ox oy h q
  unfold iiP at h
  split at h
  · rename_i i j hx hy
    exact ⟨i, j, ox.int s hx, oy.int s hy, q _ h⟩
  · exact h.elim
theorem shaped_dp {K : PySem.W.Frag} {F H0 H : Hp} {v : V} {x : PV} (o : Out K F H0 H v x) (s : Same F H) (h : SeqAt.shaped x.data = true) : L2.Dp K H v x.data := by
  rcases o.dd s with d | ⟨k, d⟩
  · exact dp_kit (SeqAt.canLay_of_shaped h) d
  · rw [d] at h
    have := SeqAt.canLay_of_shaped h
    simp [PyData.canLay0] at this
theorem eqv_int (i j : Int) : PyData.eqv (.int i) (.int j) = decide (i = j) := by unfold PyData.eqv; rw [Bool.beq_eq_decide_eq]
theorem eqv_bool (i j : Bool) : PyData.eqv (.bool i) (.bool j) = decide (i = j) := by unfold PyData.eqv; rw [Bool.beq_eq_decide_eq]
theorem shaped_int (i : Int) : SeqAt.shaped (.int i) = true := by simp [SeqAt.shaped, PyData.canLay0, PyData.depth]
theorem shaped_bool (i : Bool) : SeqAt.shaped (.bool i) = true := by simp [SeqAt.shaped, PyData.canLay0, PyData.depth]
theorem eqv_pairP (a b c d : Int) : PyData.eqv (.tuple [.int a, .int b]) (.tuple [.int c, .int d]) = decide (a = c ∧ b = d) := by
  simp [PyData.eqv, PyData.eqvAll, Bool.beq_eq_decide_eq]
theorem shaped_pairP (a b : Int) : SeqAt.shaped (.tuple [.int a, .int b]) = true := by simp [SeqAt.shaped, PyData.canLay0, PyData.canLayAll0, PyData.depth, PyData.depthAll]
theorem eqP_all {x y : PyData} {Q : Bool → Prop} (h : eqP x y Q) : SeqAt.shaped x = true ∧ SeqAt.shaped y = true ∧ Q (PyData.eqv x y) := by
  unfold eqP at h
  split at h
  · rename_i i j; exact ⟨shaped_int i, shaped_int j, by rw [eqv_int]; exact h⟩
  · rename_i i j; exact ⟨shaped_bool i, shaped_bool j, by rw [eqv_bool]; exact h⟩
  · exact ⟨shaped_pairP _ _, shaped_pairP _ _, by rw [eqv_pairP]; exact h⟩
  · exact h
theorem neP_all {x y : PyData} {Q : Bool → Prop} (h : neP x y Q) : SeqAt.shaped x = true ∧ SeqAt.shaped y = true ∧ Q (!PyData.eqv x y) := by
  unfold neP at h
  split at h
  · rename_i i j; exact ⟨shaped_int i, shaped_int j, by rw [eqv_int]; exact h⟩
  · rename_i i j; exact ⟨shaped_bool i, shaped_bool j, by rw [eqv_bool]; exact h⟩
  · exact ⟨shaped_pairP _ _, shaped_pairP _ _, by rw [eqv_pairP]; exact h⟩
  · exact h
theorem cmpg_eq : CmpG X (rEqD X.K) eqP := by
  intro F H0 H x y v u Q' Q s ox oy h q
  obtain ⟨h1, h2, h3⟩ := eqP_all h
  exact ⟨x.data, y.data, shaped_dp ox s h1, shaped_dp oy s h2, h1, h2, q _ h3⟩
theorem cmpg_ne : CmpG X (rNeD X.K) neP := by
  intro F H0 H x y v u Q' Q s ox oy h q
  obtain ⟨h1, h2, h3⟩ := neP_all h
  exact ⟨x.data, y.data, shaped_dp ox s h1, shaped_dp oy s h2, h1, h2, q _ h3⟩
theorem isP_ok {F H0 H : Hp} {x y : PV} {v u : V} {Q : Bool → Prop} (s : Same F H) (ox : Out X.K F H0 H v x) (oy : Out X.K F H0 H u y) (h : isP x.data y.data Q) : u = .non ∧ Q (decide (v = .non)) := by
  unfold isP at h
  split at h
  · rename_i hx hy; refine ⟨oy.non s hy, ?_⟩; rw [ox.non s hx]; exact h
  · rename_i i hx hy; refine ⟨oy.non s hy, ?_⟩; rw [ox.int s hx]; exact h
  · rename_i i hx hy; refine ⟨oy.non s hy, ?_⟩; rw [ox.boo s hx]; exact h
  · rename_i i hx hy; refine ⟨oy.non s hy, ?_⟩; rw [ox.str s hx]; exact h
  · rename_i i hx hy; refine ⟨oy.non s hy, ?_⟩; obtain ⟨p, vs, rfl, _⟩ := ox.lst s hx; exact h
  · rename_i i hx hy; refine ⟨oy.non s hy, ?_⟩; obtain ⟨p, vs, rfl, _⟩ := ox.tup s hx; exact h
  · exact h.elim
theorem cmpg_is : CmpG X (fun x y H Q => y = .non ∧ Q (.bl (decide (x = .non))) H) isP := by
  intro F H0 H x y v u Q' Q s ox oy h q
  obtain ⟨h1, h2⟩ := isP_ok s ox oy h
  exact ⟨h1, q _ h2⟩
theorem cmpg_isn : CmpG X (fun x y H Q => y = .non ∧ Q (.bl (!decide (x = .non))) H) isnP := by
  intro F H0 H x y v u Q' Q s ox oy h q
  obtain ⟨h1, h2⟩ := isP_ok s ox oy h
  exact ⟨h1, q _ h2⟩
end
section
variable {X : Cx} {Z : Zp} {a b : Expr} {ta tb : RE} {pos : Pos}
def ltP : CmpP := fun x y Q => match x, y with
  | .int i, .int j => Q (decide (i < j))
  | _, _ => False
def leP : CmpP := fun x y Q => match x, y with
  | .int i, .int j => Q (decide (i ≤ j))
  | _, _ => False
def gtP : CmpP := fun x y Q => match x, y with
  | .int i, .int j => Q (decide (j < i))
  | _, _ => False
def geP : CmpP := fun x y Q => match x, y with
  | .int i, .int j => Q (decide (j ≤ i))
  | _, _ => False
theorem ce_lt (ha : CE X Z a ta) (hb : CE X Z b tb) : CE X Z (.Compare a [.Lt] [b] pos) (rCmp ltP ta tb) := ce_cmp op_lt (show CmpG X _ ltP from cmpg_ii) (nomark _) ha hb
theorem ce_le (ha : CE X Z a ta) (hb : CE X Z b tb) : CE X Z (.Compare a [.LtE] [b] pos) (rCmp leP ta tb) := ce_cmp op_le (show CmpG X _ leP from cmpg_ii) (nomark _) ha hb
theorem ce_gt (ha : CE X Z a ta) (hb : CE X Z b tb) : CE X Z (.Compare a [.Gt] [b] pos) (rCmp gtP ta tb) := ce_cmp op_gt (show CmpG X _ gtP from cmpg_ii) (nomark _) ha hb
theorem ce_ge (ha : CE X Z a ta) (hb : CE X Z b tb) : CE X Z (.Compare a [.GtE] [b] pos) (rCmp geP ta tb) := ce_cmp op_ge (show CmpG X _ geP from cmpg_ii) (nomark _) ha hb
theorem ce_eq (hu : X.A.units + 64 < cLine) (ha : CE X Z a ta) (hb : CE X Z b tb) : CE X Z (.Compare a [.Eq] [b] pos) (rCmp eqP ta tb) := ce_cmp (op_eqD hu) cmpg_eq (nomark _) ha hb
theorem ce_ne (hu : X.A.units + 64 < cLine) (ha : CE X Z a ta) (hb : CE X Z b tb) : CE X Z (.Compare a [.NotEq] [b] pos) (rCmp neP ta tb) := ce_cmp (op_neD hu) cmpg_ne (nomark _) ha hb
theorem ce_is (ha : CE X Z a ta) (hb : CE X Z b tb) : CE X Z (.Compare a [.Is] [b] pos) (rCmp isP ta tb) := ce_cmp op_isN cmpg_is (nomark _) ha hb
theorem ce_isn (ha : CE X Z a ta) (hb : CE X Z b tb) : CE X Z (.Compare a [.IsNot] [b] pos) (rCmp isnP ta tb) := ce_cmp op_notN cmpg_isn (nomark _) ha hb
theorem ct_lt (ha : CE X Z a ta) (hb : CE X Z b tb) : CT X Z (.Compare a [.Lt] [b] pos) (rCmpT ltP ta tb) := ct_cmp op_lt (show CmpG X _ ltP from cmpg_ii) (nomark _) ha hb
theorem ct_le (ha : CE X Z a ta) (hb : CE X Z b tb) : CT X Z (.Compare a [.LtE] [b] pos) (rCmpT leP ta tb) := ct_cmp op_le (show CmpG X _ leP from cmpg_ii) (nomark _) ha hb
theorem ct_gt (ha : CE X Z a ta) (hb : CE X Z b tb) : CT X Z (.Compare a [.Gt] [b] pos) (rCmpT gtP ta tb) := ct_cmp op_gt (show CmpG X _ gtP from cmpg_ii) (nomark _) ha hb
theorem ct_ge (ha : CE X Z a ta) (hb : CE X Z b tb) : CT X Z (.Compare a [.GtE] [b] pos) (rCmpT geP ta tb) := ct_cmp op_ge (show CmpG X _ geP from cmpg_ii) (nomark _) ha hb
theorem ct_eq (hu : X.A.units + 64 < cLine) (ha : CE X Z a ta) (hb : CE X Z b tb) : CT X Z (.Compare a [.Eq] [b] pos) (rCmpT eqP ta tb) := ct_cmp (op_eqD hu) cmpg_eq (nomark _) ha hb
theorem ct_ne (hu : X.A.units + 64 < cLine) (ha : CE X Z a ta) (hb : CE X Z b tb) : CT X Z (.Compare a [.NotEq] [b] pos) (rCmpT neP ta tb) := ct_cmp (op_neD hu) cmpg_ne (nomark _) ha hb
theorem ct_is (ha : CE X Z a ta) (hb : CE X Z b tb) : CT X Z (.Compare a [.Is] [b] pos) (rCmpT isP ta tb) := ct_cmp op_isN cmpg_is (nomark _) ha hb
theorem ct_isn (ha : CE X Z a ta) (hb : CE X Z b tb) : CT X Z (.Compare a [.IsNot] [b] pos) (rCmpT isnP ta tb) := ct_cmp op_notN cmpg_isn (nomark _) ha hb
end

/-! ### tests -/
def CW (X : Cx) (Z : Zp) (e : Expr) (t : RT) : Prop := ∀ ex, PX X Z ex → PW X e (lT X.K Z (t ex))
def rTV (ta : RE) : RT := fun ex ρ Q => ta ex ρ fun x => match x.data with
  | .bool k => Q k
  | _ => False
def rAnd (ta tb : RT) : RT := fun ex ρ Q => ta ex ρ fun c => (c = true → tb ex ρ Q) ∧ (c = false → Q false)
def rOr (ta tb : RT) : RT := fun ex ρ Q => ta ex ρ fun c => (c = true → Q true) ∧ (c = false → tb ex ρ Q)
def rNot (ta : RT) : RT := fun ex ρ Q => ta ex ρ fun c => Q (!c)
section
variable {X : Cx} {Z : Zp} {a b : Expr} {rest : List Expr} {ta tb : RT} {te tf : RE} {pos : Pos}
theorem ct_val (h : CE X Z a te) (he : ∀ whole, isTrue a X.env whole = (do let v ← whole; standAt a.pos; holding [v] (truthy v))) : CT X Z a (rTV te) := fun ex px => by
  refine pt_imp (pt_val (h ex px) he) ?_
  rintro σ H Q ⟨F, ρ, Q', rs, t, q⟩
  refine ⟨F, ρ, _, rs, t, fun x v F1 H1 q1 e1 o1 => ?_⟩
  split at q1
  · rename_i k hx
    exact ⟨k, o1.boo e1.fh hx, q _ F1 H1 q1 e1⟩
  · exact q1.elim
theorem ct_w (h : CW X Z a ta) : CT X Z a ta := fun ex px => (h ex px).pt
theorem cw_and1 (h : CT X Z a ta) : CW X Z (.BoolOp .And [a] pos) ta := fun ex px => pw_and1 (h ex px)
theorem cw_or1 (h : CT X Z a ta) : CW X Z (.BoolOp .Or [a] pos) ta := fun ex px => pw_or1 (h ex px)
theorem pw_imp {e : Expr} {t u : TT} (h : PW X e t) (i : ∀ σ H Q, u σ H Q → t σ H Q) : PW X e u := ⟨fun w p s σ H Q I q => h.run w p s σ H Q I (i σ H Q q)⟩
theorem cw_and (ha : CT X Z a ta) (hb : CW X Z (.BoolOp .And (b :: rest) pos) tb) : CW X Z (.BoolOp .And (a :: b :: rest) pos) (rAnd ta tb) := fun ex px => by
  refine pw_imp (pw_and (ha ex px) (hb ex px)) ?_
  rintro σ H Q ⟨F, ρ, Q', rs, t, q⟩
  refine ⟨F, ρ, _, rs, t, fun c F1 H1 q1 e1 => ?_⟩
  cases c with
  | true => rw [if_pos rfl]; exact ⟨F1, ρ, _, rs.grow e1, q1.1 rfl, fun k F2 H2 qk e2 => q k F2 H2 qk (e1.trans e2)⟩
  | false => rw [if_neg Bool.false_ne_true]; exact q _ F1 H1 (q1.2 rfl) e1
theorem cw_or (ha : CT X Z a ta) (hb : CW X Z (.BoolOp .Or (b :: rest) pos) tb) : CW X Z (.BoolOp .Or (a :: b :: rest) pos) (rOr ta tb) := fun ex px => by
  refine pw_imp (pw_or (ha ex px) (hb ex px)) ?_
  rintro σ H Q ⟨F, ρ, Q', rs, t, q⟩
  refine ⟨F, ρ, _, rs, t, fun c F1 H1 q1 e1 => ?_⟩
  cases c with
  | true => rw [if_pos rfl]; exact q _ F1 H1 (q1.1 rfl) e1
  | false => rw [if_neg Bool.false_ne_true]; exact ⟨F1, ρ, _, rs.grow e1, q1.2 rfl, fun k F2 H2 qk e2 => q k F2 H2 qk (e1.trans e2)⟩
theorem ct_not (ha : CT X Z a ta) : CT X Z (.UnaryOp .Not a pos) (rNot ta) := fun ex px => by
  refine pt_imp (pt_not (ha ex px)) ?_
  rintro σ H Q ⟨F, ρ, Q', rs, t, q⟩
  exact ⟨F, ρ, _, rs, t, fun c F1 H1 q1 e1 => q _ F1 H1 q1 e1⟩
/-- as values, of bools -/
def rAndV (te tf : RE) : RE := fun ex ρ Q => te ex ρ fun x => match x.data with
  | .bool c => (c = true → tf ex ρ Q) ∧ (c = false → Q (.im (.bool false)))
  | _ => False
def rOrV (te tf : RE) : RE := fun ex ρ Q => te ex ρ fun x => match x.data with
  | .bool c => (c = true → Q (.im (.bool true))) ∧ (c = false → tf ex ρ Q)
  | _ => False
def rNotV (te : RE) : RE := fun ex ρ Q => te ex ρ fun x => match x.data with
  | .bool c => Q (.im (.bool !c))
  | _ => False
theorem ce_one {op} (h : CE X Z a te) : CE X Z (.BoolOp op [a] pos) te := fun ex px => pe_one (h ex px)
theorem ce_and (ha : CE X Z a te) (hb : CE X Z (.BoolOp .And (b :: rest) pos) tf) : CE X Z (.BoolOp .And (a :: b :: rest) pos) (rAndV te tf) := fun ex px => by
  refine pe_imp (pe_and (ha ex px) (hb ex px)) ?_
  rintro σ H Q ⟨F, ρ, Q', rs, t, q⟩
  refine ⟨F, ρ, _, rs, t, fun x v F1 H1 q1 e1 o1 => ?_⟩
  split at q1
  · rename_i c hx
    refine ⟨c, o1.boo e1.fh hx, ?_⟩
    cases c with
    | true => rw [if_pos rfl]; exact ⟨F1, ρ, _, rs.grow e1, q1.1 rfl, fun y w F2 H2 qk e2 o2 => q y w F2 H2 qk (e1.trans e2) (o2.earlier e1.hh)⟩
    | false => rw [if_neg Bool.false_ne_true]; exact q _ _ F1 H1 (q1.2 rfl) e1 (Dp.bl _)
  · exact q1.elim
theorem ce_or (ha : CE X Z a te) (hb : CE X Z (.BoolOp .Or (b :: rest) pos) tf) : CE X Z (.BoolOp .Or (a :: b :: rest) pos) (rOrV te tf) := fun ex px => by
  refine pe_imp (pe_or (ha ex px) (hb ex px)) ?_
  rintro σ H Q ⟨F, ρ, Q', rs, t, q⟩
  refine ⟨F, ρ, _, rs, t, fun x v F1 H1 q1 e1 o1 => ?_⟩
  split at q1
  · rename_i c hx
    refine ⟨c, o1.boo e1.fh hx, ?_⟩
    cases c with
    | true => rw [if_pos rfl]; exact q _ _ F1 H1 (q1.1 rfl) e1 (Dp.bl _)
    | false => rw [if_neg Bool.false_ne_true]; exact ⟨F1, ρ, _, rs.grow e1, q1.2 rfl, fun y w F2 H2 qk e2 o2 => q y w F2 H2 qk (e1.trans e2) (o2.earlier e1.hh)⟩
  · exact q1.elim
theorem ce_not (ha : CE X Z a te) : CE X Z (.UnaryOp .Not a pos) (rNotV te) := fun ex px => by
  refine pe_imp (pe_not (ha ex px)) ?_
  rintro σ H Q ⟨F, ρ, Q', rs, t, q⟩
  refine ⟨F, ρ, _, rs, t, fun x v F1 H1 q1 e1 o1 => ?_⟩
  split at q1
  · rename_i c hx
    exact ⟨c, o1.boo e1.fh hx, q _ _ F1 H1 q1 e1 (Dp.bl _)⟩
  · exact q1.elim
end
end Pz

namespace Pz
open PySem PySem.Spec PyProof.Rows L2

/-! ### arguments, displays -/
def PV.frz : PV → (PyData → Prop) → Prop
  | .im d, Q => Q d
  | .ow (.ls ds), Q => Q (.list ds)
  | .ow (.dc _), Q => Q (.dict [(.none, .none)])
  | _, _ => False
def PV.rdd : PV → (PyData → Prop) → Prop
  | .im d, Q => Q d
  | .ow (.ls ds), Q => Q (.list ds)
  | .lv ds, Q => Q (.list ds)
  | .rd d, Q => Q d
  | _, _ => False
theorem Out.frz {K : PySem.W.Frag} {F H0 H F1 : Hp} {v : V} {x : PV} {Q : PyData → Prop} (o : Out K F H0 H v x) (e : Ext F1 H0 F H) (h : x.frz Q) : ∃ d F', Q d ∧ Ext F1 H0 F' H ∧ Dp K F' v d := by
  cases x with
  | im d => exact ⟨d, F, h, e, o⟩
  | ow c =>
    cases c with
    | ls ds =>
      obtain ⟨p, fp, rfl, ⟨efp, vs, hv, a⟩, k⟩ := o
      subst efp
      obtain ⟨n0, nF, _⟩ := k p (by simp)
      have sF : Same F (upd F p (.lst vs)) := same_upd nF
      have fh : Same (upd F p (.lst vs)) H := fun b u hb => by
        by_cases hbp : b = p
        · subst hbp; rw [upd_same] at hb; cases hb; exact hv
        · rw [upd_ne hbp] at hb; exact e.fh b u hb
      refine ⟨.list ds, upd F p (.lst vs), h, ⟨e.ff.trans sF, e.hh, fh, fun b u hb hn => none_upd (e.nw b u hb hn) (ne_of_none hb n0)⟩, .lst (SqL.of upd_same) (dpAll_mono sF a)⟩
    | dc kvs =>
      obtain ⟨p, fp, rfl, ⟨efp, kv, hv, a⟩, k⟩ := o
      subst efp
      obtain ⟨n0, nF, _⟩ := k p (by simp)
      have sF : Same F (upd F p (.dK kv)) := same_upd nF
      have fh : Same (upd F p (.dK kv)) H := fun b u hb => by
        by_cases hbp : b = p
        · subst hbp; rw [upd_same] at hb; cases hb; exact hv
        · rw [upd_ne hbp] at hb; exact e.fh b u hb
      exact ⟨.dict [(.none, .none)], upd F p (.dK kv), h, ⟨e.ff.trans sF, e.hh, fh, fun b u hb hn => none_upd (e.nw b u hb hn) (ne_of_none hb n0)⟩, .odd upd_same⟩
    | dl _ => exact h.elim
    | dt _ => exact h.elim
    | tl _ _ => exact h.elim
    | ob _ _ => exact h.elim
  | un => exact h.elim
  | xc _ => exact h.elim
  | lv _ => exact h.elim
  | rd _ => exact h.elim
theorem Out.rdd {K : PySem.W.Frag} {F H0 H : Hp} {v : V} {x : PV} {Q : PyData → Prop} (o : Out K F H0 H v x) (s : Same F H) (h : x.rdd Q) : ∃ d, Q d ∧ Dp K H v d := by
  have hd : ∀ d, x.data = d → (∀ k, d ≠ .dict k) → Q d → ∃ d, Q d ∧ Dp K H v d := fun d e n q => by
    rcases o.dd s with z | ⟨k, z⟩
    · exact ⟨d, q, by rw [← e]; exact z⟩
    · exact (n k (by rw [← e, z])).elim
  cases x with
  | im d => exact ⟨d, h, dp_mono s o⟩
  | rd d => exact ⟨d, h, o⟩
  | lv ds => exact hd (.list ds) rfl (fun k z => by cases z) h
  | un => exact h.elim
  | xc _ => exact h.elim
  | ow c =>
    cases c with
    | ls ds => exact hd (.list ds) rfl (fun k z => by cases z) h
    | dc _ => exact h.elim
    | dl _ => exact h.elim
    | dt _ => exact h.elim
    | tl _ _ => exact h.elim
    | ob _ _ => exact h.elim
section
variable {X : Cx} {Z : Zp} {e : Expr} {es : List Expr} {te : RE} {ta : RA} {pos : Pos}
def rNil : RA := fun _ _ Q => Q []
def rCons (te : RE) (tr : RA) : RA := fun ex ρ Q => te ex ρ fun x => x.frz fun d => tr ex ρ fun ds => Q (d :: ds)
def rConsR (te : RE) (tr : RA) : RA := fun ex ρ Q => te ex ρ fun x => x.rdd fun d => tr ex ρ fun ds => Q (d :: ds)
theorem ca_nil : CA X Z [] rNil := fun ex px => by
  refine pa_imp pa_nil ?_
  rintro σ H Q ⟨F, ρ, Q', rs, t, q⟩
  exact q [] [] F H t rfl (.refl rs.ext.fh) .nil
theorem cr_nil : CR X Z [] rNil := fun ex px => by
  refine pa_imp pa_nil ?_
  rintro σ H Q ⟨F, ρ, Q', rs, t, q⟩
  exact q [] [] F H t (.refl rs.ext.fh) .nil
theorem ca_cons (he : CE X Z e te) (hr : CA X Z es ta) (hs : ∀ env, starEach (e :: es) env = (false, eval e env) :: starEach es env := by intro _; rfl) : CA X Z (e :: es) (rCons te ta) := fun ex px => by
  refine pa_imp (pa_cons (he ex px) (hr ex px) (hs _)) ?_
  rintro σ H Q ⟨F, ρ, Q', rs, t, q⟩
  refine ⟨F, ρ, _, rs, t, fun x v F1 H1 q1 e1 o1 => ?_⟩
  obtain ⟨d, F2, q2, e2, d2⟩ := o1.frz e1 q1
  refine ⟨F2, ρ, _, rs.grow e2, q2, fun ds vs F3 H3 q3 hl e3 a3 => ?_⟩
  exact q _ _ F3 H3 q3 (by rw [List.length_cons, List.length_cons, hl]) (e2.trans e3) (.cons (dp_mono e3.ff d2) a3)
theorem cr_cons (he : CE X Z e te) (hr : CR X Z es ta) (hs : ∀ env, starEach (e :: es) env = (false, eval e env) :: starEach es env := by intro _; rfl) : CR X Z (e :: es) (rConsR te ta) := fun ex px => by
  refine pa_imp (pa_cons (he ex px) (hr ex px) (hs _)) ?_
  rintro σ H Q ⟨F, ρ, Q', rs, t, q⟩
  refine ⟨F, ρ, _, rs, t, fun x v F1 H1 q1 e1 o1 => ?_⟩
  obtain ⟨d, q2, d2⟩ := o1.rdd e1.fh q1
  refine ⟨F1, ρ, _, rs.grow e1, q2, fun ds vs F3 H3 q3 e3 a3 => ?_⟩
  exact q _ _ F3 H3 q3 (e1.trans e3) (.cons (dp_mono e3.hh d2) a3)
def rLst (ta : RA) : RE := fun ex ρ Q => ta ex ρ fun ds => Q (.ow (.ls ds))
def rTup (ta : RA) : RE := fun ex ρ Q => ta ex ρ fun ds => Q (.im (.tuple ds))
theorem small_line {n : Nat} (h : n ≤ 1000) : n ≤ sizeLine := Nat.le_of_lt (small1000 h)
theorem ce_lst (h : CA X Z es ta) (hl : es.length ≤ 1000 := by decide) : CE X Z (.List es pos) (rLst ta) := fun ex px => by
  refine pe_imp (pe_lst (h ex px)) ?_
  rintro σ H Q ⟨F, ρ, Q', rs, t, q⟩
  refine ⟨F, ρ, _, rs, t, fun ds vs F1 H1 q1 l1 e1 a1 => ⟨small_line (by rw [dpa_len a1, l1]; exact hl), fun p hp => ?_⟩⟩
  exact q _ _ F1 _ q1 (e1.trans (.own e1.fh hp)) ((out_new hp e1.fh a1).earlier e1.hh)
theorem ce_tup {k} (h : CA X Z es ta) (hl : es.length ≤ 1000 := by decide) : CE X Z (.Tuple es k pos) (rTup ta) := fun ex px => by
  refine pe_imp (pe_tup (h ex px)) ?_
  rintro σ H Q ⟨F, ρ, Q', rs, t, q⟩
  refine ⟨F, ρ, _, rs, t, fun ds vs F1 H1 q1 l1 e1 a1 => ⟨small_line (by rw [dpa_len a1, l1]; exact hl), fun p hp => ?_⟩⟩
  exact q _ _ _ _ q1 (e1.trans (.new e1.fh hp)) (show Dp X.K _ _ _ from .tup (SqT.of upd_same) (dpAll_mono (same_upd (e1.fh.free hp)) a1))
end

/-! ### subscripts, slices, len -/
def gIx : PV → PV → (PV → Prop) → Prop := fun x y Q => match x.data, y.data with
  | .list ds, .int i => ∃ d, atI ds i = some d ∧ Q (nrm x.fz d)
  | .tuple ds, .int i => ∃ d, atI ds i = some d ∧ Q (nrm x.fz d)
  | .str z, .int i => z.length ≤ sizeLine ∧ ∃ c, atI z.cps.toList i = some c ∧ Q (.im (.str ⟨#[c]⟩))
  | _, _ => False
theorem dpa_at {K : PySem.W.Frag} {H : Hp} {vs : List V} {ds : List PyData} {i : Int} {d : PyData} (a : DpAll K H vs ds) (h : atI ds i = some d) : ∃ v, atI vs i = some v ∧ Dp K H v d := by
  unfold atI at h ⊢
  rw [dpa_len a]
  cases hx : ixN ds.length i with
  | none => rw [hx] at h; cases h
  | some j =>
    rw [hx] at h
    exact dpa_get a h
theorem dpa_at2 {K : PySem.W.Frag} {F : Hp} {vs : List V} {ds : List PyData} {i : Int} {v : V} {d : PyData} (a : DpAll K F vs ds) (h : atI ds i = some d) (hv : atI vs i = some v) : Dp K F v d := by
  obtain ⟨w, e, q⟩ := dpa_at a h
  rw [hv] at e
  cases e
  exact q
section
variable {X : Cx} {Z : Zp} {a b : Expr} {ta tb : RE} {pos : Pos}
theorem opg_ix : OpG X (rIx X.K) gIx := by
  intro F H0 H x y v u Q' Q s ox oy h q
  unfold gIx at h
  split at h
  · rename_i ds i hx hy
    obtain ⟨d, hat, hq⟩ := h
    obtain ⟨p, vs, rfl, hS, a, af⟩ := ox.lstB s hx
    obtain ⟨w, hw, dw⟩ := dpa_at a hat
    exact .inl ⟨p, vs, i, w, rfl, oy.int s hy, hS, hw, q _ _ F H hq (.refl s) (out_nrm (fun z => dpa_at2 (af z) hat hw) dw)⟩
  · rename_i ds i hx hy
    obtain ⟨d, hat, hq⟩ := h
    obtain ⟨p, vs, rfl, hS, a, af⟩ := ox.tupB s hx
    obtain ⟨w, hw, dw⟩ := dpa_at a hat
    exact .inr (.inl ⟨p, vs, i, w, rfl, oy.int s hy, hS, hw, q _ _ F H hq (.refl s) (out_nrm (fun z => dpa_at2 (af z) hat hw) dw)⟩)
  · rename_i z i hx hy
    obtain ⟨hl, c, hc, hq⟩ := h
    exact .inr (.inr ⟨z, i, c, ox.str s hx, oy.int s hy, hl, hc, q _ _ F H hq (.refl s) (Dp.str _)⟩)
  · exact h.elim
theorem ce_ix (ha : CE X Z a ta) (hb : CE X Z b tb) (hs : ∀ o i, subscripted b false o i = operate [o, i] (getItem o i)) : CE X Z (.Subscript a b pos) (rOp gIx ta tb) := fun ex px =>
  pe_imp (pe_ix ix_seq (ha ex px) (hb ex px) hs) fun σ H Q h => lE_op opg_ix h
/-- a part of a slice -/
abbrev RO := XW → Rho → (Option Int → Prop) → Prop
def lO (K : PySem.W.Frag) (Z : Zp) (t : Rho → (Option Int → Prop) → Prop) : TO := fun σ H Q => ∃ F ρ Q', RSz K Z F ρ σ H ∧ t ρ Q' ∧ ∀ o F' H', Q' o → Ext F H F' H' → Q o H'
def CO (X : Cx) (Z : Zp) (e : Option Expr) (t : RO) : Prop := ∀ ex, PX X Z ex → PO X e (lO X.K Z (t ex))
def rNoPart : RO := fun _ _ Q => Q none
def rPart (te : RE) : RO := fun ex ρ Q => te ex ρ fun x => match x.data with
  | .int i => Q (some i)
  | _ => False
theorem po_imp {e : Option Expr} {t u : TO} (h : PO X e t) (i : ∀ σ H Q, u σ H Q → t σ H Q) : PO X e u := ⟨fun p s σ H Q I q => h.run p s σ H Q I (i σ H Q q)⟩
theorem co_none : CO X Z none rNoPart := fun ex px => by
  refine po_imp po_none ?_
  rintro σ H Q ⟨F, ρ, Q', rs, t, q⟩
  exact q _ F H t (.refl rs.ext.fh)
theorem co_some (h : CE X Z a ta) : CO X Z (some a) (rPart ta) := fun ex px => by
  refine po_imp (po_some (h ex px)) ?_
  rintro σ H Q ⟨F, ρ, Q', rs, t, q⟩
  refine ⟨F, ρ, _, rs, t, fun x v F1 H1 q1 e1 o1 => ?_⟩
  split at q1
  · rename_i i hx
    exact ⟨i, o1.int e1.fh hx, q _ F1 H1 q1 e1⟩
  · exact q1.elim
/-- the items of a slice of step one -/
def cutD {α : Type} (xs : List α) (lo hi : Option Int) : List α := (xs.drop (HT.sIx xs.length 0 lo)).take (HT.sIx xs.length xs.length hi - HT.sIx xs.length 0 lo)
theorem dpa_cut {K : PySem.W.Frag} {H : Hp} {vs : List V} {ds : List PyData} (a : DpAll K H vs ds) (lo hi : Option Int) : DpAll K H (cutV vs lo hi) (cutD ds lo hi) := by
  unfold cutV cutD
  rw [dpa_len a]
  exact dpa_take _ (dpa_drop _ a)
/-- of a list (its items frozen): a new list -/
def gSl : PV → Option Int → Option Int → (PV → Prop) → Prop := fun x lo hi Q => match x.data with
  | .list ds => x.fz = true ∧ Q (.ow (.ls (cutD ds lo hi)))
  | _ => False
def rSl (ta : RE) (tl th : RO) : RE := fun ex ρ Q => ta ex ρ fun x => tl ex ρ fun lo => th ex ρ fun hi => gSl x lo hi Q
theorem ce_slice {lo hi : Option Expr} {tl th : RO} {p2 : Pos} (ha : CE X Z a ta) (hl : CO X Z lo tl) (hh : CO X Z hi th) : CE X Z (.Subscript a (.Slice lo hi none p2) pos) (rSl ta tl th) := fun ex px => by
  refine pe_imp (pe_slice sl_list (ha ex px) (hl ex px) (hh ex px)) ?_
  rintro σ H Q ⟨F, ρ, Q', rs, t, q⟩
  refine ⟨F, ρ, _, rs, t, fun x v F1 H1 q1 e1 o1 => ?_⟩
  refine ⟨F1, ρ, _, rs.grow e1, q1, fun l F2 H2 q2 e2 => ?_⟩
  refine ⟨F2, ρ, _, rs.grow (e1.trans e2), q2, fun u F3 H3 q3 e3 => ?_⟩
  unfold gSl at q3
  split at q3
  · rename_i ds hx
    obtain ⟨p, vs, rfl, hS, a⟩ := (o1.keep (e2.trans e3)).lstF e3.fh hx q3.1
    exact ⟨p, vs, rfl, hS, fun n hn => q _ _ F3 _ q3.2 (((e1.trans e2).trans e3).trans (.own e3.fh hn)) ((out_new hn e3.fh (dpa_cut a l u)).earlier ((e1.trans e2).trans e3).hh)⟩
  · exact q3.elim

/-! ### built-in functions by name -/
/-- a call of one argument, by its reading on a value -/
def Fn1 (X : Cx) (r : List V → Hp → VK → Prop) (g : PV → (PV → Prop) → Prop) : Prop :=
  ∀ (F H0 H : Hp) (x : PV) (v : V) (Q' : PV → Prop) (Q : VK), Same F H → Out X.K F H0 H v x → g x Q' → (∀ z w F' H', Q' z → Ext F H F' H' → Out X.K F' H H' w z → Q w H') → r [v] H Q
def rFn1 (g : PV → (PV → Prop) → Prop) (ta : RE) : RE := fun ex ρ Q => ta ex ρ fun x => g x Q
/-- of two arguments -/
def Fn2 (X : Cx) (r : List V → Hp → VK → Prop) (g : PV → PV → (PV → Prop) → Prop) : Prop :=
  ∀ (F H0 H : Hp) (x y : PV) (v u : V) (Q' : PV → Prop) (Q : VK), Same F H → Out X.K F H0 H v x → Out X.K F H0 H u y → g x y Q' → (∀ z w F' H', Q' z → Ext F H F' H' → Out X.K F' H H' w z → Q w H') → r [v, u] H Q
theorem lE_fn1 {r : List V → Hp → VK → Prop} {g : PV → (PV → Prop) → Prop} (hg : Fn1 X r g) {ex : XW} {σ : L2.St} {H : Hp} {Q : VK} (h : lE X.K Z (rFn1 g ta ex) σ H Q) : tCB r (tCons (lE X.K Z (ta ex)) tNil) σ H Q := by
  obtain ⟨F, ρ, Q', rs, t, q⟩ := h
  refine ⟨F, ρ, _, rs, t, fun x v F1 H1 q1 e1 o1 => ?_⟩
  exact hg F1 H H1 x v Q' Q e1.fh o1 q1 fun z w F' H' qz e3 o3 => q z w F' H' qz (e1.trans e3) (o3.earlier e1.hh)
theorem lE_fn2 {r : List V → Hp → VK → Prop} {g : PV → PV → (PV → Prop) → Prop} (hg : Fn2 X r g) {ex : XW} {σ : L2.St} {H : Hp} {Q : VK} (h : lE X.K Z (rOp g ta tb ex) σ H Q) : tCB r (tCons (lE X.K Z (ta ex)) (tCons (lE X.K Z (tb ex)) tNil)) σ H Q := by
  obtain ⟨F, ρ, Q', rs, t, q⟩ := h
  refine ⟨F, ρ, _, rs, t, fun x v F1 H1 q1 e1 o1 => ?_⟩
  refine ⟨F1, ρ, _, rs.grow e1, q1, fun y u F2 H2 q2 e2 o2 => ?_⟩
  exact hg F2 H H2 x y v u Q' Q e2.fh (o1.keep e2) (o2.earlier e1.hh) q2 fun z w F' H' qz e3 o3 => q z w F' H' qz ((e1.trans e2).trans e3) (o3.earlier (e1.hh.trans e2.hh))
variable {N : List Str} {sc : Scope} {f : Str} {p : Pos} {r : List V → Hp → VK → Prop}
theorem ce_bi1 {id : String} {g : PV → (PV → Prop) → Prop} (A : Wh X N sc) (hg : Fn1 X r g) (hc : CallR X (.builtin id) r) (hf : GlN sc f) (hm : X.mg f = none) (hv : bootBuiltins f = some (.builtin id)) (ha : CE X Z a ta)
    (hn : f ≠ "__name__") (hdb : (f == ("__debug__" : Str)) = false) (hs : ∀ env, starEach [a] env = (false, eval a env) :: starEach [] env := by intro _; rfl) : CE X Z (.Call (.Name f p) [a] [] pos) (rFn1 g ta) := fun ex px =>
  pe_imp (pe_callB hc (show X.env.scope.names.lookup f = _ by rw [A.hs]; exact hf) hm hv (pa_cons (ha ex px) pa_nil (hs _)) hn hdb (hs _) rfl) fun σ H Q h => lE_fn1 hg h
theorem ce_ty1 {T : String} {g : PV → (PV → Prop) → Prop} (A : Wh X N sc) (hg : Fn1 X r g) (hc : CallR X (.type T) r) (hf : GlN sc f) (hm : X.mg f = none) (hv : bootBuiltins f = some (.type T)) (ha : CE X Z a ta)
    (hn : f ≠ "__name__") (hdb : (f == ("__debug__" : Str)) = false) (hs : ∀ env, starEach [a] env = (false, eval a env) :: starEach [] env := by intro _; rfl) : CE X Z (.Call (.Name f p) [a] [] pos) (rFn1 g ta) := fun ex px =>
  pe_imp (pe_callTy hc (show X.env.scope.names.lookup f = _ by rw [A.hs]; exact hf) hm hv (pa_cons (ha ex px) pa_nil (hs _)) hn hdb (hs _) rfl) fun σ H Q h => lE_fn1 hg h
theorem ce_bi2 {id : String} {g : PV → PV → (PV → Prop) → Prop} (A : Wh X N sc) (hg : Fn2 X r g) (hc : CallR X (.builtin id) r) (hf : GlN sc f) (hm : X.mg f = none) (hv : bootBuiltins f = some (.builtin id)) (ha : CE X Z a ta) (hb : CE X Z b tb)
    (hn : f ≠ "__name__") (hdb : (f == ("__debug__" : Str)) = false) (hs : ∀ env, starEach [a, b] env = (false, eval a env) :: starEach [b] env := by intro _; rfl) (hs2 : ∀ env, starEach [b] env = (false, eval b env) :: starEach [] env := by intro _; rfl) : CE X Z (.Call (.Name f p) [a, b] [] pos) (rOp g ta tb) := fun ex px =>
  pe_imp (pe_callB hc (show X.env.scope.names.lookup f = _ by rw [A.hs]; exact hf) hm hv (pa_cons (ha ex px) (pa_cons (hb ex px) pa_nil (hs2 _)) (hs _)) hn hdb (hs _) (by rw [hs2]; rfl)) fun σ H Q h => lE_fn2 hg h
end

/-! ### which -/
def gLen : PV → (PV → Prop) → Prop := fun x Q => match x.data with
  | .list ds => Q (.im (.int ds.length))
  | .tuple ds => Q (.im (.int ds.length))
  | .str z => z.length ≤ sizeLine ∧ Q (.im (.int z.length))
  | _ => False
def gAbs : PV → (PV → Prop) → Prop := fun x Q => match x.data with
  | .int i => Q (.im (.int (if i < 0 then -i else i)))
  | _ => False
def gInt : PV → (PV → Prop) → Prop := fun x Q => match x.data with
  | .int i => Q (.im (.int i))
  | .bool k => Q (.im (.int (if k then 1 else 0)))
  | _ => False
def gMax : PV → PV → (PV → Prop) → Prop := fun x y Q => match x.data, y.data with
  | .int i, .int j => Q (.im (.int (if j > i then j else i)))
  | _, _ => False
def gMin : PV → PV → (PV → Prop) → Prop := fun x y Q => match x.data, y.data with
  | .int i, .int j => Q (.im (.int (if j < i then j else i)))
  | _, _ => False
/-- list(x): a new list -/
def gList : PV → (PV → Prop) → Prop := fun x Q => match x.data with
  | .list ds => x.fz = true ∧ Q (.ow (.ls ds))
  | .tuple ds => x.fz = true ∧ Q (.ow (.ls ds))
  | _ => False
/-- lists of ints -/
def intsOf : List PyData → Option (List Int)
  | [] => some []
  | .int i :: r => (intsOf r).map (i :: ·)
  | _ => none
theorem intsOf_map (ns : List Int) : intsOf (ns.map PyData.int) = some ns := by
  induction ns with
  | nil => rfl
  | cons n r ih => rw [List.map_cons]; unfold intsOf; rw [ih]; rfl
theorem intsOf_inv : ∀ {ds : List PyData} {ns : List Int}, intsOf ds = some ns → ds = ns.map PyData.int
  | [], ns, h => by cases h; rfl
  | d :: r, ns, h => by
    cases d with
    | int i =>
      unfold intsOf at h
      cases hr : intsOf r with
      | none => rw [hr] at h; cases h
      | some ms =>
        rw [hr] at h
        cases h
        rw [List.map_cons, intsOf_inv hr]
    | _ => cases h
def gSum : PV → (PV → Prop) → Prop := fun x Q => match x.data with
  | .list ds => ∃ ns : List Int, ds = ns.map PyData.int ∧ Q (.im (.int ns.sum))
  | _ => False
def gMaxL : PV → (PV → Prop) → Prop := fun x Q => match x.data with
  | .list ds => ∃ ns : List Int, ds = ns.map PyData.int ∧ 0 < ns.length ∧ ∀ m, m ∈ ns → (∀ y, y ∈ ns → y ≤ m) → Q (.im (.int m))
  | _ => False
def gMinL : PV → (PV → Prop) → Prop := fun x Q => match x.data with
  | .list ds => ∃ ns : List Int, ds = ns.map PyData.int ∧ 0 < ns.length ∧ ∀ m, m ∈ ns → (∀ y, y ∈ ns → m ≤ y) → Q (.im (.int m))
  | _ => False
section
variable {X : Cx}
theorem fn_len : Fn1 X (fun xs H Q => ∃ x n, xs = [x] ∧ LenV X.K x H n ∧ Q (.int n) H) gLen := by
  intro F H0 H x v Q' Q s o h q
  unfold gLen at h
  split at h
  · rename_i ds hx
    obtain ⟨p, vs, rfl, hS, a⟩ := o.lst s hx
    exact ⟨_, ds.length, rfl, .inl ⟨vs, hS, (dpa_len a).symm⟩, q _ _ F H h (.refl s) (Dp.int _)⟩
  · rename_i ds hx
    obtain ⟨p, vs, rfl, hS, a⟩ := o.tup s hx
    exact ⟨_, ds.length, rfl, .inr ⟨vs, hS, (dpa_len a).symm⟩, q _ _ F H h (.refl s) (Dp.int _)⟩
  · rename_i z hx
    have e := o.str s hx
    subst e
    exact ⟨_, z.length, rfl, ⟨h.1, rfl⟩, q _ _ F H h.2 (.refl s) (Dp.int _)⟩
  · exact h.elim
theorem fn_abs : Fn1 X (fun xs H Q => ∃ i, xs = [.int i] ∧ Q (.int (if i < 0 then -i else i)) H) gAbs := by
  intro F H0 H x v Q' Q s o h q
  unfold gAbs at h
  split at h
  · rename_i i hx
    exact ⟨i, by rw [o.int s hx], q _ _ F H h (.refl s) (Dp.int _)⟩
  · exact h.elim
theorem fn_int : Fn1 X (fun xs H Q => (∃ i, xs = [.int i] ∧ Q (.int i) H) ∨ ∃ k, xs = [.bl k] ∧ Q (.int (if k then 1 else 0)) H) gInt := by
  intro F H0 H x v Q' Q s o h q
  unfold gInt at h
  split at h
  · rename_i i hx
    exact .inl ⟨i, by rw [o.int s hx], q _ _ F H h (.refl s) (Dp.int _)⟩
  · rename_i i hx
    exact .inr ⟨i, by rw [o.boo s hx], q _ _ F H h (.refl s) (Dp.int _)⟩
  · exact h.elim
theorem fn_max : Fn2 X (fun xs H Q => ∃ i j, xs = [.int i, .int j] ∧ Q (.int (if j > i then j else i)) H) gMax := by
  intro F H0 H x y v u Q' Q s ox oy h q
  unfold gMax at h
  split at h
  · rename_i i j hx hy
    exact ⟨i, j, by rw [ox.int s hx, oy.int s hy], q _ _ F H h (.refl s) (Dp.int _)⟩
  · exact h.elim
theorem fn_min : Fn2 X (fun xs H Q => ∃ i j, xs = [.int i, .int j] ∧ Q (.int (if j < i then j else i)) H) gMin := by
  intro F H0 H x y v u Q' Q s ox oy h q
  unfold gMin at h
  split at h
  · rename_i i j hx hy
    exact ⟨i, j, by rw [ox.int s hx, oy.int s hy], q _ _ F H h (.refl s) (Dp.int _)⟩
  · exact h.elim
theorem fn_list : Fn1 X (fun xs H Q => ∃ p ys, xs = [.ref p] ∧ (SqL X.K H p ys ∨ SqT X.K H p ys) ∧ ∀ l, H l = none → Q (.ref l) (upd H l (.lst ys))) gList := by
  intro F H0 H x v Q' Q s o h q
  unfold gList at h
  split at h
  · rename_i ds hx
    obtain ⟨p, vs, rfl, hS, a⟩ := o.lstF s hx h.1
    exact ⟨p, vs, rfl, .inl hS, fun l hl => q _ _ F _ h.2 (.own s hl) (out_new hl s a)⟩
  · rename_i ds hx
    obtain ⟨p, vs, rfl, hS, a⟩ := o.tupF s hx h.1
    exact ⟨p, vs, rfl, .inr hS, fun l hl => q _ _ F _ h.2 (.own s hl) (out_new hl s a)⟩
  · exact h.elim
theorem fn_sum : Fn1 X (rSum X.K) gSum := by
  intro F H0 H x v Q' Q s o h q
  unfold gSum at h
  split at h
  · rename_i ds hx
    obtain ⟨ns, rfl, h⟩ := h
    obtain ⟨p, vs, rfl, hS, a⟩ := o.lst s hx
    have e := dpa_ints_inv a
    subst e
    exact ⟨p, ns, rfl, hS, q _ _ F H h (.refl s) (Dp.int _)⟩
  · exact h.elim
theorem fn_maxL : Fn1 X (rMax X.K) gMaxL := by
  intro F H0 H x v Q' Q s o h q
  unfold gMaxL at h
  split at h
  · rename_i ds hx
    obtain ⟨ns, rfl, h0, h⟩ := h
    obtain ⟨p, vs, rfl, hS, a⟩ := o.lst s hx
    have e := dpa_ints_inv a
    subst e
    exact ⟨p, ns, rfl, hS, h0, fun m h1 h2 => q _ _ F H (h m h1 h2) (.refl s) (Dp.int _)⟩
  · exact h.elim
theorem fn_minL : Fn1 X (rMin X.K) gMinL := by
  intro F H0 H x v Q' Q s o h q
  unfold gMinL at h
  split at h
  · rename_i ds hx
    obtain ⟨ns, rfl, h0, h⟩ := h
    obtain ⟨p, vs, rfl, hS, a⟩ := o.lst s hx
    have e := dpa_ints_inv a
    subst e
    exact ⟨p, ns, rfl, hS, h0, fun m h1 h2 => q _ _ F H (h m h1 h2) (.refl s) (Dp.int _)⟩
  · exact h.elim
end
end Pz

namespace Pz
open PySem PySem.Spec PyProof.Rows L2

/-! ### isinstance against a built-in type -/
inductive Tn where
  | int | bool | list | tuple | str
def Tn.nm : Tn → String
  | .int => "int" | .bool => "bool" | .list => "list" | .tuple => "tuple" | .str => "str"
def isi : Tn → PyData → Option Bool
  | .int, .int _ => some true | .int, .bool _ => some true | .int, .dict [] => none | .int, .dict (_ :: _) => some false | .int, _ => some false
  | .bool, .bool _ => some true | .bool, .dict [] => none | .bool, .dict (_ :: _) => some false | .bool, _ => some false
  | .list, .list _ => some true | .list, .dict [] => none | .list, .dict (_ :: _) => some false | .list, _ => some false
  | .tuple, .tuple _ => some true | .tuple, .dict [] => none | .tuple, .dict (_ :: _) => some false | .tuple, _ => some false
  | .str, .str _ => some true | .str, .dict [] => none | .str, .dict (_ :: _) => some false | .str, _ => some false
def gIsi (T : Tn) : PV → (PV → Prop) → Prop := fun x Q => match isi T x.data with
  | some b => Q (.im (.bool b))
  | none => False
section
variable {X : Cx} {Z : Zp} {N : List Str} {sc : Scope} {a : Expr} {ta : RE} {pos p p2 : Pos} {f tn : Str}
theorem tyx_list {K : PySem.W.Frag} {H : Hp} {q : Addr} {xs : List V} (h : SqL K H q xs) : TyX K H (.ref q) (.type "list") := by
  rcases h with (h | ⟨o, h⟩) | ⟨o, its, n, e, c, _⟩
  · exact .base (.lst h)
  · exact .base (.frz h)
  · exact .kList e c
theorem tyx_tup {K : PySem.W.Frag} {H : Hp} {q : Addr} {xs : List V} (h : SqT K H q xs) : TyX K H (.ref q) (.type "tuple") := by
  rcases h with (h | ⟨o, h⟩) | ⟨o, its, n, e, c, _⟩
  · exact .base (.tup h)
  · exact .fTuple h
  · exact .kTuple e c
theorem isi_ok {K : PySem.W.Frag} {F H0 H : Hp} {v : V} {x : PV} {T : Tn} {b : Bool} (o : Out K F H0 H v x) (s : Same F H) (h : isi T x.data = some b) : ∃ t, TyX K H v t ∧ PySem.W.kitOne K t (.type T.nm) = some b := by
  rcases o.dd2 s with d | d
  · generalize x.data = e at d h
    cases d with
    | non => refine ⟨.type "NoneType", .base .non, ?_⟩; cases T <;> cases h <;> exact kit_ty (by decide +kernel)
    | bl _ => refine ⟨.type "bool", .base (.bl _), ?_⟩; cases T <;> cases h <;> exact kit_ty (by decide +kernel)
    | int _ => refine ⟨.type "int", .base (.int _), ?_⟩; cases T <;> cases h <;> exact kit_ty (by decide +kernel)
    | str _ => refine ⟨.type "str", .base (.str _), ?_⟩; cases T <;> cases h <;> exact kit_ty (by decide +kernel)
    | lst hq _ => refine ⟨.type "list", tyx_list hq, ?_⟩; cases T <;> cases h <;> exact kit_ty (by decide +kernel)
    | tup hq _ => refine ⟨.type "tuple", tyx_tup hq, ?_⟩; cases T <;> cases h <;> exact kit_ty (by decide +kernel)
    | odd hq => refine ⟨.type "dict", .base (.dK hq), ?_⟩; cases T <;> cases h <;> exact kit_ty (by decide +kernel)
  · rw [d] at h
    cases T <;> cases h
theorem ce_isi {T : Tn} (A : Wh X N sc) (hf : GlN sc f) (hm : X.mg f = none) (hv : bootBuiltins f = some (.builtin "isinstance")) (ht : GlN sc tn) (hmt : X.mg tn = none) (hvt : bootBuiltins tn = some (.type T.nm)) (ha : CE X Z a ta)
    (hn : f ≠ "__name__") (hdb : (f == ("__debug__" : Str)) = false) (hn2 : tn ≠ "__name__") (hdb2 : (tn == ("__debug__" : Str)) = false)
    (hs : ∀ env, starEach [a, .Name tn p2] env = (false, eval a env) :: starEach [.Name tn p2] env := by intro _; rfl) : CE X Z (.Call (.Name f p) [a, .Name tn p2] [] pos) (rFn1 (gIsi T) ta) := fun ex px => by
  refine pe_imp (pe_callB call_isi (show X.env.scope.names.lookup f = _ by rw [A.hs]; exact hf) hm hv (pa_cons (ha ex px) (pa_cons (pe_bltn (v := .ty T.nm) (show X.env.scope.names.lookup tn = _ by rw [A.hs]; exact ht) hmt hvt rfl hn2 hdb2) pa_nil rfl) (hs _)) hn hdb (hs _) rfl) ?_
  rintro σ H Q ⟨F, ρ, Q', rs, t, q⟩
  refine ⟨F, ρ, _, rs, t, fun x v F1 H1 q1 e1 o1 => ?_⟩
  unfold gIsi at q1
  split at q1
  · rename_i b hb
    obtain ⟨t', ty, kk⟩ := isi_ok o1 e1.fh hb
    exact ⟨v, .ty T.nm, t', _, b, rfl, .ty _, ty, kk, q _ _ F1 H1 q1 e1 (Dp.bl b)⟩
  · exact q1.elim
end

/-! ### the text's own defs -/
abbrev PSp := List PyData → (PV → Prop) → (Xn → Prop) → Prop
def lSp (K : PySem.W.Frag) (cl : Xn → Addr) (sp : PSp) : Sp := fun vs H Q E => ∃ F ds Q' E', Same F H ∧ DpAll K F vs ds ∧ sp ds Q' E' ∧ (∀ x v F' H', Q' x → Ext F H F' H' → Out K F' H H' v x → Q v H') ∧ ∀ c H', E' c → Same H H' → E (.ref (cl c)) none H'
/-- a def of the text stands at its name and keeps the promise sp, at the level k -/
def FnAt (P : Program) (w : World) (K : PySem.W.Frag) (mg : Str → Option Value) (base : Heap) (cl : Xn → Addr) (k : Nat) (x : Str) (ps : List Str) (sp : PSp) : Prop :=
  ∃ f fd, mg x = some (.ref f) ∧ PySem.W.keepIn K (.ref f) = true ∧ Binds K fd ps [] ∧ FnOk P w K mg base (L2.CX P w) k f fd ps (lSp K cl sp)
def rCall (sp : PSp) (ta : RA) : RE := fun ex ρ Q => ta ex ρ fun ds => sp ds Q fun c => ex c ρ
def PV.weak : PV → (PV → Prop) → Prop
  | .im d, Q => Q (nrm false d)
  | .ow (.ls ds), Q => Q (.rd (.list ds))
  | .lv ds, Q => Q (.rd (.list ds))
  | .rd d, Q => Q (.rd d)
  | _, _ => False
/-- a new list of scalars stays owned -/
def PV.weakO : PV → (PV → Prop) → Prop
  | .im d, Q => Q (nrm false d)
  | .ow (.ls ds), Q => (∀ d ∈ ds, scl d = true) ∧ Q (.ow (.ls ds))
  | _, _ => False
def rCallO (sp : PSp) (ta : RA) : RE := fun ex ρ Q => ta ex ρ fun ds => sp ds (fun x => x.weakO Q) fun c => ex c ρ
def rCallR (sp : PSp) (ta : RA) : RE := fun ex ρ Q => ta ex ρ fun ds => sp ds (fun x => x.weak Q) fun c => ex c ρ
section
variable {X : Cx} {Z : Zp} {N : List Str} {sc : Scope} {e : Expr} {es : List Expr} {ta : RA} {pos p : Pos} {x : Str} {k : Nat} {ps : List Str} {sp : PSp}
theorem ext_same {F H H' : Hp} (s : Same F H) (k : Same H H') : Ext F H F H' := ⟨.refl _, k, s.trans k, fun _ _ _ h => h⟩
theorem ce_call (G : FnAt X.prog X.w X.K X.mg X.base Z.cl k x ps sp) (A : Wh X N sc) (hr : Room k X.A) (hg : GlN sc x) (ha : CA X Z (e :: es) ta) (hdb : (x == ("__debug__" : Str)) = false)
    (he : ∀ env, starEach (e :: es) env = (false, eval e env) :: starEach es env := by intro _; rfl) (hpl : ∀ env, (backTo pos (starEach es env)).any (·.1) = false := by intro _; rfl) : CE X Z (.Call (.Name x p) (e :: es) [] pos) (rCall sp ta) := fun ex px => by
  obtain ⟨f, fd, hm, hk, hb, G⟩ := G
  refine pe_imp (pe_callS G hr (show X.env.scope.names.lookup x = _ by rw [A.hs]; exact hg) hm hk hb (fun σ => passAt px.tk σ) (ha ex px) hdb (he _) (hpl _)) ?_
  rintro σ H Q ⟨F, ρ, Q', rs, t, q⟩
  refine ⟨F, ρ, _, rs, t, fun ds vs F1 H1 q1 l1 e1 a1 => ?_⟩
  exact ⟨F1, ds, Q', _, e1.fh, a1, q1, fun y v F' H' qy e2 o2 => q y v F' H' qy (e1.trans e2) (o2.earlier e1.hh), fun c H' hc s => ⟨c, F1, ρ, rfl, rfl, (rs.grow e1).grow (ext_same e1.fh s), hc⟩⟩
theorem ce_callR (G : FnAt X.prog X.w X.K X.mg X.base Z.cl k x ps sp) (A : Wh X N sc) (hr : Room k X.A) (hg : GlN sc x) (ha : CR X Z (e :: es) ta) (hdb : (x == ("__debug__" : Str)) = false)
    (he : ∀ env, starEach (e :: es) env = (false, eval e env) :: starEach es env := by intro _; rfl) (hpl : ∀ env, (backTo pos (starEach es env)).any (·.1) = false := by intro _; rfl) : CE X Z (.Call (.Name x p) (e :: es) [] pos) (rCallR sp ta) := fun ex px => by
  obtain ⟨f, fd, hm, hk, hb, G⟩ := G
  refine pe_imp (pe_callS G hr (show X.env.scope.names.lookup x = _ by rw [A.hs]; exact hg) hm hk hb (fun σ => passAt px.tk σ) (ha ex px) hdb (he _) (hpl _)) ?_
  rintro σ H Q ⟨F, ρ, Q', rs, t, q⟩
  refine ⟨F, ρ, _, rs, t, fun ds vs F1 H1 q1 e1 a1 => ?_⟩
  refine ⟨H1, ds, _, _, .refl _, a1, q1, fun y v F' H' qy e2 o2 => ?_, fun c H' hc s => ⟨c, F1, ρ, rfl, rfl, (rs.grow e1).grow (ext_same e1.fh s), hc⟩⟩
  have e3 := e1.trans (ext_same e1.fh e2.hh)
  cases y with
  | un => exact qy.elim
  | xc _ => exact qy.elim
  | im d => exact q _ v F1 H' qy e3 (out_nrm (fun z => by cases z) (dp_mono e2.fh o2))
  | rd d => exact q _ v F1 H' qy e3 o2
  | lv ds =>
    obtain ⟨p, vs, rfl, h2, h3⟩ := o2
    exact q _ _ F1 H' qy e3 (show Dp X.K H' _ _ from .lst h2 (dpAll_mono e2.fh h3))
  | ow c =>
    cases c with
    | ls ds =>
      obtain ⟨p, fp, rfl, w, _⟩ := o2
      exact q _ _ F1 H' qy e3 (w.dp e2.fh)
    | dc _ => exact qy.elim
    | dl _ => exact qy.elim
    | dt _ => exact qy.elim
    | tl _ _ => exact qy.elim
    | ob _ _ => exact qy.elim
theorem scl_dpa {K : PySem.W.Frag} {H F : Hp} : ∀ {vs : List V} {ds : List PyData}, (∀ d ∈ ds, scl d = true) → DpAll K H vs ds → DpAll K F vs ds
  | _, _, _, .nil => .nil
  | _, _, h, .cons x t => .cons (scl_dp (h _ List.mem_cons_self) x) (scl_dpa (fun d hd => h d (List.mem_cons_of_mem _ hd)) t)
theorem ce_callO (G : FnAt X.prog X.w X.K X.mg X.base Z.cl k x ps sp) (A : Wh X N sc) (hr : Room k X.A) (hg : GlN sc x) (ha : CR X Z (e :: es) ta) (hdb : (x == ("__debug__" : Str)) = false)
    (he : ∀ env, starEach (e :: es) env = (false, eval e env) :: starEach es env := by intro _; rfl) (hpl : ∀ env, (backTo pos (starEach es env)).any (·.1) = false := by intro _; rfl) : CE X Z (.Call (.Name x p) (e :: es) [] pos) (rCallO sp ta) := fun ex px => by
  obtain ⟨f, fd, hm, hk, hb, G⟩ := G
  refine pe_imp (pe_callS G hr (show X.env.scope.names.lookup x = _ by rw [A.hs]; exact hg) hm hk hb (fun σ => passAt px.tk σ) (ha ex px) hdb (he _) (hpl _)) ?_
  rintro σ H Q ⟨F, ρ, Q', rs, t, q⟩
  refine ⟨F, ρ, _, rs, t, fun ds vs F1 H1 q1 e1 a1 => ?_⟩
  refine ⟨H1, ds, _, _, .refl _, a1, q1, fun y v F' H' qy e2 o2 => ?_, fun c H' hc s => ⟨c, F1, ρ, rfl, rfl, (rs.grow e1).grow (ext_same e1.fh s), hc⟩⟩
  have e3 := e1.trans (ext_same e1.fh e2.hh)
  cases y with
  | un => exact qy.elim
  | xc _ => exact qy.elim
  | im d => exact q _ v F1 H' qy e3 (out_nrm (fun z => by cases z) (dp_mono e2.fh o2))
  | rd d => exact qy.elim
  | lv ds => exact qy.elim
  | ow c =>
    cases c with
    | ls ds =>
      obtain ⟨hs, qy⟩ := qy
      obtain ⟨p, fp, rfl, ⟨rfl, vs, hp, a⟩, k⟩ := o2
      refine q _ _ F1 H' qy e3 ⟨p, [p], rfl, ⟨rfl, vs, hp, scl_dpa hs a⟩, fun a ha => ?_⟩
      obtain ⟨h1, h2, h3⟩ := k a ha
      exact ⟨e1.hh.free h1, e1.fh.free h1, h3⟩
    | dc _ => exact qy.elim
    | dl _ => exact qy.elim
    | dt _ => exact qy.elim
    | tl _ _ => exact qy.elim
    | ob _ _ => exact qy.elim
end

/-! ### statements -/
def PV.sto : PV → (PV → Prop) → Prop
  | .im d, Q => Q (.im d)
  | .ow c, Q => Q (.ow c)
  | _, _ => False
theorem PV.sto_ok {x : PV} {Q : PV → Prop} (h : x.sto Q) : x.keeps = true ∧ Q x := by
  cases x with
  | im d => exact ⟨rfl, h⟩
  | ow c => exact ⟨rfl, h⟩
  | un => exact h.elim
  | xc _ => exact h.elim
  | lv _ => exact h.elim
  | rd _ => exact h.elim
def rSkip : RC := fun D ρ => D.nx ρ
def rSeq (t u : RC) : RC := fun D ρ => t { D with nx := fun ρ' => u D ρ' } ρ
def rDrop (te : RE) : RC := fun D ρ => te D.ex ρ fun _ => D.nx ρ
def rRet (te : RE) : RC := fun D ρ => te D.ex ρ fun x => D.rt x ρ
def rRetV (i : Nat) : RC := fun D ρ => match ρ[i]? with
  | some (.im d) => D.rt (.im d) ρ
  | some (.ow c) => D.rt (.ow c) (ρ.set i .un)
  | _ => False
def rRetN : RC := fun D ρ => D.rt (.im .none) ρ
def rIf (c : RT) (t u : RC) : RC := fun D ρ => c D.ex ρ fun b => (b = true → t D ρ) ∧ (b = false → u D ρ)
def rSet (i : Nat) (te : RE) : RC := fun D ρ => te D.ex ρ fun x => x.sto fun y => D.nx (ρ.set i y)
/-- a slot's list is frozen from here on -/
def rFz (i : Nat) : RC := fun D ρ => match ρ[i]? with
  | some (.ow (.ls ds)) => D.nx (ρ.set i (.im (.list ds)))
  | _ => D.nx ρ
/-- a slot is forgotten -/
def rUn (i : Nat) : RC := fun D ρ => D.nx (ρ.set i .un)
def rCont : RC := fun D ρ => D.ct ρ
def rBreak : RC := fun D ρ => D.bk ρ
section
variable {X : Cx} {Z : Zp} {N : List Str} {sc : Scope} {a e : Expr} {te : RE} {c : RT} {t u : RC} {s : Stmt} {ss rest : List Stmt} {pos : Pos}
theorem css_nil : CSs X Z [] rSkip := fun ex px => by
  refine pss_imp pss_nil ?_
  rintro D σ H ⟨F, ρ, D', rs, t, _, n, _⟩
  exact n F ρ σ H rs t
theorem css_cons (h1 : CS X Z s t) (h2 : CSs X Z rest u) : CSs X Z (s :: rest) (rSeq t u) := fun ex px => by
  refine pss_imp (pss_cons (h1 ex px) (h2 ex px)) ?_
  rintro D σ H ⟨F, ρ, D', rs, t, hx, n, b, k, r⟩
  exact ⟨F, ρ, _, rs, t, hx, fun F ρ σ H rs q => ⟨F, ρ, D', rs, q, hx, n, b, k, r⟩, b, k, r⟩
theorem css_one (h1 : CS X Z s t) : CSs X Z [s] t := fun ex px => pss_one (h1 ex px)
/-- a step of the proof alone, ahead of a block -/
theorem css_fz (i : Nat) (h : CSs X Z ss t) : CSs X Z ss (rSeq (rFz i) t) := fun ex px => by
  refine pss_imp (h ex px) ?_
  rintro D σ H ⟨F, ρ, D', rs, t, hx, n, b, k, r⟩
  unfold rSeq rFz at t
  split at t
  · rename_i ds e
    obtain ⟨F', rs'⟩ := rs.freeze e
    exact ⟨F', _, D', rs', t, hx, n, b, k, r⟩
  · exact ⟨F, ρ, D', rs, t, hx, n, b, k, r⟩
theorem cs_expr (he : CE X Z e te) (hs : ∀ env, swapsWith e none pos.line env = pure false := by intro _; rfl) : CS X Z (.Expr e pos) (rDrop te) := fun ex px => by
  refine ps_imp (ps_expr (he ex px) (hs _)) ?_
  rintro D σ H ⟨F, ρ, D', rs, t, hx, n, b, k, r⟩
  subst hx
  exact ⟨F, ρ, _, rs, t, fun x v F' H' q e o => n F' ρ σ H' (rs.grow e) q⟩
theorem cs_ret (he : CE X Z e te) : CS X Z (.Return (some e) pos) (rRet te) := fun ex px => by
  refine ps_imp (ps_ret (he ex px)) ?_
  rintro D σ H ⟨F, ρ, D', rs, t, hx, n, b, k, r⟩
  subst hx
  exact ⟨F, ρ, _, rs, t, fun x v F' H' q e o => r x v F' ρ σ H' q (rs.grow e) (o.earlier rs.ext.hh)⟩
theorem cs_retV (A : Wh X N sc) (i : Nat) {x : Str} {p2 : Pos} (hi : N[i]? = some x) (hv : Vis sc x) (hd : (x == ("__debug__" : Str)) = false) (hcd : (x == ("__classdict__" : Str)) = false) : CS X Z (.Return (some (.Name x p2)) pos) (rRetV i) := fun ex px => by
  refine ps_imp (ps_ret (pe_var (i := i) (by rw [A.hN]; exact hi) (by rw [A.hs]; exact hv) hd hcd)) ?_
  rintro D σ H ⟨F, ρ, D', rs, t, hx, n, b, k, r⟩
  obtain ⟨fps, h1, h2, h3⟩ := rs.sl
  unfold rRetV at t
  split at t
  · rename_i d e
    have hl : i < σ.length := by rw [← rs.len]; exact (List.getElem?_eq_some_iff.mp e).1
    obtain ⟨_, v, ev, dv⟩ := h1 i _ _ e (List.getElem?_eq_getElem hl)
    exact ⟨v, by rw [List.getElem?_eq_getElem hl, ev], r _ v F ρ σ H t rs dv⟩
  · rename_i c e
    have hl : i < σ.length := by rw [← rs.len]; exact (List.getElem?_eq_some_iff.mp e).1
    obtain ⟨p, ev, w⟩ := h1 i _ _ e (List.getElem?_eq_getElem hl)
    exact ⟨.ref p, by rw [List.getElem?_eq_getElem hl, ev], r _ _ F _ _ H t (rs.forget i none) ⟨p, _, rfl, w, fun a ha => h2 i a ha⟩⟩
  · exact t.elim
theorem cs_retN : CS X Z (.Return none pos) rRetN := fun ex px => by
  refine ps_imp ps_retN ?_
  rintro D σ H ⟨F, ρ, D', rs, t, hx, n, b, k, r⟩
  exact r _ _ F ρ σ H t rs (Dp.non)
theorem cs_if {body els : List Stmt} (hc : CT X Z e c) (ha : CSs X Z body t) (hb : CSs X Z els u) : CS X Z (.If e body els pos) (rIf c t u) := fun ex px => by
  refine ps_imp (ps_if (hc ex px) (ha ex px) (hb ex px)) ?_
  rintro D σ H ⟨F, ρ, D', rs, t, hx, n, b, k, r⟩
  subst hx
  refine ⟨F, ρ, _, rs, t, fun z F' H' q e => ?_⟩
  cases z with
  | true => rw [if_pos rfl]; exact ⟨F', ρ, D', rs.grow e, q.1 rfl, rfl, n, b, k, r⟩
  | false => rw [if_neg Bool.false_ne_true]; exact ⟨F', ρ, D', rs.grow e, q.2 rfl, rfl, n, b, k, r⟩
theorem cs_pass : CS X Z (.Pass pos) rSkip := fun ex px => by
  refine ps_imp ps_pass ?_
  rintro D σ H ⟨F, ρ, D', rs, t, _, n, _⟩
  exact n F ρ σ H rs t
theorem cs_cont : CS X Z (.Continue pos) rCont := fun ex px => by
  refine ps_imp ps_continue ?_
  rintro D σ H ⟨F, ρ, D', rs, t, _, n, b, k, _⟩
  exact k F ρ σ H rs t
theorem cs_break : CS X Z (.Break pos) rBreak := fun ex px => by
  refine ps_imp ps_break ?_
  rintro D σ H ⟨F, ρ, D', rs, t, _, n, b, k, _⟩
  exact b F ρ σ H rs t
/-- a name that a def (or a block) stores -/
structure Sto (X : Cx) (N : List Str) (sc : Scope) (i : Nat) (x : Str) : Prop where
  nd : X.N.Nodup
  hi : X.N[i]? = some x
  hx : Loc X.env.scope x
  hf : X.fn x = true ∨ X.env.scope.names.lookup x = some .local
theorem WhD.sto (A : WhD X N sc) {i : Nat} {x : Str} (hi : N[i]? = some x) (hx : Loc sc x) : Sto X N sc i x :=
  ⟨by rw [A.hN]; exact A.nd, by rw [A.hN]; exact hi, by rw [A.hs]; exact hx, by
    rcases hx with h | h
    · exact .inr (by rw [A.hs]; exact h)
    · exact .inl (A.fn x)⟩
theorem cs_set (A : WhD X N sc) (i : Nat) {x : Str} {p2 : Pos} (hi : N[i]? = some x) (hx : Loc sc x) (he : CE X Z e te) (hs : ∀ env, swapsWith e (some (.Name x p2)) pos.line env = pure false := by intro _; rfl) : CS X Z (.Assign [.Name x p2] e pos) (rSet i te) := fun ex px => by
  have S := A.sto hi hx
  refine ps_imp (ps_set S.nd S.hi S.hx (he ex px) (hs _) S.hf) ?_
  rintro D σ H ⟨F, ρ, D', rs, t, hx, n, b, k, r⟩
  subst hx
  refine ⟨F, ρ, _, rs, t, fun x v F' H' q e o => ?_⟩
  obtain ⟨hk, q⟩ := PV.sto_ok q
  exact n F' _ _ H' (rs.store e o hk) q
end
end Pz

namespace Pz
open PySem PySem.Spec PyProof.Rows L2

/-! ### targets -/
inductive Tgt where
  | nm (i : Nat) | tp (is : List Nat)
def Tgt.slots : Tgt → List Nat
  | .nm i => [i] | .tp is => is
def setAll (ρ : Rho) : List Nat → List PyData → Rho
  | i :: is, d :: ds => setAll (ρ.set i (.im d)) is ds
  | _, _ => ρ
def Tgt.go : Tgt → PyData → Rho → (Rho → Prop) → Prop
  | .nm i, d, ρ, Q => Q (ρ.set i (.im d))
  | .tp is, .tuple ds, ρ, Q => ds.length = is.length ∧ Q (setAll ρ is ds)
  | .tp is, .list ds, ρ, Q => ds.length = is.length ∧ Q (setAll ρ is ds)
  | _, _, _, _ => False
def tgN : List Nat → TGs
  | [] => gNil
  | i :: is => gCons (gName i) (tgN is)
def tgV (K : PySem.W.Frag) : Tgt → TG
  | .nm i => gName i
  | .tp is => fun v σ H Q => gTup K is.length (tgN is) v σ H Q ∨ gLst K is.length (tgN is) v σ H Q
theorem wipe_get {σ : L2.St} : ∀ {vs : List Nat} {j : Nat}, (wipe σ vs)[j]? = if j ∈ vs ∧ j < σ.length then some none else σ[j]?
  | [], j => by simp [wipe]
  | v :: vs, j => by
    unfold wipe
    by_cases e : v = j
    · subst e
      by_cases h : v < σ.length
      · rw [List.getElem?_set_self (by rw [wipe_length]; exact h), if_pos ⟨by simp, h⟩]
      · rw [List.getElem?_eq_none (by rw [List.length_set, wipe_length]; omega), if_neg (fun z => h z.2), List.getElem?_eq_none (by omega)]
    · rw [List.getElem?_set_ne e, wipe_get]
      by_cases h : j ∈ vs ∧ j < σ.length
      · rw [if_pos h, if_pos ⟨List.mem_cons_of_mem _ h.1, h.2⟩]
      · rw [if_neg h, if_neg]
        rintro ⟨h1, h2⟩
        rcases List.mem_cons.mp h1 with z | z
        · exact e z.symm
        · exact h ⟨z, h2⟩
theorem wipe_set {σ : L2.St} {vs : List Nat} {i : Nat} {x : Option V} (h : i ∈ vs) : wipe (σ.set i x) vs = wipe σ vs := by
  refine List.ext_getElem? fun j => ?_
  rw [wipe_get, wipe_get, List.length_set]
  by_cases e : i = j
  · subst e
    by_cases hl : i < σ.length
    · rw [if_pos ⟨h, hl⟩, if_pos ⟨h, hl⟩]
    · rw [if_neg (fun z => hl z.2), if_neg (fun z => hl z.2), List.getElem?_eq_none (by rw [List.length_set]; omega), List.getElem?_eq_none (by omega)]
  · rw [List.getElem?_set_ne e]
theorem wipe_wipe {σ : L2.St} {vs : List Nat} : wipe (wipe σ vs) vs = wipe σ vs := by
  refine List.ext_getElem? fun j => ?_
  rw [wipe_get, wipe_length, wipe_get]
  by_cases h : j ∈ vs ∧ j < σ.length
  · simp [h]
  · rw [if_neg h, if_neg h]
section
variable {K : PySem.W.Frag} {F0 H0 F H : Hp} {ρ : Rho} {σ : L2.St}
theorem RS.setIm {i : Nat} {v : V} {d : PyData} (r : RS K F0 H0 F ρ σ H) (h : Dp K F v d) : RS K F0 H0 F (ρ.set i (.im d)) (σ.set i (some v)) H := r.store (.refl r.ext.fh) (show Out K F H H v (.im d) from h) rfl
theorem tgN_ok : ∀ (is : List Nat) {xs : List V} {ds : List PyData} {ρ : Rho} {σ : L2.St} {Q : L2.St → Hp → Prop}, RS K F0 H0 F ρ σ H → DpAll K F xs ds → ds.length = is.length →
    (∀ σ', RS K F0 H0 F (setAll ρ is ds) σ' H → (∀ vs : List Nat, (∀ i ∈ is, i ∈ vs) → wipe σ' vs = wipe σ vs) → Q σ' H) → tgN is xs σ H Q
  | [], _, _, ρ, σ, Q, r, .nil, _, q => ⟨rfl, q σ r fun _ _ => rfl⟩
  | [], _, _, ρ, σ, Q, r, .cons _ _, e, q => by cases e
  | i :: is, _, _, ρ, σ, Q, r, .nil, e, q => by cases e
  | i :: is, _, _, ρ, σ, Q, r, .cons (v := v) (vs := vs) (d := d) (ds := ds) h t, e, q => by
    refine ⟨v, vs, rfl, ?_⟩
    show tgN is vs (σ.set i (some v)) H Q
    exact tgN_ok is (r.setIm h) t (by simpa using e) fun σ' r' w => q σ' r' fun ws hw => (w ws fun j hj => hw j (List.mem_cons_of_mem _ hj)).trans (wipe_set (hw i List.mem_cons_self))
theorem tgt_ok {tg : Tgt} {v : V} {d : PyData} {Q' : Rho → Prop} {Q : L2.St → Hp → Prop} (r : RS K F0 H0 F ρ σ H) (h : Dp K F v d) (g : tg.go d ρ Q')
    (q : ∀ ρ' σ', RS K F0 H0 F ρ' σ' H → Q' ρ' → (∀ vs : List Nat, (∀ i ∈ tg.slots, i ∈ vs) → wipe σ' vs = wipe σ vs) → Q σ' H) : tgV K tg v σ H Q := by
  cases tg with
  | nm i => exact q _ _ (r.setIm h) g fun vs hv => wipe_set (hv i (by simp [Tgt.slots]))
  | tp is =>
    cases h with
    | tup hS a => exact .inl ⟨_, _, rfl, Same.sqT r.ext.fh hS, by rw [dpa_len a]; exact g.1, tgN_ok is r a g.1 fun σ' r' w => q _ _ r' g.2 w⟩
    | lst hS a => exact .inr ⟨_, _, rfl, r.ext.fh.seq hS, by rw [dpa_len a]; exact g.1, tgN_ok is r a g.1 fun σ' r' w => q _ _ r' g.2 w⟩
    | non => exact g.elim
    | bl _ => exact g.elim
    | int _ => exact g.elim
    | str _ => exact g.elim
    | odd _ => exact g.elim
end
/-- a target -/
def CG (X : Cx) (e : Expr) (tg : Tgt) : Prop := PG X e (tgV X.K tg)
def CGs (X : Cx) (es : List Expr) (is : List Nat) : Prop := PGs X es (tgN is)
section
variable {X : Cx} {Z : Zp} {N : List Str} {sc : Scope} {pos : Pos} {es : List Expr} {is : List Nat}
theorem pg_or {e : Expr} {t u : TG} (h : PG X e t) (h' : PG X e u) : PG X e (fun v σ H Q => t v σ H Q ∨ u v σ H Q) :=
  ⟨fun p s σ H v u Q I r q => q.elim (h.run p s σ H v u Q I r) (h'.run p s σ H v u Q I r)⟩
theorem cg_name {i : Nat} {x : Str} (S : Sto X N sc i x) : CG X (.Name x pos) (.nm i) := pg_name S.nd S.hi S.hx S.hf
theorem cgs_nil : CGs X [] [] := pgs_nil
theorem cgs_cons {i : Nat} {x : Str} (S : Sto X N sc i x) (h : CGs X es is) : CGs X (.Name x pos :: es) (i :: is) := pgs_cons (pg_name S.nd S.hi S.hx S.hf) h rfl
theorem cg_tup {k : Nat} (hc : X.calm = true) (h : CGs X es is) (hl : es.length = is.length) (hn : ∀ env, (assignEach es env).length = es.length := by intro _; rfl) (hst : ∀ env, (assignEach es env).findIdx? (·.1) = none := by intro _; rfl) : CG X (.Tuple es k pos) (.tp is) :=
  pg_or (pg_tup hc h ((hn _).trans hl) (hst _)) (pg_lst hc h ((hn _).trans hl) (hst _))
/-- a block's own name -/
theorem Wh.sto (A : Wh X N sc) {i : Nat} {x : Str} (hi : N[i]? = some x) (hx : sc.names.lookup x = some .local) : Sto X N sc i x :=
  ⟨by rw [A.hN]; exact A.nd, by rw [A.hN]; exact hi, .inl (by rw [A.hs]; exact hx), .inr (by rw [A.hs]; exact hx)⟩
end

/-! ### what is walked -/
abbrev RI := XW → Rho → (List PyData → Prop) → Prop
def ItOk (K : PySem.W.Frag) (J : It) (ds : List PyData) (F1 : Hp) : Prop := ∀ F2 H2, Same F1 F2 → Same F2 H2 → ∀ i : Nat, (i < ds.length → J.go i H2) ∧
  (∀ d x H', ds[i]? = some d → J.yld i H2 x H' → ∃ F', Ext F2 H2 F' H' ∧ Dp K F' x d) ∧ (ds.length ≤ i → J.stop i H2)
def lI (K : PySem.W.Frag) (Z : Zp) (t : Rho → (List PyData → Prop) → Prop) : TI := fun σ H R => ∃ F ρ Q', RSz K Z F ρ σ H ∧ t ρ Q' ∧ ∀ ds F1 H1 J, Q' ds → Ext F H F1 H1 → ItOk K J ds F1 → R J H1
def CI (X : Cx) (Z : Zp) (tg e : Expr) (t : RI) : Prop := ∀ ex, PX X Z ex → PI X tg e (lI X.K Z (t ex))
def rIt (te : RE) : RI := fun ex ρ Q => te ex ρ fun x => x.frz fun d => match d with
  | .list ds => Q ds
  | .tuple ds => Q ds
  | _ => False
def upto (n : Nat) (f : Nat → PyData) : List PyData := (List.range n).map f
theorem upto_get {n : Nat} {f : Nat → PyData} {i : Nat} {d : PyData} (h : (upto n f)[i]? = some d) : i < n ∧ d = f i := by
  unfold upto at h
  rw [List.getElem?_map] at h
  by_cases hi : i < n
  · rw [List.getElem?_range hi] at h
    cases h
    exact ⟨hi, rfl⟩
  · rw [List.getElem?_eq_none (by simpa using hi)] at h
    cases h
theorem upto_len (n : Nat) (f : Nat → PyData) : (upto n f).length = n := by simp [upto]
def rRng1 (te : RE) : RI := fun ex ρ Q => te ex ρ fun x => match x.data with
  | .int j => (-(2 ^ 62) ≤ j ∧ j < 2 ^ 62) ∧ Q (upto j.toNat fun i => .int i)
  | _ => False
def rRng2 (ta tb : RE) : RI := fun ex ρ Q => ta ex ρ fun x => tb ex ρ fun y => match x.data, y.data with
  | .int i, .int j => (-(2 ^ 62) ≤ i ∧ i < 2 ^ 62 ∧ -(2 ^ 62) ≤ j ∧ j < 2 ^ 62) ∧ Q (upto (j - i).toNat fun k => .int (i + k))
  | _, _ => False
def rRng3 (ta tb tc : RE) : RI := fun ex ρ Q => ta ex ρ fun x => tb ex ρ fun y => tc ex ρ fun z => match x.data, y.data, z.data with
  | .int i, .int j, .int c => ∃ n, RgC i j c n ∧ Q (upto n fun k => .int (i + (k : Nat) * c))
  | _, _, _ => False
def rRev (te : RE) : RI := fun ex ρ Q => te ex ρ fun x => x.frz fun d => match d with
  | .list ds => Q ds.reverse
  | .tuple ds => Q ds.reverse
  | _ => False
def rEnum (te : RE) : RI := fun ex ρ Q => te ex ρ fun x => x.frz fun d => match d with
  | .list ds => Q (ds.zipIdx.map fun p => .tuple [.int (p.2 : Nat), p.1])
  | _ => False
section
variable {K : PySem.W.Frag} {F1 : Hp} {a : Addr} {vs : List V} {ds : List PyData}
theorem itok_list (hS : SqL K F1 a vs) (ha : DpAll K F1 vs ds) : ItOk K (Itl K a) ds F1 := fun F2 H2 s2 h2 i => by
  have hS2 := h2.seq (s2.seq hS)
  refine ⟨fun hi => ?_, fun d x H' hd hy => ?_, fun hi => ⟨vs, hS2, by rw [dpa_len ha]; exact hi⟩⟩
  · exact ⟨vs, vs[i]'(by rw [dpa_len ha]; exact hi), hS2, by simp⟩
  · obtain ⟨rfl, f⟩ := hy
    obtain ⟨w, hw, dw⟩ := dpa_get ha hd
    rw [f vs hS2] at hw
    cases hw
    exact ⟨F2, .refl h2, dp_mono s2 dw⟩
theorem itok_tup (hS : SqT K F1 a vs) (ha : DpAll K F1 vs ds) : ItOk K (Itt K a) ds F1 := fun F2 H2 s2 h2 i => by
  have hS2 := Same.sqT h2 (Same.sqT s2 hS)
  refine ⟨fun hi => ?_, fun d x H' hd hy => ?_, fun hi => ⟨vs, hS2, by rw [dpa_len ha]; exact hi⟩⟩
  · exact ⟨vs, vs[i]'(by rw [dpa_len ha]; exact hi), hS2, by simp⟩
  · obtain ⟨rfl, f⟩ := hy
    obtain ⟨w, hw, dw⟩ := dpa_get ha hd
    rw [f vs hS2] at hw
    cases hw
    exact ⟨F2, .refl h2, dp_mono s2 dw⟩
theorem itok_rng (lo : Int) (n : Nat) : ItOk K (Itr lo n) (upto n fun k => .int (lo + k)) F1 := fun F2 H2 s2 h2 i => by
  refine ⟨fun hi => by rw [upto_len] at hi; exact hi, fun d x H' hd hy => ?_, fun hi => by rw [upto_len] at hi; exact hi⟩
  obtain ⟨rfl, rfl⟩ := hy
  obtain ⟨_, rfl⟩ := upto_get hd
  exact ⟨F2, .refl h2, .int _⟩
theorem itok_rngC (lo c : Int) (n : Nat) : ItOk K (Itc lo c n) (upto n fun k => .int (lo + (k : Nat) * c)) F1 := fun F2 H2 s2 h2 i => by
  refine ⟨fun hi => by rw [upto_len] at hi; exact hi, fun d x H' hd hy => ?_, fun hi => by rw [upto_len] at hi; exact hi⟩
  obtain ⟨rfl, rfl⟩ := hy
  obtain ⟨_, rfl⟩ := upto_get hd
  exact ⟨F2, .refl h2, .int _⟩
theorem itok_rev (hS : SqL K F1 a vs) (ha : DpAll K F1 vs ds) : ItOk K (Itv K a vs.length) ds.reverse F1 := fun F2 H2 s2 h2 i => by
  have hS2 := h2.seq (s2.seq hS)
  have hl := dpa_len ha
  refine ⟨fun hi => ?_, fun d x H' hd hy => ?_, fun hi => ?_⟩
  · rw [List.length_reverse] at hi
    exact ⟨by omega, vs, vs[vs.length - 1 - i]'(by omega), hS2, by simp⟩
  · obtain ⟨rfl, f⟩ := hy
    have hi : i < ds.length := by have := (List.getElem?_eq_some_iff.mp hd).1; simpa using this
    rw [List.getElem?_reverse hi] at hd
    obtain ⟨w, hw, dw⟩ := dpa_get ha hd
    have := f vs hS2
    rw [hl, hw] at this
    cases this
    exact ⟨F2, .refl h2, dp_mono s2 dw⟩
  · rw [List.length_reverse] at hi
    show vs.length ≤ i
    omega
theorem itok_revT (hS : SqT K F1 a vs) (ha : DpAll K F1 vs ds) : ItOk K (RT.ItvT K a vs.length) ds.reverse F1 := fun F2 H2 s2 h2 i => by
  have hS2 := Same.sqT h2 (Same.sqT s2 hS)
  have hl := dpa_len ha
  refine ⟨fun hi => ?_, fun d x H' hd hy => ?_, fun hi => ?_⟩
  · rw [List.length_reverse] at hi
    exact ⟨by omega, vs, vs[vs.length - 1 - i]'(by omega), hS2, by simp⟩
  · obtain ⟨rfl, f⟩ := hy
    have hi : i < ds.length := by have := (List.getElem?_eq_some_iff.mp hd).1; simpa using this
    rw [List.getElem?_reverse hi] at hd
    obtain ⟨w, hw, dw⟩ := dpa_get ha hd
    have := f vs hS2
    rw [hl, hw] at this
    cases this
    exact ⟨F2, .refl h2, dp_mono s2 dw⟩
  · rw [List.length_reverse] at hi
    show vs.length ≤ i
    omega
theorem itok_enum (hS : SqL K F1 a vs) (ha : DpAll K F1 vs ds) : ItOk K (Ite K a) (ds.zipIdx.map fun p => .tuple [.int (p.2 : Nat), p.1]) F1 := fun F2 H2 s2 h2 i => by
  have hS2 := h2.seq (s2.seq hS)
  have hl := dpa_len ha
  refine ⟨fun hi => ?_, fun d x H' hd hy => ?_, fun hi => ⟨vs, hS2, by simp at hi; omega⟩⟩
  · have hi' : i < vs.length := by simp at hi; omega
    exact ⟨vs, vs[i]'hi', hS2, by simp⟩
  · obtain ⟨T, y, rfl, hT, rfl, f⟩ := hy
    rw [List.getElem?_map, List.getElem?_zipIdx] at hd
    cases he : ds[i]? with
    | none => rw [he] at hd; cases hd
    | some e =>
      rw [he] at hd
      cases hd
      obtain ⟨w, hw, dw⟩ := dpa_get ha he
      rw [f vs hS2] at hw
      cases hw
      have s3 : Same F2 (upd F2 T (.tup [.int ((0 + i : Nat) : Int), y])) := same_upd (h2.free hT)
      refine ⟨upd F2 T (.tup [.int ((0 + i : Nat) : Int), y]), ?_, .tup (SqT.of upd_same) (.cons (.int _) (.cons (dp_mono (s2.trans s3) dw) .nil))⟩
      rw [show ((0 + i : Nat) : Int) = ((i : Nat) : Int) by omega]
      exact .new h2 hT
/-- zip of two lists -/
def zipT : List PyData → List PyData → List PyData
  | a :: r, b :: s => .tuple [a, b] :: zipT r s
  | _, _ => []
theorem zipT_get : ∀ {xs ys : List PyData} {i : Nat} {d : PyData}, (zipT xs ys)[i]? = some d → ∃ a b, xs[i]? = some a ∧ ys[i]? = some b ∧ d = .tuple [a, b]
  | [], _, _, _, h => by simp [zipT] at h
  | _ :: _, [], _, _, h => by simp [zipT] at h
  | a :: r, b :: s, 0, d, h => by simp [zipT] at h; exact ⟨a, b, rfl, rfl, h.symm⟩
  | a :: r, b :: s, i + 1, d, h => by
    obtain ⟨x, y, h1, h2, h3⟩ := zipT_get (xs := r) (ys := s) (i := i) (d := d) (by simpa [zipT] using h)
    exact ⟨x, y, by simpa using h1, by simpa using h2, h3⟩
theorem zipT_len : ∀ (xs ys : List PyData), (zipT xs ys).length = min xs.length ys.length
  | [], ys => by simp [zipT]
  | _ :: _, [] => by simp [zipT]
  | a :: r, b :: s => by simp [zipT, zipT_len r s]
theorem itok_zip {b : Addr} {ws : List V} {es : List PyData} (hS : SqL K F1 a vs) (ha : DpAll K F1 vs ds) (hS' : SqL K F1 b ws) (hb : DpAll K F1 ws es) : ItOk K (Itz K a b) (zipT ds es) F1 := fun F2 H2 s2 h2 i => by
  have hA := h2.seq (s2.seq hS)
  have hB := h2.seq (s2.seq hS')
  have hl := dpa_len ha
  have hl' := dpa_len hb
  refine ⟨fun hi => ?_, fun d x H' hd hy => ?_, fun hi => ⟨vs, ws, hA, hB, by rw [zipT_len] at hi; omega⟩⟩
  · rw [zipT_len] at hi
    exact ⟨vs, ws, vs[i]'(by omega), ws[i]'(by omega), hA, hB, by simp, by simp⟩
  · obtain ⟨T, y, z, rfl, hT, rfl, f, g⟩ := hy
    obtain ⟨p, q, e1, e2, rfl⟩ := zipT_get hd
    obtain ⟨w, hw, dw⟩ := dpa_get ha e1
    obtain ⟨w', hw', dw'⟩ := dpa_get hb e2
    rw [f vs hA] at hw
    rw [g ws hB] at hw'
    cases hw; cases hw'
    have s3 : Same F2 (upd F2 T (.tup [y, z])) := same_upd (h2.free hT)
    exact ⟨_, .new h2 hT, .tup (SqT.of upd_same) (.cons (dp_mono (s2.trans s3) dw) (.cons (dp_mono (s2.trans s3) dw') .nil))⟩
end
def rZip (ta tb : RE) : RI := fun ex ρ Q => ta ex ρ fun x => x.frz fun d => tb ex ρ fun y => y.frz fun e => match d, e with
  | .list ds, .list es => Q (zipT ds es)
  | _, _ => False
section
variable {X : Cx} {Z : Zp} {N : List Str} {sc : Scope} {tg a b c : Expr} {ta tb tc : RE} {pos p tpos : Pos} {f : Str}
theorem pi_imp {t u : TI} (h : PI X tg a t) (i : ∀ σ H R, u σ H R → t σ H R) : PI X tg a u := ⟨fun p s σ H R I q => h.run p s σ H R I (i σ H R q)⟩
theorem pi_or {t u : TI} (h : PI X tg a t) (h' : PI X tg a u) : PI X tg a (fun σ H R => t σ H R ∨ u σ H R) := ⟨fun p s σ H R I q => q.elim (h.run p s σ H R I) (h'.run p s σ H R I)⟩
/-- what one reading leads to, either kind -/
def iEither (K : PySem.W.Frag) (te : TE) : TI := fun σ H R => te σ H fun x H1 => ∃ a, x = .ref a ∧ (((∃ xs, SqL K H1 a xs) ∧ R (Itl K a) H1) ∨ ((∃ xs, SqT K H1 a xs) ∧ R (Itt K a) H1))
theorem pi_either {l : Expr} {tl : TE} (hl : PE X l tl) : PI X tg l (iEither X.K tl) := by
  refine ⟨fun pins s σ H R I h => ?_⟩
  refine thn (hl.run pins s σ H _ I h) fun v s1 ⟨x, H1, I1, r1, q1⟩ => ?_
  obtain ⟨a, e, q⟩ := q1
  subst e
  cases r1
  rcases q with ⟨⟨xs, hq⟩, q⟩ | ⟨⟨xs, hq⟩, q⟩
  · obtain ⟨its, rv, p, hz⟩ := I1.list hq
    refine wpAny_pyIter_list p.isList ?_
    refine ⟨s1.heap.objs.size, [s1.heap.objs.size], _, _, H1, rfl, I1.kept (t' := s1.toks) fun b o e => Heap.get?_push_of_some _ e, turn_list a _, ⟨_, Heap.get?_push_size _ rfl, rfl, rfl⟩, fun b hb => ?_, q⟩
    have e : b = s1.heap.objs.size := by simpa using hb
    subst e
    exact I1.fpOk (Nat.le_refl _) (I1.hok.fresh (Nat.le_refl _))
  · obtain ⟨its, rv, p, hz⟩ := I1.tuple hq
    refine wpAny_pyIter_tuple (show s1.heap.IsTuple a its.toArray from p) ?_
    refine ⟨s1.heap.objs.size, [s1.heap.objs.size], _, _, H1, rfl, I1.kept (t' := s1.toks) fun b o e => Heap.get?_push_of_some _ e, turn_tuple a _, ⟨_, Heap.get?_push_size _ rfl, rfl, rfl⟩, fun b hb => ?_, q⟩
    have e : b = s1.heap.objs.size := by simpa using hb
    subst e
    exact I1.fpOk (Nat.le_refl _) (I1.hok.fresh (Nat.le_refl _))
theorem ci_val (ha : CE X Z a ta) : CI X Z tg a (rIt ta) := fun ex px => by
  refine pi_imp (pi_either (ha ex px)) ?_
  rintro σ H R ⟨F, ρ, Q', rs, t, q⟩
  refine ⟨F, ρ, _, rs, t, fun x v F1 H1 q1 e1 o1 => ?_⟩
  obtain ⟨d, F2, q2, e2, d2⟩ := o1.frz e1 q1
  cases d2 with
  | lst hS a => exact ⟨_, rfl, .inl ⟨⟨_, e2.fh.seq hS⟩, q _ F2 H1 _ q2 e2 (itok_list hS a)⟩⟩
  | tup hS a => exact ⟨_, rfl, .inr ⟨⟨_, Same.sqT e2.fh hS⟩, q _ F2 H1 _ q2 e2 (itok_tup hS a)⟩⟩
  | non => exact q2.elim
  | bl _ => exact q2.elim
  | int _ => exact q2.elim
  | str _ => exact q2.elim
  | odd _ => exact q2.elim
theorem ci_range1 (A : Wh X N sc) (hg : GlN sc "range") (hm : X.mg "range" = none) (ha : CE X Z a ta) (hs : ∀ env, starEach [a] env = [(false, eval a env)] := by intro _; rfl) : CI X Z tg (.Call (.Name "range" p) [a] [] pos) (rRng1 ta) := fun ex px => by
  refine pi_imp (pi_range1 (show X.env.scope.names.lookup _ = _ by rw [A.hs]; exact hg) hm (pa_cons (ha ex px) pa_nil (hs _)) (hs _)) ?_
  rintro σ H R ⟨F, ρ, Q', rs, t, q⟩
  refine ⟨F, ρ, _, rs, t, fun x v F1 H1 q1 e1 o1 => ?_⟩
  split at q1
  · rename_i j hx
    refine ⟨j, by rw [o1.int e1.fh hx], q1.1.1, q1.1.2, q _ F1 H1 _ q1.2 e1 ?_⟩
    have := itok_rng (K := X.K) (F1 := F1) 0 j.toNat
    simpa using this
  · exact q1.elim
theorem ci_range2 (A : Wh X N sc) (hg : GlN sc "range") (hm : X.mg "range" = none) (ha : CE X Z a ta) (hb : CE X Z b tb) (hs : ∀ env, starEach [a, b] env = [(false, eval a env), (false, eval b env)] := by intro _; rfl) (hs2 : ∀ env, starEach [b] env = [(false, eval b env)] := by intro _; rfl) :
    CI X Z tg (.Call (.Name "range" p) [a, b] [] pos) (rRng2 ta tb) := fun ex px => by
  refine pi_imp (pi_range2 (show X.env.scope.names.lookup _ = _ by rw [A.hs]; exact hg) hm (pa_cons (ha ex px) (pa_cons (hb ex px) pa_nil (hs2 _)) (by rw [hs, hs2])) (hs _) (hs2 _)) ?_
  rintro σ H R ⟨F, ρ, Q', rs, t, q⟩
  refine ⟨F, ρ, _, rs, t, fun x v F1 H1 q1 e1 o1 => ?_⟩
  refine ⟨F1, ρ, _, rs.grow e1, q1, fun y u F2 H2 q2 e2 o2 => ?_⟩
  split at q2
  · rename_i i j hx hy
    exact ⟨i, j, by rw [o1.int e1.fh hx, o2.int e2.fh hy], q2.1, q _ F2 H2 _ q2.2 (e1.trans e2) (itok_rng i _)⟩
  · exact q2.elim
theorem ci_range3 (A : Wh X N sc) (hg : GlN sc "range") (hm : X.mg "range" = none) (ha : CE X Z a ta) (hb : CE X Z b tb) (hc : CE X Z c tc) (hs : ∀ env, starEach [a, b, c] env = (false, eval a env) :: starEach [b, c] env := by intro _; rfl) (hs2 : ∀ env, starEach [b, c] env = (false, eval b env) :: starEach [c] env := by intro _; rfl) (hs3 : ∀ env, starEach [c] env = (false, eval c env) :: starEach [] env := by intro _; rfl) :
    CI X Z tg (.Call (.Name "range" p) [a, b, c] [] pos) (rRng3 ta tb tc) := fun ex px => by
  refine pi_imp (pi_range3 (show X.env.scope.names.lookup _ = _ by rw [A.hs]; exact hg) hm (pa_cons (ha ex px) (pa_cons (hb ex px) (pa_cons (hc ex px) pa_nil (hs3 _)) (hs2 _)) (hs _)) (hs _) (by rw [hs2, hs3]; rfl)) ?_
  rintro σ H R ⟨F, ρ, Q', rs, t, q⟩
  refine ⟨F, ρ, _, rs, t, fun x v F1 H1 q1 e1 o1 => ?_⟩
  refine ⟨F1, ρ, _, rs.grow e1, q1, fun y u F2 H2 q2 e2 o2 => ?_⟩
  refine ⟨F2, ρ, _, rs.grow (e1.trans e2), q2, fun z w F3 H3 q3 e3 o3 => ?_⟩
  split at q3
  · rename_i i j c hx hy hz
    obtain ⟨n, hr, q3⟩ := q3
    have e4 := (e1.trans e2).trans e3
    exact ⟨i, j, c, n, by rw [o1.int e1.fh hx, o2.int e2.fh hy, o3.int e3.fh hz], hr, q _ F3 H3 _ q3 e4 (itok_rngC i c n)⟩
  · exact q3.elim
theorem ci_rev (A : Wh X N sc) (hg : GlN sc "reversed") (hm : X.mg "reversed" = none) (ha : CE X Z a ta) (hs : ∀ env, starEach [a] env = (false, eval a env) :: starEach [] env := by intro _; rfl) : CI X Z tg (.Call (.Name "reversed" p) [a] [] pos) (rRev ta) := fun ex px => by
  refine pi_imp (RT.pi_revA (show X.env.scope.names.lookup _ = _ by rw [A.hs]; exact hg) hm (ha ex px) (hs _)) ?_
  rintro σ H R ⟨F, ρ, Q', rs, t, q⟩
  refine ⟨F, ρ, _, rs, t, fun x v F1 H1 q1 e1 o1 => ?_⟩
  obtain ⟨d, F2, q2, e2, d2⟩ := o1.frz e1 q1
  cases d2 with
  | lst hS a => exact ⟨_, _, rfl, .inl ⟨e2.fh.seq hS, q _ F2 H1 _ q2 e2 (itok_rev hS a)⟩⟩
  | tup hS a => exact ⟨_, _, rfl, .inr ⟨Same.sqT e2.fh hS, q _ F2 H1 _ q2 e2 (itok_revT hS a)⟩⟩
  | non => exact q2.elim
  | bl _ => exact q2.elim
  | int _ => exact q2.elim
  | str _ => exact q2.elim
  | odd _ => exact q2.elim
theorem ci_enum {elts : List Expr} {kk : Nat} (A : Wh X N sc) (hg : GlN sc "enumerate") (hm : X.mg "enumerate" = none) (ha : CE X Z a ta) (hs : ∀ env, starEach [a] env = (false, eval a env) :: starEach [] env := by intro _; rfl) : CI X Z (.Tuple elts kk tpos) (.Call (.Name "enumerate" p) [a] [] pos) (rEnum ta) := fun ex px => by
  refine pi_imp (pi_enum (show X.env.scope.names.lookup _ = _ by rw [A.hs]; exact hg) hm (pa_cons (ha ex px) pa_nil (hs _)) (hs _)) ?_
  rintro σ H R ⟨F, ρ, Q', rs, t, q⟩
  refine ⟨F, ρ, _, rs, t, fun x v F1 H1 q1 e1 o1 => ?_⟩
  obtain ⟨d, F2, q2, e2, d2⟩ := o1.frz e1 q1
  cases d2 with
  | lst hS a => exact ⟨_, _, rfl, e2.fh.seq hS, q _ F2 H1 _ q2 e2 (itok_enum hS a)⟩
  | tup hS a => exact q2.elim
  | non => exact q2.elim
  | bl _ => exact q2.elim
  | int _ => exact q2.elim
  | str _ => exact q2.elim
  | odd _ => exact q2.elim
theorem ci_zip {elts : List Expr} {kk : Nat} (A : Wh X N sc) (hg : GlN sc "zip") (hm : X.mg "zip" = none) (ha : CE X Z a ta) (hb : CE X Z b tb) (hs : ∀ env, starEach [a, b] env = (false, eval a env) :: starEach [b] env := by intro _; rfl) (hs2 : ∀ env, starEach [b] env = (false, eval b env) :: starEach [] env := by intro _; rfl) :
    CI X Z (.Tuple elts kk tpos) (.Call (.Name "zip" p) [a, b] [] pos) (rZip ta tb) := fun ex px => by
  refine pi_imp (pi_zip (show X.env.scope.names.lookup _ = _ by rw [A.hs]; exact hg) hm (pa_cons (ha ex px) (pa_cons (hb ex px) pa_nil (hs2 _)) (hs _)) (hs _) (by rw [hs2]; rfl)) ?_
  rintro σ H R ⟨F, ρ, Q', rs, t, q⟩
  refine ⟨F, ρ, _, rs, t, fun x v F1 H1 q1 e1 o1 => ?_⟩
  obtain ⟨d, F2, q2, e2, d2⟩ := o1.frz e1 q1
  refine ⟨F2, ρ, _, rs.grow e2, q2, fun y u F3 H3 q3 e3 o3 => ?_⟩
  obtain ⟨d', F4, q4, e4, d4⟩ := o3.frz e3 q3
  have d2' := dp_mono e4.ff d2
  split at q4
  · cases d2' with
    | lst hS a =>
      cases d4 with
      | lst hS' a' => exact ⟨_, _, _, _, rfl, e4.fh.seq hS, e4.fh.seq hS', q _ F4 H3 _ q4 (e2.trans e4) (itok_zip hS a hS' a')⟩
  · exact q4.elim
end

/-! ### for, while -/
def forR (g : PyData → Rho → (Rho → Prop) → Prop) (body : RC) (D : PEnds) : List PyData → Rho → Prop
  | [], ρ => D.nx ρ
  | d :: r, ρ => g d ρ fun ρ1 => body { D with nx := forR g body D r, ct := forR g body D r, bk := D.nx } ρ1
/-- the same, not opened by steps -/
@[irreducible] def forL (g : PyData → Rho → (Rho → Prop) → Prop) (body : RC) (D : PEnds) (ds : List PyData) (ρ : Rho) : Prop := forR g body D ds ρ
theorem forL_eq {g : PyData → Rho → (Rho → Prop) → Prop} {body : RC} {D : PEnds} {ds : List PyData} {ρ : Rho} : forL g body D ds ρ = forR g body D ds ρ := by unfold forL; rfl
def rFor (it : RI) (tg : Tgt) (body : RC) : RC := fun D ρ => it D.ex ρ fun ds => forL tg.go body D ds ρ
def whileL (c : RT) (body : RC) (D : PEnds) : Nat → Rho → Prop
  | 0, _ => False
  | n + 1, ρ => c D.ex ρ fun b => (b = true → body { D with nx := whileL c body D n, ct := whileL c body D n, bk := D.nx } ρ) ∧ (b = false → D.nx ρ)
def rWhile (c : RT) (body : RC) : RC := fun D ρ => ∃ n, whileL c body D n ρ
/-- more is frozen -/
def Zp.at (Z : Zp) (F : Hp) : Zp := { Z with F0 := F }
def ZLe (Z : Zp) (F : Hp) : Prop := Same Z.F0 F ∧ ∀ a o, Z.H0 a = some o → Z.F0 a = none → F a = none
section
variable {K : PySem.W.Frag} {Z : Zp} {F1 F H : Hp} {ρ : Rho} {σ : L2.St}
theorem ZLe.ext (h : ZLe Z F1) (e : Ext F1 Z.H0 F H) : Ext Z.F0 Z.H0 F H := ⟨h.1.trans e.ff, e.hh, e.fh, fun a o x y => e.nw a o x (h.2 a o x y)⟩
theorem ZLe.rs (h : ZLe Z F1) (r : RSz K (Z.at F1) F ρ σ H) : RSz K Z F ρ σ H := ⟨h.ext r.ext, r.len, r.sl⟩
theorem RS.at (r : RSz K Z F ρ σ H) : ZLe Z F ∧ RSz K (Z.at F) F ρ σ H := ⟨⟨r.ext.ff, fun a o x y => r.ext.nw a o x y⟩, ⟨⟨.refl _, r.ext.hh, r.ext.fh, fun _ _ _ h => h⟩, r.len, r.sl⟩⟩
theorem PX.at {X : Cx} {ex : XW} (h : ZLe Z F1) (p : PX X Z ex) : PX X (Z.at F1) ex := ⟨p.tk.imp fun c d σ H ⟨n, F, ρ, h1, h2, h3, h4⟩ => ⟨n, F, ρ, h1, h2, h.rs h3, h4⟩, p.po⟩
end
section
variable {X : Cx} {Z : Zp} {N : List Str} {sc : Scope} {tg it : Expr} {ti : RI} {g : Tgt} {body : List Stmt} {tb : RC} {pos : Pos} {c : Expr} {tc : RT}
def lSx (K : PySem.W.Frag) (Z : Zp) (ex : XW) (t : RC) : TS := fun D σ H => ∃ F1, ZLe Z F1 ∧ lS K (Z.at F1) ex t D σ H
theorem cs_for (hc : X.calm = true) (hi : CI X Z tg it ti) (hg : CG X tg g) (hb : ∀ F1, CSs X (Z.at F1) body tb) (hs : ∀ env x, foldedSetIterable it env x = pure x := by intro _ _; rfl) : CS X Z (.For tg it body [] pos) (rFor ti g tb) := fun ex px => by
  have hb' : PSs X body (lSx X.K Z ex tb) := ⟨fun p s σ H D I ⟨F1, le, h⟩ => (hb F1 ex (px.at le)).run p s σ H D I h⟩
  refine ps_imp (ps_for px.po hc (hi ex px) hg hb' (hs _)) ?_
  rintro D σ H ⟨F, ρ, D', rs, t, hx, n, b, k, r⟩
  subst hx
  refine ⟨F, ρ, _, rs, t, fun ds F1 H1 J q e ok => ?_⟩
  obtain ⟨le, rs1⟩ := (rs.grow e).at
  have q := forL_eq.mp q
  refine ⟨fun i m σ H => m = ds.length - i ∧ i ≤ ds.length ∧ ∃ F ρ, RSz X.K (Z.at F1) F ρ σ H ∧ forR g.go tb D' (ds.drop i) ρ, ⟨_, rfl, Nat.zero_le _, F1, ρ, rs1, q⟩, ?_⟩
  rintro i m σ H ⟨rfl, hi, F2, ρ2, rs2, q2⟩
  obtain ⟨o1, o2, o3⟩ := ok F2 H rs2.ext.ff rs2.ext.fh i
  by_cases hlt : i < ds.length
  · rw [List.drop_eq_getElem_cons hlt] at q2
    refine .inr ⟨o1 hlt, fun σ' H' => ∃ F ρ, RSz X.K (Z.at F1) F ρ σ' H' ∧ forR g.go tb D' (ds.drop (i + 1)) ρ, fun σ' H' z => ⟨ds.length - (i + 1), by omega, rfl, hlt, z⟩, fun x H' hy => ?_⟩
    obtain ⟨F', e', dp⟩ := o2 _ x H' (List.getElem?_eq_getElem hlt) hy
    refine tgt_ok (rs2.grow e') dp q2 fun ρ' σ' rs' q' _ => ?_
    exact ⟨F1, le, F', ρ', _, rs', q', rfl, fun F ρ σ H rs q => ⟨F, ρ, rs, q⟩, fun F ρ σ H rs q => n F ρ σ H (le.rs rs) q, fun F ρ σ H rs q => ⟨F, ρ, rs, q⟩, fun x v F' ρ' σ' H' q rs o => r x v F' ρ' σ' H' q (le.rs rs) o⟩
  · rw [List.drop_eq_nil_of_le (by omega)] at q2
    exact .inl ⟨o3 (by omega), n F2 ρ2 σ H (le.rs rs2) q2⟩
theorem cs_while (hc : CT X Z c tc) (hb : CSs X Z body tb) : CS X Z (.While c body [] pos) (rWhile tc tb) := fun ex px => by
  refine ps_imp (ps_while px.po (hc ex px) (hb ex px)) ?_
  rintro D σ H ⟨F, ρ, D', rs, ⟨n0, t⟩, hx, n, b, k, r⟩
  subst hx
  refine ⟨fun m σ H => ∃ F ρ, RSz X.K Z F ρ σ H ∧ whileL tc tb D' m ρ, ⟨n0, F, ρ, rs, t⟩, ?_⟩
  rintro m σ H ⟨F2, ρ2, rs2, q2⟩
  cases m with
  | zero => exact q2.elim
  | succ m =>
    refine ⟨F2, ρ2, _, rs2, q2, fun z F' H' q e => ?_⟩
    cases z with
    | false => rw [if_neg Bool.false_ne_true]; exact n F' ρ2 σ H' (rs2.grow e) (q.2 rfl)
    | true =>
      rw [if_pos rfl]
      refine ⟨fun σ' H' => ∃ F ρ, RSz X.K Z F ρ σ' H' ∧ whileL tc tb D' m ρ, fun σ' H' z => ⟨m, Nat.lt_succ_self _, z⟩, F', ρ2, _, rs2.grow e, q.1 rfl, rfl, fun F ρ σ H rs q => ⟨F, ρ, rs, q⟩, n, fun F ρ σ H rs q => ⟨F, ρ, rs, q⟩, r⟩
end
end Pz

namespace Pz
open PySem PySem.Spec PyProof.Rows L2

/-! ### stores -/
/-- target(s) = e, e's value frozen -/
def rUnp (te : RE) (tg : Tgt) : RC := fun D ρ => te D.ex ρ fun x => x.frz fun d => tg.go d ρ D.nx
def rPar (i j : Nat) (ta tb : RE) : RC := fun D ρ => ta D.ex ρ fun x => x.sto fun x' => tb D.ex ρ fun y => y.sto fun y' => D.nx ((ρ.set i x').set j y')
def rAugAdd (i : Nat) (te : RE) : RC := fun D ρ => match ρ[i]? with
  | some (.im (.int a)) => te D.ex ρ fun y => match y.data with
    | .int b => D.nx (ρ.set i (.im (.int (a + b))))
    | _ => False
  | _ => False
def rAugSub (i : Nat) (te : RE) : RC := fun D ρ => match ρ[i]? with
  | some (.im (.int a)) => te D.ex ρ fun y => match y.data with
    | .int b => D.nx (ρ.set i (.im (.int (a - b))))
    | _ => False
  | _ => False
def rAugMul (i : Nat) (te : RE) : RC := fun D ρ => match ρ[i]? with
  | some (.im (.int a)) => te D.ex ρ fun y => match y.data with
    | .int b => CMulB a b ∧ D.nx (ρ.set i (.im (.int (a * b))))
    | _ => False
  | _ => False
/-- x op= e, ints -/
def rAug (f : Int → Int → Int) (C : Int → Int → Prop) (i : Nat) (te : RE) : RC := fun D ρ => match ρ[i]? with
  | some (.im (.int a)) => te D.ex ρ fun y => match y.data with
    | .int b => C a b ∧ D.nx (ρ.set i (.im (.int (f a b))))
    | _ => False
  | _ => False
/-- l[k] = e, l the list of slot i -/
def rSetIx (i : Nat) (te ti : RE) : RC := fun D ρ => te D.ex ρ fun x => x.frz fun d => match ρ[i]? with
  | some (.ow (.ls ds)) => ti D.ex ρ fun y => match y.data with
    | .int k => ∃ j, ixN ds.length k = some j ∧ D.nx (ρ.set i (.ow (.ls (ds.set j d))))
    | _ => False
  | _ => False
/-- l[k] += e -/
def rAugIx (i : Nat) (ti te : RE) : RC := fun D ρ => match ρ[i]? with
  | some (.ow (.ls ds)) => ti D.ex ρ fun y => match y.data with
    | .int k => ∃ j a, ixN ds.length k = some j ∧ ds[j]? = some (.int a) ∧ te D.ex ρ fun x => match x.data with
      | .int b => D.nx (ρ.set i (.ow (.ls (ds.set j (.int (a + b))))))
      | _ => False
    | _ => False
  | _ => False
def rApp (i : Nat) (te : RE) : RC := fun D ρ => match ρ[i]? with
  | some (.ow (.ls ds)) => te D.ex ρ fun x => x.frz fun d => ds.length < sizeLine ∧ D.nx (ρ.set i (.ow (.ls (ds ++ [d]))))
  | _ => False
/-- l.pop(), dropped, or into a target -/
def rPop (i : Nat) : RC := fun D ρ => match ρ[i]? with
  | some (.ow (.ls ds)) => ds ≠ [] ∧ D.nx (ρ.set i (.ow (.ls ds.dropLast)))
  | _ => False
def rPopTo (i : Nat) (tg : Tgt) : RC := fun D ρ => match ρ[i]? with
  | some (.ow (.ls ds)) => ∃ d, ds[ds.length - 1]? = some d ∧ tg.go d (ρ.set i (.ow (.ls ds.dropLast))) D.nx
  | _ => False
def rClear (i : Nat) : RC := fun D ρ => match ρ[i]? with
  | some (.ow (.ls _)) => D.nx (ρ.set i (.ow (.ls [])))
  | _ => False
section
variable {X : Cx} {Z : Zp} {N : List Str} {sc : Scope} {a b e k : Expr} {ta tb te ti : RE} {pos p2 apos cpos tpos : Pos} {g : Tgt} {tg : Expr}
theorem cs_unp (he : CE X Z e te) (hg : CG X tg g) (hs : ∀ env, swapsWithSole [tg] e pos.line env = pure false) (hw : ∀ env, swappedStores [tg] e env = pure none) (h1 : ∀ env, (assignEach [tg] env).map (·.2) = [assign tg env] := by intro _; rfl) : CS X Z (.Assign [tg] e pos) (rUnp te g) := fun ex px => by
  refine ps_imp (ps_asg (he ex px) hg (hs _) (hw _) (h1 _)) ?_
  rintro D σ H ⟨F, ρ, D', rs, t, hx, n, b, k, r⟩
  subst hx
  refine ⟨F, ρ, _, rs, t, fun x v F' H' q e o => ?_⟩
  obtain ⟨d, F2, q2, e2, d2⟩ := o.frz e q
  exact tgt_ok (rs.grow e2) d2 q2 fun ρ' σ' rs' q' _ => n F2 ρ' σ' H' rs' q'
theorem cs_par (A : WhD X N sc) (hc : X.calm = true) (i j : Nat) {x y : Str} {px py pt : Pos} {kt k2 pt2} (hi : N[i]? = some x) (hj : N[j]? = some y) (hij : i ≠ j) (hx : sc.names.lookup x = some .local) (hy : sc.names.lookup y = some .local) (ha : CE X Z a ta) (hb : CE X Z b tb)
    (hw : ∀ env : Env, env.scope = sc → swappedStores [.Tuple [.Name x px, .Name y py] kt pt] (.Tuple [a, b] k2 pt2) env = pure (some [x, y]))
    (hs : ∀ env, swapsWithSole [.Tuple [.Name x px, .Name y py] kt pt] (.Tuple [a, b] k2 pt2) pos.line env = pure false := by intro _; rfl)
    (h1 : ∀ env, starEach [a, b] env = (false, eval a env) :: starEach [b] env := by intro _; rfl) (h2 : ∀ env, starEach [b] env = (false, eval b env) :: starEach [] env := by intro _; rfl) :
    CS X Z (.Assign [.Tuple [.Name x px, .Name y py] kt pt] (.Tuple [a, b] k2 pt2) pos) (rPar i j ta tb) := fun ex px => by
  refine ps_imp (ps_par (i := i) (j := j) hc (by rw [A.hN]; exact A.nd) (by rw [A.hN]; exact hi) (by rw [A.hN]; exact hj) hij (by rw [A.hs]; exact hx) (by rw [A.hs]; exact hy) (pa_cons (ha ex px) (pa_cons (hb ex px) pa_nil (h2 _)) (h1 _)) (hw _ A.hs) (hs _)) ?_
  rintro D σ H ⟨F, ρ, D', rs, t, hx, n, b, k, r⟩
  subst hx
  refine ⟨F, ρ, _, rs, t, fun x v F1 H1 q1 e1 o1 => ?_⟩
  obtain ⟨k1, q1⟩ := PV.sto_ok q1
  refine ⟨F1, ρ, _, rs.grow e1, q1, fun y u F2 H2 q2 e2 o2 => ?_⟩
  obtain ⟨k2, q2⟩ := PV.sto_ok q2
  refine ⟨v, u, rfl, n F2 _ _ H2 ?_ q2⟩
  -- the first one stood ahead of the second: store them in turn
  have r1 := rs.store e1 o1 k1 (i := i)
  exact r1.store e2 o2 k2
theorem cs_aug {op : Operator} {f : Int → Int → Int} {C : Int → Int → Prop} (A : WhD X N sc) (i : Nat) {x : Str} (hi : N[i]? = some x) (hx : Loc sc x) (ho : OpR X (inplaceOp op) (rI C fun i j => .int (f i j))) (he : CE X Z e te) : CS X Z (.AugAssign (.Name x p2) op e pos) (rAug f C i te) := fun ex px => by
  have S := A.sto hi hx
  refine ps_imp (ps_aug S.nd S.hi S.hx (he ex px) ho S.hf) ?_
  rintro D σ H ⟨F, ρ, D', rs, t, hx, n, b, k, r⟩
  subst hx
  unfold rAug at t
  obtain ⟨fps, h1, h2, h3⟩ := rs.sl
  split at t
  · rename_i a ea
    have hl : i < σ.length := by rw [← rs.len]; exact (List.getElem?_eq_some_iff.mp ea).1
    obtain ⟨_, v, ev, dv⟩ := h1 i _ _ ea (List.getElem?_eq_getElem hl)
    cases dv
    refine ⟨.int a, by rw [List.getElem?_eq_getElem hl, ev], F, ρ, _, rs, t, fun y u F' H' q e o => ?_⟩
    split at q
    · rename_i b hb
      exact ⟨a, b, rfl, o.int e.fh hb, q.1, n F' _ _ H' ((rs.grow e).setIm (Dp.int _)) q.2⟩
    · exact q.elim
  · exact t.elim
theorem iop_mulB : OpR X (inplaceOp .Mult) (rI CMulB fun i j => .int (i * j)) := opI fun _ _ _ _ _ _ _ hc q => imul_int q hc.ok
theorem iop_addC : OpR X (inplaceOp .Add) (rI (fun _ _ => True) fun i j => .int (i + j)) := opI fun _ _ _ _ _ _ _ _ q => iadd_int q
theorem rAugAdd_eq (i : Nat) (te : RE) : rAugAdd i te = rAug (fun i j => i + j) (fun _ _ => True) i te := by
  funext D ρ
  unfold rAugAdd rAug
  split <;> simp only [true_and]
theorem rAugSub_eq (i : Nat) (te : RE) : rAugSub i te = rAug (fun i j => i - j) (fun _ _ => True) i te := by
  funext D ρ
  unfold rAugSub rAug
  split <;> simp only [true_and]
theorem rAugMul_eq (i : Nat) (te : RE) : rAugMul i te = rAug (fun i j => i * j) CMulB i te := rfl
theorem iop_subC : OpR X (inplaceOp .Sub) (rI (fun _ _ => True) fun i j => .int (i - j)) := opI fun _ _ _ _ _ _ _ _ q => isub_int q
theorem cs_augAdd (A : WhD X N sc) (i : Nat) {x : Str} (hi : N[i]? = some x) (hx : Loc sc x) (he : CE X Z e te) : CS X Z (.AugAssign (.Name x p2) .Add e pos) (rAugAdd i te) := rAugAdd_eq i te ▸ cs_aug A i hi hx iop_addC he
theorem cs_augSub (A : WhD X N sc) (i : Nat) {x : Str} (hi : N[i]? = some x) (hx : Loc sc x) (he : CE X Z e te) : CS X Z (.AugAssign (.Name x p2) .Sub e pos) (rAugSub i te) := rAugSub_eq i te ▸ cs_aug A i hi hx iop_subC he
theorem cs_augMul (A : WhD X N sc) (i : Nat) {x : Str} (hi : N[i]? = some x) (hx : Loc sc x) (he : CE X Z e te) : CS X Z (.AugAssign (.Name x p2) .Mult e pos) (rAugMul i te) := rAugMul_eq i te ▸ cs_aug A i hi hx iop_mulB he
/-- what stands in an owned slot -/
theorem RS.owned {K : PySem.W.Frag} {F0 H0 F H : Hp} {ρ : Rho} {σ : L2.St} {i : Nat} {ds : List PyData} (r : RS K F0 H0 F ρ σ H) (h : ρ[i]? = some (.ow (.ls ds))) : ∃ p vs, σ[i]? = some (some (.ref p)) ∧ H p = some (.lst vs) ∧ DpAll K F vs ds ∧
    ∀ vs' ds', DpAll K F vs' ds' → RS K F0 H0 F (ρ.set i (.ow (.ls ds'))) σ (upd H p (.lst vs')) := by
  obtain ⟨fps, h1, h2, h3⟩ := id r.sl
  have hl : i < σ.length := by rw [← r.len]; exact (List.getElem?_eq_some_iff.mp h).1
  obtain ⟨p, ev, _, vs, e, a⟩ := h1 i _ _ h (List.getElem?_eq_getElem hl)
  have ep : σ[i]? = some (some (.ref p)) := by rw [List.getElem?_eq_getElem hl, ev]
  exact ⟨p, vs, ep, e, a, fun vs' ds' a' => r.write h ep fun fp w => by
    obtain ⟨rfl, _⟩ := w
    exact ⟨by simp, rfl, vs', upd_same, a'⟩⟩
/-- the slot stays owned while expressions are asked -/
theorem cs_setIx (A : Wh X N sc) (i : Nat) {x : Str} (hi : N[i]? = some x) (hv : Vis sc x) (hd : (x == ("__debug__" : Str)) = false) (hcd : (x == ("__classdict__" : Str)) = false) (he : CE X Z e te) (hk : CE X Z k ti)
    (ha : ∀ env v, assign (.Subscript (.Name x p2) k tpos) env v = (do
      let ov ← holding [v] (eval (.Name x p2) env)
      let iv ← holding [v, ov] (eval k env)
      standAt tpos
      holding [v, ov, iv] (setItem ov iv v)
      release [v, ov, iv] []) := by intro _ _; rfl)
    (hs : ∀ env, swapsWithSole [.Subscript (.Name x p2) k tpos] e pos.line env = pure false := by intro _; rfl) (hw : ∀ env, swappedStores [.Subscript (.Name x p2) k tpos] e env = pure none := by intro _; rfl) :
    CS X Z (.Assign [.Subscript (.Name x p2) k tpos] e pos) (rSetIx i te ti) := fun ex px => by
  refine ps_imp (ps_asg (he ex px) (pg_sub (pe_var (i := i) (by rw [A.hN]; exact hi) (by rw [A.hs]; exact hv) hd hcd) (hk ex px) set_list (ha _)) (hs _) (hw _) rfl) ?_
  rintro D σ H ⟨F, ρ, D', rs, t, hx, n, b, k, r⟩
  subst hx
  refine ⟨F, ρ, _, rs, t, fun x v F1 H1 q1 e1 o1 => ?_⟩
  obtain ⟨d, F2, q2, e2, d2⟩ := o1.frz e1 q1
  have rs2 := rs.grow e2
  split at q2
  · rename_i ds hρ
    obtain ⟨p0, vs0, ep0, _, _, _⟩ := rs2.owned hρ
    refine ⟨.ref p0, ep0, F2, ρ, _, rs2, q2, fun y u F3 H3 q3 e3 o3 => ?_⟩
    split at q3
    · rename_i k hk
      obtain ⟨j, hj, q3⟩ := q3
      obtain ⟨p, vs, ep, hp, a3, w⟩ := (rs2.grow e3).owned hρ
      rw [ep0] at ep
      cases ep
      exact ⟨p0, vs, k, j, rfl, o3.int e3.fh hk, hp, by rw [dpa_len a3]; exact hj, n F3 _ σ _ (w _ _ (dpa_set (dp_mono e3.ff d2) j a3)) q3⟩
    · exact q3.elim
  · exact q2.elim
theorem get_list : PGet X (rIxL X.K) := by
  intro pins s σ H x y v u Q I rx ry h
  obtain ⟨p, xs, i, z, rfl, rfl, hq, he, q⟩ := h
  cases rx
  obtain ⟨t, rfl⟩ := ry
  obtain ⟨its, r, pl, hz⟩ := I.list hq
  obtain ⟨j, h1, h2, h3, h4, h5⟩ := atI_get he
  obtain ⟨w, ew, rw'⟩ := r.get h2
  have hl := r.length
  have hn := line63
  have fin : EP X pins σ Q w s := ⟨z, H, I, rw', q⟩
  by_cases h0 : 0 ≤ i
  · have hj : i.toNat = j := by
      rw [seqIndex_of h0 h5] at h1
      exact Option.some.inj h1
    exact wpAny_getItem_list pl.isList h0 (by omega) (by rw [hj]; simpa using ew) fin
  · have hj : (i + (its.toArray.size : Int)).toNat = j := by
      rw [seqIndex_neg (by omega) h4] at h1
      rw [List.size_toArray, ← hl]
      exact Option.some.inj h1
    exact wpAny_getItem_list_neg pl.isList (by omega) (by rw [List.size_toArray] <;> omega) (by omega) (by rw [hj]; simpa using ew) fin
theorem cs_augIx (A : WhD X N sc) (i : Nat) {x : Str} (hi : N[i]? = some x) (hv : Vis sc x) (hd : (x == ("__debug__" : Str)) = false) (hcd : (x == ("__classdict__" : Str)) = false) (he : CE X Z e te) (hk : CE X Z k ti)
    (ha : ∀ ov iv new, augStore k ov iv new = (do holding [new, ov, iv] (setItem ov iv new); release [new, ov, iv] []; pure .next) := by intros; rfl) :
    CS X Z (.AugAssign (.Subscript (.Name x p2) k tpos) .Add e pos) (rAugIx i ti te) := fun ex px => by
  refine ps_imp (ps_augS (pe_var (i := i) (by rw [A.hN]; exact hi) (by rw [A.hs]; exact hv) hd hcd) (hk ex px) get_list (he ex px) (iop_add (X := X)) set_list ha) ?_
  rintro D σ H ⟨F, ρ, D', rs, t, hx, n, b, k, r⟩
  subst hx
  unfold rAugIx at t
  split at t
  · rename_i ds hρ
    obtain ⟨p0, vs0, ep0, _, _, _⟩ := rs.owned hρ
    refine ⟨.ref p0, ep0, F, ρ, _, rs, t, fun y u F1 H1 q1 e1 o1 => ?_⟩
    split at q1
    · rename_i kk hk
      obtain ⟨j, a, hj, ha, q1⟩ := q1
      have rs1 := rs.grow e1
      obtain ⟨p, vs, ep, hp, a1, _⟩ := rs1.owned hρ
      rw [ep0] at ep
      cases ep
      obtain ⟨w, hw, dw⟩ := dpa_get a1 ha
      cases dw
      refine ⟨p0, vs, kk, .int a, rfl, o1.int e1.fh hk, SqL.of hp, by unfold atI; rw [dpa_len a1, hj]; exact hw, F1, ρ, _, rs1, q1, fun z u' F2 H2 q2 e2 o2 => ?_⟩
      split at q2
      · rename_i b hb
        obtain ⟨p, vs, ep, hp, a2, wr⟩ := (rs1.grow e2).owned hρ
        rw [ep0] at ep
        cases ep
        exact ⟨a, b, rfl, o2.int e2.fh hb, p0, vs, kk, j, rfl, o1.int e1.fh hk, hp, by rw [dpa_len a2]; exact hj, n F2 _ σ _ (wr _ _ (dpa_set (Dp.int _) j a2)) q2⟩
      · exact q2.elim
    · exact q1.elim
  · exact t.elim

/-! ### methods of lists that change them -/
theorem cs_append (A : WhD X N sc) (i : Nat) {x : Str} (hi : N[i]? = some x) (hv : Vis sc x) (hd : (x == ("__debug__" : Str)) = false) (hcd : (x == ("__classdict__" : Str)) = false) (he : CE X Z e te)
    (hbase : ∀ env, attributeBase (.Name x p2) "append" env (eval (.Name x p2) env) = eval (.Name x p2) env := by intro _; rfl)
    (hfew : ∀ env, ((backTo cpos (starEach [e] env)).all (fun x => !x.1) && (backToKw cpos (keywordEach [] env)).all (fun x => x.1.isSome)
      && decide ([e].length + ([] : List Keyword).length + (if ([] : List Keyword).isEmpty then 0 else 1) < 30)) = true := by intro _; rfl)
    (hline : (apos.endLine == cpos.line) = true) (hs : ∀ env, starEach [e] env = (false, eval e env) :: starEach [] env := by intro _; rfl) :
    CS X Z (.Expr (.Call (.Attribute (.Name x p2) "append" apos) [e] [] cpos) pos) (rApp i te) := fun ex px => by
  refine ps_imp (ps_expr (pe_bm PySem.F.plainAttrs_list PySem.F.slot_list_append PySem.F.type_list_append mt_append (pe_var (i := i) (by rw [A.hN]; exact hi) (by rw [A.hs]; exact hv) hd hcd) (pa_cons (he ex px) pa_nil (hs _)) (hbase _) (hfew _) hline (hs _) rfl) rfl) ?_
  rintro D σ H ⟨F, ρ, D', rs, t, hx, n, b, k, r⟩
  subst hx
  unfold rApp at t
  split at t
  · rename_i ds hρ
    obtain ⟨p0, vs0, ep0, hp0, _, _⟩ := rs.owned hρ
    refine ⟨.ref p0, ep0, .inl ⟨rfl, _, SqL.of hp0⟩, F, ρ, _, rs, t, fun y u F1 H1 q1 e1 o1 => ?_⟩
    obtain ⟨d, F2, q2, e2, d2⟩ := o1.frz e1 q1
    obtain ⟨p, vs, ep, hp, a2, w⟩ := (rs.grow e2).owned hρ
    rw [ep0] at ep
    cases ep
    exact ⟨p0, vs, u, rfl, rfl, hp, by rw [dpa_len a2]; exact q2.1, n F2 _ σ _ (w _ _ (dpa_app a2 (.cons d2 .nil))) q2.2⟩
  · exact t.elim
theorem dpa_last {K : PySem.W.Frag} {H : Hp} {vs : List V} {ds : List PyData} {d : PyData} (a : DpAll K H vs ds) (h : ds[ds.length - 1]? = some d) : ∃ v, vs[vs.length - 1]? = some v ∧ Dp K H v d := by
  rw [dpa_len a]
  exact dpa_get a h
theorem last_some {α : Type} {ds : List α} (h : ds ≠ []) : ∃ d, ds[ds.length - 1]? = some d := by
  cases ds with
  | nil => exact absurd rfl h
  | cons d r => exact ⟨_, List.getElem?_eq_getElem (by simp)⟩
theorem cs_pop (A : WhD X N sc) (i : Nat) {x : Str} (hi : N[i]? = some x) (hv : Vis sc x) (hd : (x == ("__debug__" : Str)) = false) (hcd : (x == ("__classdict__" : Str)) = false)
    (hbase : ∀ env, attributeBase (.Name x p2) "pop" env (eval (.Name x p2) env) = eval (.Name x p2) env := by intro _; rfl) (hline : (apos.endLine == cpos.line) = true) :
    CS X Z (.Expr (.Call (.Attribute (.Name x p2) "pop" apos) [] [] cpos) pos) (rPop i) := fun ex px => by
  refine ps_imp (ps_expr (pe_bm0 PySem.F.plainAttrs_list PySem.F.slot_list_pop PySem.F.type_list_pop mt_pop (pe_var (i := i) (by rw [A.hN]; exact hi) (by rw [A.hs]; exact hv) hd hcd) (hbase _) hline) rfl) ?_
  rintro D σ H ⟨F, ρ, D', rs, t, hx, n, b, k, r⟩
  subst hx
  unfold rPop at t
  split at t
  · rename_i ds hρ
    obtain ⟨p0, vs0, ep0, hp0, a0, w⟩ := rs.owned hρ
    obtain ⟨d, hd⟩ := last_some t.1
    obtain ⟨v, hv, _⟩ := dpa_last a0 hd
    exact ⟨.ref p0, ep0, .inl ⟨rfl, _, SqL.of hp0⟩, p0, vs0, v, rfl, rfl, hp0, hv, n F _ σ _ (w _ _ (dpa_dropLast a0)) t.2⟩
  · exact t.elim
theorem cs_popTo (A : WhD X N sc) (i : Nat) {x : Str} (hi : N[i]? = some x) (hv : Vis sc x) (hd : (x == ("__debug__" : Str)) = false) (hcd : (x == ("__classdict__" : Str)) = false) (hg : CG X tg g)
    (hbase : ∀ env, attributeBase (.Name x p2) "pop" env (eval (.Name x p2) env) = eval (.Name x p2) env := by intro _; rfl) (hline : (apos.endLine == cpos.line) = true)
    (hs : ∀ env, swapsWithSole [tg] (.Call (.Attribute (.Name x p2) "pop" apos) [] [] cpos) pos.line env = pure false) (hw : ∀ env, swappedStores [tg] (.Call (.Attribute (.Name x p2) "pop" apos) [] [] cpos) env = pure none) (h1 : ∀ env, (assignEach [tg] env).map (·.2) = [assign tg env] := by intro _; rfl) :
    CS X Z (.Assign [tg] (.Call (.Attribute (.Name x p2) "pop" apos) [] [] cpos) pos) (rPopTo i g) := fun ex px => by
  refine ps_imp (ps_asg (pe_bm0 PySem.F.plainAttrs_list PySem.F.slot_list_pop PySem.F.type_list_pop mt_pop (pe_var (i := i) (by rw [A.hN]; exact hi) (by rw [A.hs]; exact hv) hd hcd) (hbase _) hline) hg (hs _) (hw _) (h1 _)) ?_
  rintro D σ H ⟨F, ρ, D', rs, t, hx, n, b, k, r⟩
  subst hx
  unfold rPopTo at t
  split at t
  · rename_i ds hρ
    obtain ⟨d, hd, t⟩ := t
    obtain ⟨p0, vs0, ep0, hp0, a0, w⟩ := rs.owned hρ
    obtain ⟨v, hv, dv⟩ := dpa_last a0 hd
    exact ⟨.ref p0, ep0, .inl ⟨rfl, _, SqL.of hp0⟩, p0, vs0, v, rfl, rfl, hp0, hv, tgt_ok (w _ _ (dpa_dropLast a0)) dv t fun ρ' σ' rs' q' _ => n F ρ' σ' _ rs' q'⟩
  · exact t.elim
theorem cs_clear (A : WhD X N sc) (i : Nat) {x : Str} (hi : N[i]? = some x) (hv : Vis sc x) (hd : (x == ("__debug__" : Str)) = false) (hcd : (x == ("__classdict__" : Str)) = false)
    (hbase : ∀ env, attributeBase (.Name x p2) "clear" env (eval (.Name x p2) env) = eval (.Name x p2) env := by intro _; rfl) (hline : (apos.endLine == cpos.line) = true) :
    CS X Z (.Expr (.Call (.Attribute (.Name x p2) "clear" apos) [] [] cpos) pos) (rClear i) := fun ex px => by
  refine ps_imp (ps_expr (pe_bm0 PySem.F.plainAttrs_list PySem.F.slot_list_clear PySem.F.type_list_clear mt_clear (pe_var (i := i) (by rw [A.hN]; exact hi) (by rw [A.hs]; exact hv) hd hcd) (hbase _) hline) rfl) ?_
  rintro D σ H ⟨F, ρ, D', rs, t, hx, n, b, k, r⟩
  subst hx
  unfold rClear at t
  split at t
  · rename_i ds hρ
    obtain ⟨p0, vs0, ep0, hp0, a0, w⟩ := rs.owned hρ
    exact ⟨.ref p0, ep0, .inl ⟨rfl, _, SqL.of hp0⟩, p0, vs0, rfl, rfl, hp0, n F _ σ _ (w _ _ .nil) t⟩
  · exact t.elim
end

/-! ### comprehensions -/
def wipeP (ρ : Rho) : List Nat → Rho
  | [] => ρ
  | v :: vs => (wipeP ρ vs).set v .un
def lcR (g : PyData → Rho → (Rho → Prop) → Prop) (tt : RT) (te : RE) (ρ : Rho) : List PyData → List PyData → (PV → Prop) → Prop
  | [], acc, Q => Q (.ow (.ls acc))
  | d :: r, acc, Q => g d ρ fun ρ1 => tt (fun _ _ => False) ρ1 fun b => (b = true → te (fun _ _ => False) ρ1 fun x => x.frz fun y => lcR g tt te ρ r (acc ++ [y]) Q) ∧ (b = false → lcR g tt te ρ r acc Q)
@[irreducible] def lcL (g : PyData → Rho → (Rho → Prop) → Prop) (tt : RT) (te : RE) (ρ : Rho) (ds acc : List PyData) (Q : PV → Prop) : Prop := lcR g tt te ρ ds acc Q
theorem lcL_eq {g : PyData → Rho → (Rho → Prop) → Prop} {tt : RT} {te : RE} {ρ : Rho} {ds acc : List PyData} {Q : PV → Prop} : lcL g tt te ρ ds acc Q = lcR g tt te ρ ds acc Q := by unfold lcL; rfl
def rLc (it : RI) (tg : Tgt) (tt : RT) (te : RE) (vs : List Nat) : RE := fun ex ρ Q => it ex ρ fun ds => ds.length ≤ sizeLine ∧ lcL tg.go tt te (wipeP ρ vs) ds [] Q
def rYes : RT := fun _ _ Q => Q true
section
variable {K : PySem.W.Frag} {F0 H0 F H : Hp} {ρ : Rho} {σ : L2.St}
theorem RS.wipe (r : RS K F0 H0 F ρ σ H) : ∀ vs : List Nat, RS K F0 H0 F (wipeP ρ vs) (L2.wipe σ vs) H
  | [] => r
  | v :: vs => (RS.wipe r vs).forget v none
end
theorem px_no {X : Cx} {Z : Zp} (h : X.xe = fun _ _ => False) : PX X Z (fun _ _ => False) :=
  ⟨fun u s' x => by
    obtain ⟨_, _, _, _, _, _, _, _, _, _, _, _, _, _, _, _, z⟩ := x
    obtain ⟨_, _, _, _, _, _, z⟩ := z
    exact z.elim, by rw [h]; exact PassesOwn.never⟩
section
variable {X : Cx} {Z : Zp} {N : List Str} {sc scope : Scope} {tg it elt c : Expr} {ti : RI} {g : Tgt} {te : RE} {tc : RT} {pos spos py : Pos} {own : List (Str × Nat)}
/-- a block's scope as it runs -/
theorem Wh.blk (A : Wh X N sc) (s : Shared) (H : Hp) (C : Addr) (cl : List (Str × Addr)) (fp : List Addr) : Wh (X.blk s H scope (compEnvC scope cl C X.env) fp) N (relS scope sc) :=
  ⟨A.hN, A.nd, by rw [← A.hs]; rfl⟩
/-- the block's tests -/
def CTs (X : Cx) (Z : Zp) (ifs : List Expr) (t : RT) : Prop := ∀ ex, PX X Z ex → PTs X ifs (lT X.K Z (t ex))
theorem cts_nil : CTs X Z [] rYes := fun ex px => by
  refine ⟨fun p s σ H Q I h => pts_nil.run p s σ H Q I ?_⟩
  obtain ⟨F, ρ, Q', rs, t, q⟩ := h
  exact q true F H t (.refl rs.ext.fh)
theorem cts_one (h : CT X Z c tc) : CTs X Z [c] tc := fun ex px => pts_one (h ex px)
theorem lc_ok {ex : XW} {σ : L2.St} {H : Hp} {Q : VK} (hv : ∀ i ∈ g.slots, i ∈ own.map (·.2)) (h : lE X.K Z (rLc ti g tc te (own.map (·.2)) ex) σ H Q) :
    tLc (lI X.K Z (ti ex)) (tgV X.K g) (lT X.K Z (tc fun _ _ => False)) (lE X.K Z (te fun _ _ => False)) (own.map (·.2)) σ H Q := by
  obtain ⟨F, ρ, Q', rs, t, q⟩ := h
  refine ⟨F, ρ, _, rs, t, fun ds F1 H1 J q1 e1 ok D hD => ?_⟩
  have hFD : F1 D = none := e1.fh.free hD
  have e2 : Ext F1 H1 F1 (upd H1 D (.lst [])) := .own e1.fh hD
  refine ⟨fun i m H => m = ds.length - i ∧ i ≤ ds.length ∧ ∃ F acc vs, Ext F1 H1 F H ∧ F D = none ∧ H D = some (.lst vs) ∧ DpAll X.K F vs acc ∧ acc.length ≤ i ∧ lcR g.go tc te (wipeP ρ (own.map (·.2))) (ds.drop i) acc Q',
    ⟨_, rfl, Nat.zero_le _, F1, [], [], e2, hFD, upd_same, .nil, Nat.le_refl _, lcL_eq.mp q1.2⟩, ?_⟩
  rintro i m H2 ⟨rfl, hi, F2, acc, vs, e3, nD, hvs, da, hacc, q2⟩
  obtain ⟨o1, o2, o3⟩ := ok F2 H2 e3.ff e3.fh i
  by_cases hlt : i < ds.length
  · rw [List.drop_eq_getElem_cons hlt] at q2
    refine .inr ⟨o1 hlt, fun H' => ∃ F acc vs, Ext F1 H1 F H' ∧ F D = none ∧ H' D = some (.lst vs) ∧ DpAll X.K F vs acc ∧ acc.length ≤ i + 1 ∧ lcR g.go tc te (wipeP ρ (own.map (·.2))) (ds.drop (i + 1)) acc Q', fun H' z => ⟨ds.length - (i + 1), by omega, rfl, hlt, z⟩, fun x H' hy => ?_⟩
    obtain ⟨F', e', dp⟩ := o2 _ x H' (List.getElem?_eq_getElem hlt) hy
    have e4 := e3.trans e'
    have rw' := (rs.grow (e1.trans e4)).wipe (own.map (·.2))
    refine tgt_ok rw' dp q2 fun ρ' σ' rs' q' hw => ⟨(hw _ hv).trans wipe_wipe, F', ρ', _, rs', q', fun z F3 H3 q3 e5 => ?_⟩
    have hD3 : ∀ {F H : Hp}, Ext F' H' F H → H D = some (.lst vs) ∧ F D = none := fun e => ⟨e.hh _ _ (e'.hh _ _ hvs), e.nw _ _ (e'.hh _ _ hvs) (e'.nw _ _ hvs nD)⟩
    cases z with
    | true =>
      refine iteT ?_
      refine ⟨F3, ρ', _, rs'.grow e5, q3.1 rfl, fun y v F4 H4 q4 e6 o4 => ?_⟩
      obtain ⟨d, F5, q5, e7, d5⟩ := o4.frz e6 q4
      have e8 := e5.trans e7
      obtain ⟨hv4, hn4⟩ := hD3 e8
      have e9 := e4.trans e8
      have s5 : Same F2 F5 := e'.ff.trans e8.ff
      refine ⟨vs, hv4, ?_, F5, acc ++ [d], vs ++ [v], ⟨e9.ff, same_upd2 e9.hh hD, same_upd2 e9.fh hn4, e9.nw⟩, hn4, upd_same, dpa_app (dpAll_mono s5 da) (.cons d5 .nil), by rw [List.length_append, List.length_singleton]; omega, q5⟩
      rw [dpa_len da]
      have := q1.1
      omega
    | false =>
      refine iteF ?_
      obtain ⟨hv4, hn4⟩ := hD3 e5
      exact ⟨F3, acc, vs, e4.trans e5, hn4, hv4, dpAll_mono (e'.ff.trans e5.ff) da, by omega, q3.2 rfl⟩
  · rw [List.drop_eq_nil_of_le (by omega)] at q2
    refine .inl ⟨o3 (by omega), q _ _ F2 H2 q2 (e1.trans e3) ⟨D, [D], rfl, ⟨rfl, vs, hvs, da⟩, fun a ha => ?_⟩⟩
    have e : a = D := by simpa using ha
    subst e
    exact ⟨e1.hh.free hD, nD, _, hvs⟩
theorem ce_lc {ifs : List Expr} (A : Wh X N sc) (hc : X.calm = true) (hi : CI X Z tg it ti) (ok : BlkOk N sc scope own) (hv : ∀ i ∈ g.slots, i ∈ own.map (·.2))
    (hg : ∀ (s : Shared) (H : Hp) (C : Addr) (cl : List (Str × Addr)) (fp : List Addr), CG (X.blk s H scope (compEnvC scope cl C X.env) fp) tg g)
    (ht : ∀ (s : Shared) (H : Hp) (C : Addr) (cl : List (Str × Addr)) (fp : List Addr), CTs (X.blk s H scope (compEnvC scope cl C X.env) fp) Z ifs tc)
    (he : ∀ (s : Shared) (H : Hp) (C : Addr) (cl : List (Str × Addr)) (fp : List Addr), CE (X.blk s H scope (compEnvC scope cl C X.env) fp) Z elt te)
    (hs : ∀ env x, foldedSetIterable it env x = pure x := by intro _ _; rfl) : CE X Z (.ListComp elt [⟨tg, it, ifs, 0⟩] scope pos) (rLc ti g tc te (own.map (·.2))) := fun ex px =>
  pe_imp (pe_lc (g := tgV X.K g) (tt := lT X.K Z (tc fun _ _ => False)) (te := lE X.K Z (te fun _ _ => False)) hc (by rw [A.hN]; exact A.nd) (hi ex px) (by rw [A.hN, A.hs]; exact ok) hg (fun s H C cl fp => ht s H C cl fp _ (px_no rfl)) (fun s H C cl fp => he s H C cl fp _ (px_no rfl)) (hs _)) fun σ H Q h => lc_ok hv h
/-- name = [..], the name a local -/
theorem cs_setLc {ifs : List Expr} (A : WhD X N sc) (hc : X.calm = true) (i : Nat) {y : Str} (hy : N[i]? = some y) (hyl : sc.names.lookup y = some .local) (hl : (py.line == pos.line) = true) (hn : (scope.names.any fun (n, k) => n == y && (k == .local || k == .cell)) = false)
    (hln : (py.line == pos.line) = true) (hi : CI X Z tg it ti) (ok : BlkOk N sc scope own) (hv : ∀ i ∈ g.slots, i ∈ own.map (·.2))
    (hg : ∀ (s : Shared) (H : Hp) (C : Addr) (cl : List (Str × Addr)) (fp : List Addr), CG (X.blk s H scope (compEnvC scope cl C X.env) fp) tg g)
    (ht : ∀ (s : Shared) (H : Hp) (C : Addr) (cl : List (Str × Addr)) (fp : List Addr), CTs (X.blk s H scope (compEnvC scope cl C X.env) fp) Z ifs tc)
    (he : ∀ (s : Shared) (H : Hp) (C : Addr) (cl : List (Str × Addr)) (fp : List Addr), CE (X.blk s H scope (compEnvC scope cl C X.env) fp) Z elt te)
    (hs : ∀ env x, foldedSetIterable it env x = pure x := by intro _ _; rfl) : CS X Z (.Assign [.Name y py] (.ListComp elt [⟨tg, it, ifs, 0⟩] scope pos) spos) (rSet i (rLc ti g tc te (own.map (·.2)))) := fun ex px => by
  refine ps_imp (ps_setLc (i := i) (g := tgV X.K g) (tt := lT X.K Z (tc fun _ _ => False)) (te := lE X.K Z (te fun _ _ => False)) hc (by rw [A.hN]; exact A.nd) (by rw [A.hN]; exact hy) (by rw [A.hs]; exact hyl) (sw_true (by rw [A.hs]; exact A.kind) (by rw [A.hs]; exact hyl) hl hn) (hi ex px) (by rw [A.hN, A.hs]; exact ok) hg (fun s H C cl fp => ht s H C cl fp _ (px_no rfl)) (fun s H C cl fp => he s H C cl fp _ (px_no rfl)) (hs _)) ?_
  rintro D σ H ⟨F, ρ, D', rs, t, hx, n, b, k, r⟩
  subst hx
  refine lc_ok hv ⟨F, ρ, _, rs, t, fun x v F' H' q e o => ?_⟩
  obtain ⟨hk, q⟩ := PV.sto_ok q
  exact n F' _ _ H' (rs.store e o hk) q
/-- name = [..], the name a cell: a plain assignment -/
theorem sw_cell {elt : Expr} {gs : List Comprehension} {scope : Scope} {pos py : Pos} {y : Str} {l : Nat} {env : Env} (hy : env.scope.names.lookup y = some .cell) : swapsWith (.ListComp elt gs scope pos) (some (.Name y py)) l env = pure false := by
  have e : (env.kindOf y == some NameKind.local) = false := by
    show (env.scope.names.lookup y == some NameKind.local) = false
    rw [hy]; rfl
  show (pure (env.blockKind == .function && env.kindOf y == some .local && py.line == pos.line && !(scope.names.any fun (n, k) => n == y && (k == .local || k == .cell))) : Sem Bool) = pure false
  rw [e]
  simp
end
end Pz

namespace Pz
open PySem PySem.Spec PyProof.Rows L2

/-! ### exceptions -/
def subX : Xn → Xn → Bool
  | _, .RestError => true
  | a, b => decide (a = b)
/-- a class that may be raised -/
structure ExcF (K : PySem.W.Frag) (mg : Str → Option Value) (cl : Xn → Addr) (c : Xn) : Prop where
  g : mg c.nm = some (.ref (cl c))
  k : PySem.W.keepIn K (.ref (cl c)) = true
  x : PySem.W.excIn K (cl c) [.type "ValueError", .type "Exception", .type "BaseException", .type "object"] "ValueError.__new__" = true
  b : PySem.W.subIn K (.ref (cl c)) (.type "BaseException") = some true
  t : PySem.W.typeIn K (.ref (cl c)) = some (.type "type")
/-- a class that is named by an except clause or asked for -/
structure ExcT (K : PySem.W.Frag) (mg : Str → Option Value) (cl : Xn → Addr) (c : Xn) : Prop where
  g : mg c.nm = some (.ref (cl c))
  b : PySem.W.subIn K (.ref (cl c)) (.type "BaseException") = some true
  t : PySem.W.typeIn K (.ref (cl c)) = some (.type "type")
  i : PySem.W.isClsIn K (cl c) = true
def rRaise (c : Xn) : RC := fun D ρ => D.ex c ρ
/-- try: body, except h as (slot i): suite; R: what may come -/
def rTryAs (tb : RC) (h : Xn) (R : List Xn) (i : Nat) (ts : Xn → Addr → RC) : RC := fun D ρ => tb { D with ex := fun c ρ' => c ∈ R ∧
  (subX c h = true → ∀ a, ts c a { nx := fun ρ => D.nx (ρ.set i .un), rt := D.rt, ex := fun _ _ => False, bk := fun ρ => D.bk (ρ.set i .un), ct := fun ρ => D.ct (ρ.set i .un) } (ρ'.set i (.xc a))) ∧ (subX c h = false → D.ex c ρ') } ρ
/-- .. without a name -/
def rTry (tb : RC) (h : Xn) (R : List Xn) (ts : RC) : RC := fun D ρ => tb { D with ex := fun c ρ' => c ∈ R ∧
  (subX c h = true → ts { D with ex := fun _ _ => False } ρ') ∧ (subX c h = false → D.ex c ρ') } ρ
section
variable {X : Cx} {Z : Zp} {N : List Str} {sc : Scope} {c h : Xn} {R : List Xn} {p p2 np pos pos' : Pos}
theorem cs_raise {m : Str} {j : Nat} (G : ExcF X.K X.mg Z.cl c) (A : Wh X N sc) (hc : X.calm = true) (hg : GlN sc c.nm) (hdb : (c.nm == ("__debug__" : Str)) = false) : CS X Z (.Raise (some (.Call (.Name c.nm p) [.Constant (.str m) j p2] [] pos)) none pos') (rRaise c) := fun ex px => by
  refine ps_imp (ps_raise hc px.tk (pmk_own PySem.F.excBase_ValueError G.x G.g G.k (raises_own G.b G.t) (show X.env.scope.names.lookup _ = _ by rw [A.hs]; exact hg) hdb)) ?_
  rintro D σ H ⟨F, ρ, D', rs, t, hx, n, b, k, r⟩
  subst hx
  exact ⟨c, F, ρ, rfl, rfl, rs, t⟩
theorem kit_exc {K : PySem.W.Frag} {mg : Str → Option Value} {cl : Xn → Addr} {c h : Xn} (T : ExcT K mg cl h) (hs : PySem.W.subIn K (.ref (cl c)) (.ref (cl h)) = some (subX c h)) : PySem.W.kitCls K (.ref (cl c)) (.ref (cl h)) = some (subX c h) := by
  have i : (PySem.W.clsIn K (cl h)).isSome = true := T.i
  have e2 : ((PySem.W.clsIn K (cl h)).isSome && PySem.W.typeIn K (.ref (cl h)) == some (.type "type")) = true := by rw [i, T.t]; rfl
  show (if _ then _ else _) = _
  rw [if_pos e2]
  exact hs
theorem exm_exc {K : PySem.W.Frag} {mg : Str → Option Value} {cl : Xn → Addr} {c h : Xn} (T : ExcT K mg cl h) (hs : PySem.W.subIn K (.ref (cl c)) (.ref (cl h)) = some (subX c h)) : PySem.W.exmOne K (.ref (cl c)) (.ref (cl h)) = some (subX c h) := by
  have e1 : (PySem.W.subIn K (.ref (cl h)) (.type "BaseException") == some true) = true := by rw [T.b]; rfl
  show (if _ then _ else _) = _
  rw [if_pos e1]
  exact kit_exc T hs
theorem WhD.tr (A : WhD X N sc) (pn : List (Addr × Obj)) (xe : Value → Shared → Prop) : WhD (X.tr pn xe) N sc := ⟨⟨A.hN, A.nd, A.hs⟩, A.fn, A.stk, A.frm, A.kind⟩
theorem WhD.suite (A : WhD X N sc) (a : Addr) (pn : List (Addr × Obj)) : WhD (X.suite a pn) N sc := ⟨⟨A.hN, A.nd, A.hs⟩, A.fn, A.stk, A.frm, A.kind⟩
/-- the body's reading, by the wish -/
def lTb (K : PySem.W.Frag) (Z : Zp) (tb : RC) (W : WX) : TS := fun D σ H => ∃ ex' : XW, (∀ cls d σ H, (∃ c F ρ, cls = .ref (Z.cl c) ∧ d = none ∧ RSz K Z F ρ σ H ∧ ex' c ρ) → W cls d σ H) ∧ lS K Z ex' tb D σ H
theorem tb_ok {body : List Stmt} {tb : RC} (hb : ∀ (pn : List (Addr × Obj)) (xe : Value → Shared → Prop), CSs (X.tr pn xe) Z body tb) (W : WX) (pn : List (Addr × Obj)) (xe : Value → Shared → Prop) (tk : Takes (X.tr pn xe) W) (po : PassesOwn (model X.prog X.w) X.A X.env xe) : PSs (X.tr pn xe) body (lTb X.K Z tb W) :=
  ⟨fun p s σ H D I ⟨ex', hW, q⟩ => (hb pn xe ex' ⟨tk.imp hW, po⟩).run p s σ H D I q⟩
theorem RS.exc {K : PySem.W.Frag} {F0 H0 F H : Hp} {ρ : Rho} {σ : L2.St} (r : RS K F0 H0 F ρ σ H) (i : Nat) (a : Addr) : RS K F0 H0 F (ρ.set i (.xc a)) (σ.set i (some (.ref a))) H := by
  obtain ⟨fps, h1, h2, h3⟩ := r.sl
  refine ⟨r.ext, by simp [r.len], fun j => if j = i then [] else fps j, fun j y o' a b => ?_, fun j a ha => ?_, fun j k a hj hk => ?_⟩
  · by_cases hj : j = i
    · subst hj
      simp only [if_pos]
      by_cases hl : j < ρ.length
      · rw [List.getElem?_set_self hl] at a
        rw [List.getElem?_set_self (by rw [← r.len]; exact hl)] at b
        cases a; cases b
        exact ⟨rfl, rfl⟩
      · rw [List.getElem?_eq_none (by simpa using hl)] at a
        cases a
    · simp only [if_neg hj]
      rw [List.getElem?_set_ne (Ne.symm hj)] at a b
      exact h1 j y o' a b
  · by_cases hj : j = i
    · simp only [if_pos hj] at ha; cases ha
    · simp only [if_neg hj] at ha
      exact h2 j a ha
  · by_cases hj' : j = i
    · simp only [if_pos hj'] at hj; cases hj
    · by_cases hk' : k = i
      · simp only [if_pos hk'] at hk; cases hk
      · simp only [if_neg hj'] at hj
        simp only [if_neg hk'] at hk
        exact h3 j k a hj hk
theorem cs_tryAs {n : Str} {body suite : List Stmt} {b₀ : Stmt} {tb : RC} {ts : Xn → Addr → RC} (A : WhD X N sc) (i : Nat) (hi : N[i]? = some n) (hln : sc.names.lookup n = some .local) (T : ExcT X.K X.mg Z.cl h) (hg : GlN sc h.nm) (hdb : (h.nm == ("__debug__" : Str)) = false)
    (hR : ∀ c ∈ R, PySem.W.subIn X.K (.ref (Z.cl c)) (.ref (Z.cl h)) = some (subX c h))
    (hb : ∀ (pn : List (Addr × Obj)) (xe : Value → Shared → Prop), CSs (X.tr pn xe) Z body tb)
    (hsu : ∀ (a : Addr) (oe : Obj) (c : Xn) (pn : List (Addr × Obj)), c ∈ R → subX c h = true → Zc (.ref (Z.cl c)) none oe → (∃ vs, oe.data = .fields vs) → CSs (X.suite a ((a, oe) :: pn)) Z (b₀ :: suite) (ts c a)) :
    CS X Z (.Try body [.ExceptHandler (some (.Name h.nm np)) (some n) (b₀ :: suite) pos'] [] [] pos) (rTryAs tb h R i ts) := fun ex px => by
  refine ps_imp (ps_try_as (i := i) (tb := lTb X.K Z tb) (ts := fun a cls d D σ H => ∃ c, c ∈ R ∧ subX c h = true ∧ cls = .ref (Z.cl c) ∧ d = none ∧ lS X.K Z (fun _ _ => False) (ts c a) D σ H) A.stk A.frm (by rw [A.hN]; exact A.nd) (by rw [A.hN]; exact hi) (show X.env.scope.names.lookup _ = _ by rw [A.hs]; exact hln) (c := .ref (Z.cl h)) ⟨show X.env.scope.names.lookup _ = _ by rw [A.hs]; exact hg, hdb, .inl T.g⟩ px.tk (tb_ok hb) ?_) ?_
  · intro a oe cls d pn hz hf
    refine ⟨fun p s σ H D I ⟨c, hc, hsx, e1, e2, q⟩ => ?_⟩
    subst e1 e2
    exact (hsu a oe c pn hc hsx hz hf _ (px_no rfl)).run p s σ H D I q
  · rintro D σ H ⟨F, ρ, D', rs, t, hx, n, b, k, r⟩
    subst hx
    refine ⟨_, ?_, F, ρ, _, rs, t, rfl, n, b, k, r⟩
    rintro cls d σ1 H1 ⟨c, F1, ρ1, rfl, rfl, rs1, hc, hc1, hc2⟩
    refine ⟨subX c h, exm_exc T (hR c hc), fun hs a ha => ⟨c, hc, hs, rfl, rfl, F1, _, _, rs1.exc i a, hc1 hs a, rfl, ?_, ?_, ?_, r⟩, fun hs => ⟨c, F1, ρ1, rfl, rfl, rs1, hc2 hs⟩⟩
    · exact fun F ρ σ H rs q => n F _ _ H (rs.forget i none) q
    · exact fun F ρ σ H rs q => b F _ _ H (rs.forget i none) q
    · exact fun F ρ σ H rs q => k F _ _ H (rs.forget i none) q
theorem cs_try {body suite : List Stmt} {b₀ : Stmt} {tb ts : RC} (A : WhD X N sc) (T : ExcT X.K X.mg Z.cl h) (hg : GlN sc h.nm) (hdb : (h.nm == ("__debug__" : Str)) = false)
    (hR : ∀ c ∈ R, PySem.W.subIn X.K (.ref (Z.cl c)) (.ref (Z.cl h)) = some (subX c h))
    (hb : ∀ (pn : List (Addr × Obj)) (xe : Value → Shared → Prop), CSs (X.tr pn xe) Z body tb)
    (hsu : ∀ (a : Addr) (oe : Obj) (pn : List (Addr × Obj)), CSs (X.suite a ((a, oe) :: pn)) Z (b₀ :: suite) ts) :
    CS X Z (.Try body [.ExceptHandler (some (.Name h.nm np)) none (b₀ :: suite) pos'] [] [] pos) (rTry tb h R ts) := fun ex px => by
  refine ps_imp (ps_try_only (tb := lTb X.K Z tb) (ts := fun a cls d => lS X.K Z (fun _ _ => False) ts) A.stk A.frm (c := .ref (Z.cl h)) ⟨show X.env.scope.names.lookup _ = _ by rw [A.hs]; exact hg, hdb, .inl T.g⟩ px.tk (tb_ok hb) (fun a oe cls d pn hz hf => hsu a oe pn _ (px_no rfl))) ?_
  rintro D σ H ⟨F, ρ, D', rs, t, hx, n, b, k, r⟩
  subst hx
  refine ⟨_, ?_, F, ρ, _, rs, t, rfl, n, b, k, r⟩
  rintro cls d σ1 H1 ⟨c, F1, ρ1, rfl, rfl, rs1, hc, hc1, hc2⟩
  exact ⟨subX c h, exm_exc T (hR c hc), fun hs a ha => ⟨F1, _, _, rs1, hc1 hs, rfl, n, b, k, r⟩, fun hs => ⟨c, F1, ρ1, rfl, rfl, rs1, hc2 hs⟩⟩
/-- isinstance(e, C) in a suite, C an own class, or a built-in one -/
def rIsE (i : Nat) (a : Addr) (b : Bool) : RE := fun _ ρ Q => ρ[i]? = some (.xc a) ∧ Q (.im (.bool b))
theorem ce_isE {f n : Str} {a : Addr} {oe : Obj} {pn : List (Addr × Obj)} {e2 : Expr} {tc : V} {cv : Value} {b : Bool} (A : Wh (X.suite a ((a, oe) :: pn)) N sc) (i : Nat) (hi : N[i]? = some n) (hv : Vis sc n) (hd : (n == ("__debug__" : Str)) = false) (hcd : (n == ("__classdict__" : Str)) = false)
    (C : ExcC X.K (Z.cl c)) (hz : Zc (.ref (Z.cl c)) none oe) (hf : ∃ vs, oe.data = .fields vs) (hfn : GlN sc f) (hm : X.mg f = none) (hvf : bootBuiltins f = some (.builtin "isinstance")) (hn : f ≠ "__name__") (hdb : (f == ("__debug__" : Str)) = false)
    (he : PE (X.suite a ((a, oe) :: pn)) e2 (tC tc)) (hcv : ∀ u, RelV tc u → u = cv) (hk : PySem.W.kitOne X.K (.ref (Z.cl c)) cv = some b)
    (hs : ∀ env, starEach [.Name n p2, e2] env = (false, eval (.Name n p2) env) :: starEach [e2] env := by intro _; rfl) (hs2 : ∀ env, starEach [e2] env = (false, eval e2 env) :: starEach [] env := by intro _; rfl) :
    CE (X.suite a ((a, oe) :: pn)) Z (.Call (.Name f p) [.Name n p2, e2] [] pos) (rIsE i a b) := fun ex px => by
  refine pe_imp (pe_callB (call_isE C hz hf) (show X.env.scope.names.lookup f = _ by rw [A.hs]; exact hfn) hm hvf (pa_cons (pe_var (i := i) (by rw [A.hN]; exact hi) (by rw [A.hs]; exact hv) hd hcd) (pa_cons he pa_nil (hs2 _)) (hs _)) hn hdb (hs _) (by rw [hs2]; rfl)) ?_
  rintro σ H Q ⟨F, ρ, Q', rs, ⟨t1, t2⟩, q⟩
  obtain ⟨fps, h1, h2, h3⟩ := rs.sl
  have hl : i < σ.length := by rw [← rs.len]; exact (List.getElem?_eq_some_iff.mp t1).1
  obtain ⟨_, ev⟩ := h1 i _ _ t1 (List.getElem?_eq_getElem hl)
  exact ⟨.ref a, by rw [List.getElem?_eq_getElem hl, ev], tc, cv, b, rfl, hcv, hk, q _ _ F H t2 (.refl rs.ext.fh) (Dp.bl b)⟩
theorem kitOne_exc {K : PySem.W.Frag} {mg : Str → Option Value} {cl : Xn → Addr} {c h : Xn} (T : ExcT K mg cl h) (hs : PySem.W.subIn K (.ref (cl c)) (.ref (cl h)) = some (subX c h)) (hne : c ≠ h → cl c ≠ cl h) : PySem.W.kitOne K (.ref (cl c)) (.ref (cl h)) = some (subX c h) := by
  unfold PySem.W.kitOne
  by_cases e : c = h
  · subst e
    rw [if_pos (by simp)]
    cases c <;> rfl
  · rw [if_neg (by simp; exact hne e)]
    exact kit_exc T hs
theorem all_nil {P : Xn → Prop} : ∀ c ∈ ([] : List Xn), P c := fun _ h => nomatch h
theorem all_cons {P : Xn → Prop} {a : Xn} {l : List Xn} (h : P a) (t : ∀ c ∈ l, P c) : ∀ c ∈ a :: l, P c := fun c hc => by
  rcases List.mem_cons.1 hc with rfl | hc
  · exact h
  · exact t c hc
/-- isinstance(e, D), D an own class -/
theorem ce_isX {f n : Str} {a : Addr} {oe : Obj} {pn : List (Addr × Obj)} {d : Xn} (A : Wh (X.suite a ((a, oe) :: pn)) N sc) (i : Nat) (hi : N[i]? = some n) (hv : Vis sc n) (hd : (n == ("__debug__" : Str)) = false) (hcd : (n == ("__classdict__" : Str)) = false)
    (C : ExcC X.K (Z.cl c)) (hz : Zc (.ref (Z.cl c)) none oe) (hf : ∃ vs, oe.data = .fields vs) (hfn : GlN sc f) (hm : X.mg f = none) (hvf : bootBuiltins f = some (.builtin "isinstance")) (hn : f ≠ "__name__") (hdb : (f == ("__debug__" : Str)) = false)
    (T : ExcT X.K X.mg Z.cl d) (hgd : GlN sc d.nm) (hdd : (d.nm == ("__debug__" : Str)) = false) (hsd : PySem.W.subIn X.K (.ref (Z.cl c)) (.ref (Z.cl d)) = some (subX c d)) (hcc : PySem.W.subIn X.K (.ref (Z.cl c)) (.ref (Z.cl c)) = some true)
    (hs : ∀ env, starEach [.Name n p2, .Name d.nm np] env = (false, eval (.Name n p2) env) :: starEach [.Name d.nm np] env := by intro _; rfl) (hs2 : ∀ env, starEach [.Name d.nm np] env = (false, eval (.Name d.nm np) env) :: starEach [] env := by intro _; rfl) :
    CE (X.suite a ((a, oe) :: pn)) Z (.Call (.Name f p) [.Name n p2, .Name d.nm np] [] pos) (rIsE i a (subX c d)) := by
  refine ce_isE (tc := .ref (Z.cl d)) (cv := .ref (Z.cl d)) A i hi hv hd hcd C hz hf hfn hm hvf hn hdb (pe_glob (v := .ref (Z.cl d)) (show (X.suite a ((a, oe) :: pn)).env.scope.names.lookup d.nm = _ by rw [A.hs]; exact hgd) T.g rfl hdd) (fun u h => h) ?_ hs hs2
  unfold PySem.W.kitOne
  by_cases e : ((Value.ref (Z.cl c)) == (Value.ref (Z.cl d))) = true
  · rw [if_pos e]
    have e' : Z.cl c = Z.cl d := Value.ref.inj (beq_iff_eq.mp e)
    rw [← e', hcc] at hsd
    exact hsd
  · rw [if_neg e]
    exact kit_exc T hsd
/-- isinstance(e, ValueError) -/
theorem ce_isV {f n : Str} {a : Addr} {oe : Obj} {pn : List (Addr × Obj)} (A : Wh (X.suite a ((a, oe) :: pn)) N sc) (i : Nat) (hi : N[i]? = some n) (hv : Vis sc n) (hd : (n == ("__debug__" : Str)) = false) (hcd : (n == ("__classdict__" : Str)) = false)
    (C : ExcC X.K (Z.cl c)) (hz : Zc (.ref (Z.cl c)) none oe) (hf : ∃ vs, oe.data = .fields vs) (hfn : GlN sc f) (hm : X.mg f = none) (hvf : bootBuiltins f = some (.builtin "isinstance")) (hn : f ≠ "__name__") (hdb : (f == ("__debug__" : Str)) = false)
    (hgd : GlN sc "ValueError") (hmd : X.mg "ValueError" = none) (hsd : PySem.W.subIn X.K (.ref (Z.cl c)) (.type "ValueError") = some true)
    (hs : ∀ env, starEach [.Name n p2, .Name "ValueError" np] env = (false, eval (.Name n p2) env) :: starEach [.Name "ValueError" np] env := by intro _; rfl) (hs2 : ∀ env, starEach [.Name "ValueError" np] env = (false, eval (.Name "ValueError" np) env) :: starEach [] env := by intro _; rfl) :
    CE (X.suite a ((a, oe) :: pn)) Z (.Call (.Name f p) [.Name n p2, .Name "ValueError" np] [] pos) (rIsE i a true) := by
  refine ce_isE (tc := .ty "ValueError") (cv := .type "ValueError") A i hi hv hd hcd C hz hf hfn hm hvf hn hdb (pe_bltn (v := .ty "ValueError") (u := .type "ValueError") (show (X.suite a ((a, oe) :: pn)).env.scope.names.lookup _ = _ by rw [A.hs]; exact hgd) hmd (by decide +kernel) rfl (by decide) (by decide +kernel)) (fun u h => h) ?_ hs hs2
  unfold PySem.W.kitOne
  rw [if_neg (fun h => by cases (beq_iff_eq.mp h))]
  show (if PySem.W.kitMeta "ValueError" = true then PySem.W.subIn X.K (.ref (Z.cl c)) (.type "ValueError") else none) = some true
  rw [if_pos (by decide +kernel)]
  exact hsd
end

/-! ### a def keeps its promise -/
section
variable {P : Program} {w : World} {K : PySem.W.Frag} {mg : Str → Option Value} {base : Heap} {cl : Xn → Addr}
/-- what a def's body has around it -/
structure Bd (P : Program) (w : World) (K : PySem.W.Frag) (mg : Str → Option Value) (base : Heap) (k : Nat) (X : Cx) (N : List Str) (sc : Scope) : Prop where
  A : WhD X N sc
  hc : X.calm = true
  hr : Room k X.A
  prog : X.prog = P
  w : X.w = w
  K : X.K = K
  mg : X.mg = mg
  base : X.base = base
def start0 (N : List Str) (ds : List PyData) : Rho := ds.map PV.im ++ List.replicate (N.length - ds.length) PV.un
/-- the ends of a def's body -/
def dEnds (Q : PV → Prop) (E : Xn → Prop) : PEnds := { nx := fun _ => Q (.im .none), rt := fun x _ => Q x, ex := fun c _ => E c }
theorem fn_ok {x qual : Str} {st : Stmt} {f : Addr} {fd : FuncData} {N ps : List Str} {k : Nat} {sp : PSp} {rd : RC} (F : Fun K x qual st f fd) (S : FnScope N ps (defScope st)) (len : ∀ ds Q E, sp ds Q E → ds.length = ps.length)
    (der : ∀ (X : Cx) (Z : Zp), Z.cl = cl → Bd P w K mg base k X N (defScope st) → CSs X Z (defBody st) rd)
    (pure : ∀ ds Q E, sp ds Q E → rd (dEnds Q E) (start0 N ds)) : FnOk P w K mg base (L2.CX P w) (k + 1) f fd ps (lSp K cl sp) := by
  refine F.okX S (fun vs H Q E h => ?_) (fun cdv A outer s H vs Q E hr h => ?_)
  · obtain ⟨F, ds, Q', E', _, a, q, _⟩ := h
    rw [dpa_len a]
    exact len ds Q' E' q
  · obtain ⟨F0, ds, Q', E', sF, a, q, post, epost⟩ := h
    have hp := pure ds Q' E' q
    refine ⟨_, der _ ⟨F0, H, cl⟩ rfl ⟨⟨⟨rfl, S.nd, rfl⟩, fun _ => rfl, rfl, rfl, S.kind⟩, rfl, hr, rfl, rfl, rfl, rfl, rfl⟩ (fun c _ => E' c) ⟨?_, passes_of rfl⟩, F0, _, _, RS.start sF a, hp, rfl, ?_, ?_, ?_, ?_⟩
    · refine (takes_of rfl rfl rfl rfl).imp ?_
      rintro cls d σ H' ⟨c, F', ρ, rfl, rfl, rs, hE⟩
      exact epost c H' hE rs.ext.hh
    · exact fun F' ρ σ H' rs q => post _ _ F' H' q rs.ext (Dp.non)
    · exact fun F' ρ σ H' rs q => q.elim
    · exact fun F' ρ σ H' rs q => q.elim
    · exact fun x v F' ρ σ H' q rs o => post x v F' H' q rs.ext o
end
end Pz

namespace Pz
open PySem PySem.Spec PyProof.Rows L2
def visB (sc : Scope) (x : Str) : Bool := match sc.names.lookup x with
  | some .local => true | some .cell => true | some .free => true | _ => false
theorem vis_of {sc : Scope} {x : Str} (h : visB sc x = true) : Vis sc x := by
  unfold visB at h
  unfold Vis
  split at h
  · exact .inl (by assumption)
  · exact .inr (.inl (by assumption))
  · exact .inr (.inr (by assumption))
  · cases h
theorem gl_of {sc : Scope} {x : Str} (h : sc.names.lookup x = some .globalImplicit) : GlN sc x := h
theorem bo_len : bootBuiltins "len" = some (.builtin "len") := by decide +kernel
theorem bo_isinstance : bootBuiltins "isinstance" = some (.builtin "isinstance") := by decide +kernel
theorem bo_abs : bootBuiltins "abs" = some (.builtin "abs") := by decide +kernel
theorem bo_sum : bootBuiltins "sum" = some (.builtin "sum") := by decide +kernel
theorem bo_min : bootBuiltins "min" = some (.builtin "min") := by decide +kernel
theorem bo_max : bootBuiltins "max" = some (.builtin "max") := by decide +kernel
theorem bo_sorted : bootBuiltins "sorted" = some (.builtin "sorted") := by decide +kernel
theorem bo_int : bootBuiltins "int" = some (.type "int") := by decide +kernel
theorem bo_bool : bootBuiltins "bool" = some (.type "bool") := by decide +kernel
theorem bo_list : bootBuiltins "list" = some (.type "list") := by decide +kernel
theorem bo_tuple : bootBuiltins "tuple" = some (.type "tuple") := by decide +kernel
theorem bo_str : bootBuiltins "str" = some (.type "str") := by decide +kernel
theorem sw_par {sc : Scope} {env : Env} {x y : Str} {px py pt : Pos} {a b : Expr} {kt k2 pt2} (hk : sc.kind = .function) (hx : sc.names.lookup x = some .local) (hy : sc.names.lookup y = some .local) (hne : (x == y) = false) (hl1 : (px.line == px.line) = true) (hl2 : (py.line == px.line) = true)
    (hs : ([a, b].any fun | .Starred .. => true | _ => false) = false) (hf : ([a, b].all (foldedForSure 8)) = false) (hc : ([a, b].all (constantsAlone 8)) = false) (he : env.scope = sc) :
    swappedStores [.Tuple [.Name x px, .Name y py] kt pt] (.Tuple [a, b] k2 pt2) env = pure (some [x, y]) := by
  have h1 : env.kindOf x = some .local := by show env.scope.names.lookup x = _; rw [he]; exact hx
  have h2 : env.kindOf y = some .local := by show env.scope.names.lookup y = _; rw [he]; exact hy
  have h3 : env.blockKind = .function := by
    unfold Env.blockKind
    rw [he, hk]
    rfl
  have hxy : ¬ x = y := by
    intro e
    rw [e] at hne
    simp at hne
  have e0 : (some NameKind.local == some NameKind.local) = true := by decide
  have e1 : ((x :: [y]).eraseDups.length != 1 + 1) = false := by
    have hyx : (y == x) = false := by
      cases z : (y == x) with
      | false => rfl
      | true => exact absurd (by simpa using z : y = x).symm hxy
    simp [List.eraseDups_cons, hyx, hne]
    try (intro z; exact absurd z.symm hxy)
  unfold swappedStores
  simp only [List.length_cons, List.length_nil, h3, List.head?_cons, Option.map_some, Option.getD_some, Expr.pos, List.filterMap_cons, List.filterMap_nil, h1, h2, hl1, hl2, hf, hc, e0, Bool.true_and, if_true]
  rw [if_neg (by decide), if_neg (fun z => by
    have z' : ([a, b].any fun | .Starred .. => true | _ => false) = true := z
    rw [hs] at z'
    cases z')]
  rw [if_neg (by
    rw [Bool.or_eq_true]
    rintro (z | z)
    · simp at z
    · have z' : ((x :: [y]).eraseDups.length != 1 + 1) = true := z
      rw [e1] at z'
      cases z')]
  rfl
theorem Bd.mono {P : Program} {w : World} {K : PySem.W.Frag} {mg : Str → Option Value} {base : Heap} {j k : Nat} {X : Cx} {N : List Str} {sc : Scope} (B : Bd P w K mg base k X N sc) (h : j ≤ k) : Bd P w K mg base j X N sc := ⟨B.A, B.hc, B.hr.mono h, B.prog, B.w, B.K, B.mg, B.base⟩

/-! ### the text's ends -/
def FunK (K : PySem.W.Frag) (x : Str) (st : Stmt) : Prop := ∃ (f : Addr) (oc : Value) (od an : Option Addr) (sl : Array (Option Value)) (kV dc pm cd ct : Value), PySem.W.nsIn K mainGlobals x = some (some (.ref f)) ∧
  K.lookup f = some ⟨oc, od, .func (PySem.W.fnOf x x (defArgs st) (defBody st) (defScope st) .none kV dc pm an cd ct), sl⟩ ∧ PySem.W.codeIn K cd x = true ∧ PySem.W.keepIn K (.ref f) = true
def clOf (mg : Str → Option Value) (c : Xn) : Addr := match mg c.nm with
  | some (.ref a) => a
  | _ => 0
section
variable {P : Program} {w : World} {K : PySem.W.Frag} {mg : Str → Option Value} {base : Heap} {cl : Xn → Addr}
/-- a def that stands in the text keeps its promise -/
theorem fn_at {x : Str} {st : Stmt} {N ps : List Str} {k : Nat} {sp : PSp} {rd : RC} {h : Heap} (X : K.In h) (G : h.Ns mainGlobals mg) (F : FunK K x st) (S : FnScope N ps (defScope st)) (len : ∀ ds Q E, sp ds Q E → ds.length = ps.length)
    (bind : ∀ (kV doc pm : Value) (an : Option Addr) (cdv ct : Value) (us : List Value), us.length = ps.length → bindArgs (PySem.W.fnOf x x (defArgs st) (defBody st) (defScope st) .none kV doc pm an cdv ct) ⟨us, []⟩ = pure (ps.zip us))
    (der : ∀ (X : Cx) (Z : Zp), Z.cl = cl → Bd P w K mg base k X N (defScope st) → CSs X Z (defBody st) rd)
    (pure : ∀ ds Q E, sp ds Q E → rd (dEnds Q E) (start0 N ds)) : FnAt P w K mg base cl (k + 1) x ps sp := by
  obtain ⟨f, oc, od, an, sl, kV, dc, pm, cd, ct, a, l, c, kp⟩ := F
  have F := fun_mk (st := st) l c kp
  exact ⟨f, _, PySem.W.mg_of X G a, kp, F.binds bind, fn_ok F S len der pure⟩
/-- the law's own promise -/
def spL (K : PySem.W.Frag) : Sp := fun vs H Q _ => ∃ (a : Addr) (ns : List Int), vs = [.ref a] ∧ SqL K H a (ns.map V.int) ∧ ns.length ≤ 63 ∧ (∀ z ∈ ns, Builtin.Int.intBits z ≤ 1048576) ∧ ∀ H', Q (.bl true) H'
def sp_law : PSp := fun ds Q _ => ∃ ns : List Int, ds = [.list (ns.map .int)] ∧ ns.length ≤ 63 ∧ (∀ z ∈ ns, Builtin.Int.intBits z ≤ 1048576) ∧ Q (.im (.bool true))
theorem len_law : ∀ ds Q E, sp_law ds Q E → ds.length = (["script"] : List Str).length := by
  rintro ds Q E ⟨ns, rfl, _⟩
  rfl
/-- the law's def, by its body -/
theorem law_ok {st : Stmt} {f : Addr} {fd : FuncData} {N : List Str} {k : Nat} {rd : RC} (F : Fun K "law" "law" st f fd) (S : FnScope N ["script"] (defScope st))
    (der : ∀ (X : Cx) (Z : Zp), Z.cl = cl → Bd P w K mg base k X N (defScope st) → CSs X Z (defBody st) rd)
    (pure : ∀ ds Q E, sp_law ds Q E → rd (dEnds Q E) (start0 N ds)) : FnOk P w K mg base (L2.CX P w) (k + 1) f fd ["script"] (spL K) := by
  refine (fn_ok F S len_law der pure).imp fun vs H Q E h => ?_
  obtain ⟨a, ns, rfl, hS, hl, hb, q⟩ := h
  refine ⟨H, [.list (ns.map .int)], fun x => x = .im (.bool true), fun _ => False, .refl _, .cons (.lst hS (dpa_ints ns)) .nil, ⟨ns, rfl, hl, hb, rfl⟩, ?_, fun _ _ z => z.elim⟩
  rintro x v F' H' rfl e o
  cases (show Dp K F' v (.bool true) from o)
  exact q H'
theorem cx_no {H : Hp} {s : Shared} {e : Value} {s' : Shared} (h : L2.CX P w [] H s (fun _ _ _ => False) e s') : False := by
  obtain ⟨_, _, _, _, _, _, _, _, _, _, _, _, z⟩ := h
  exact z
def ExcFK (K : PySem.W.Frag) (x : Str) : Prop := ∃ a, PySem.W.nsIn K mainGlobals x = some (some (.ref a)) ∧ PySem.W.keepIn K (.ref a) = true ∧
  PySem.W.excIn K a [.type "ValueError", .type "Exception", .type "BaseException", .type "object"] "ValueError.__new__" = true ∧ PySem.W.subIn K (.ref a) (.type "BaseException") = some true ∧ PySem.W.typeIn K (.ref a) = some (.type "type")
def ExcTK (K : PySem.W.Frag) (x : Str) : Prop := ∃ a, PySem.W.nsIn K mainGlobals x = some (some (.ref a)) ∧ PySem.W.subIn K (.ref a) (.type "BaseException") = some true ∧ PySem.W.typeIn K (.ref a) = some (.type "type") ∧ PySem.W.isClsIn K a = true
def SubK (K : PySem.W.Frag) (x y : Str) (b : Bool) : Prop := ∃ a c, PySem.W.nsIn K mainGlobals x = some (some (.ref a)) ∧ PySem.W.nsIn K mainGlobals y = some (some (.ref c)) ∧ PySem.W.subIn K (.ref a) (.ref c) = some b
theorem exctk_mk {K : PySem.W.Frag} {x : Str} {a : Addr} (h1 : PySem.W.nsIn K mainGlobals x = some (some (.ref a))) (h2 : PySem.W.subIn K (.ref a) (.type "BaseException") = some true) (h3 : PySem.W.typeIn K (.ref a) = some (.type "type")) (h4 : PySem.W.isClsIn K a = true) : ExcTK K x := ⟨a, h1, h2, h3, h4⟩
theorem excfk_mk {K : PySem.W.Frag} {x : Str} {a : Addr} (h1 : PySem.W.nsIn K mainGlobals x = some (some (.ref a))) (h2 : PySem.W.keepIn K (.ref a) = true)
  (h3 : PySem.W.excIn K a [.type "ValueError", .type "Exception", .type "BaseException", .type "object"] "ValueError.__new__" = true) (h4 : PySem.W.subIn K (.ref a) (.type "BaseException") = some true) (h5 : PySem.W.typeIn K (.ref a) = some (.type "type")) : ExcFK K x := ⟨a, h1, h2, h3, h4, h5⟩
theorem subk_mk {K : PySem.W.Frag} {x y : Str} {b : Bool} {a c : Addr} (h1 : PySem.W.nsIn K mainGlobals x = some (some (.ref a))) (h2 : PySem.W.nsIn K mainGlobals y = some (some (.ref c))) (h3 : PySem.W.subIn K (.ref a) (.ref c) = some b) : SubK K x y b := ⟨a, c, h1, h2, h3⟩
def ExcCK (K : PySem.W.Frag) (x : Str) : Prop := ∃ a, PySem.W.nsIn K mainGlobals x = some (some (.ref a)) ∧ ExcC K a
theorem excck_mk {K : PySem.W.Frag} {x : Str} {a : Addr} (h0 : PySem.W.nsIn K mainGlobals x = some (some (.ref a))) (h1 : PySem.W.findIn K (.ref a) "__getattribute__" = some (some (.builtin "BaseException.__getattribute__"))) (h2 : PySem.W.findIn K (.ref a) "__getattr__" = some none)
  (h3 : PySem.W.subIn K (.ref a) (.type "BaseException") = some true) (h4 : PySem.W.hasDictIn K a = true) (h5 : PySem.W.findIn K (.ref a) "__class__" = some (some (.builtin "object.__class__"))) (h6 : PySem.W.specialIn K (.builtin "object.__class__") "__get__" = some (some (.builtin "getset_descriptor.__get__")))
  (h7 : PySem.W.takesIn K (.builtin "object.__class__") = some true) (h8 : PySem.W.mroIn K a (.type "object") = some true) : ExcCK K x := ⟨a, h0, h1, h2, h3, h4, h5, h6, h7, h8⟩
def SubVK (K : PySem.W.Frag) (x : Str) : Prop := ∃ a, PySem.W.nsIn K mainGlobals x = some (some (.ref a)) ∧ PySem.W.subIn K (.ref a) (.type "ValueError") = some true
theorem subvk_mk {K : PySem.W.Frag} {x : Str} {a : Addr} (h1 : PySem.W.nsIn K mainGlobals x = some (some (.ref a))) (h2 : PySem.W.subIn K (.ref a) (.type "ValueError") = some true) : SubVK K x := ⟨a, h1, h2⟩
theorem const_mk {K : PySem.W.Frag} {x : Str} {i : Int} {t : Tok} (h1 : PySem.W.nsIn K mainGlobals x = some (some (.int i t))) : ∃ t, PySem.W.nsIn K mainGlobals x = some (some (.int i t)) := ⟨t, h1⟩
theorem funk_mk {K : PySem.W.Frag} {x : Str} {st : Stmt} {f : Addr} {oc : Value} {od an : Option Addr} {sl : Array (Option Value)} {kV dc pm cd ct : Value} (h1 : PySem.W.nsIn K mainGlobals x = some (some (.ref f)))
  (h2 : K.lookup f = some ⟨oc, od, .func (PySem.W.fnOf x x (defArgs st) (defBody st) (defScope st) .none kV dc pm an cd ct), sl⟩) (h3 : PySem.W.codeIn K cd x = true) (h4 : PySem.W.keepIn K (.ref f) = true) : FunK K x st := ⟨f, oc, od, an, sl, kV, dc, pm, cd, ct, h1, h2, h3, h4⟩
theorem cl_of {c : Xn} {a : Addr} (h : mg c.nm = some (.ref a)) : clOf mg c = a := by unfold clOf; rw [h]
theorem excF_mk {h : Heap} (X : K.In h) (G : h.Ns mainGlobals mg) (c : Xn) (e : ExcFK K c.nm) : ExcF K mg (clOf mg) c := by
  obtain ⟨a, h1, h2, h3, h4, h5⟩ := e
  have m := PySem.W.mg_of X G h1
  have q := cl_of m
  exact ⟨by rw [q]; exact m, by rw [q]; exact h2, by rw [q]; exact h3, by rw [q]; exact h4, by rw [q]; exact h5⟩
theorem excT_mk {h : Heap} (X : K.In h) (G : h.Ns mainGlobals mg) (c : Xn) (e : ExcTK K c.nm) : ExcT K mg (clOf mg) c := by
  obtain ⟨a, h1, h2, h3, h4⟩ := e
  have m := PySem.W.mg_of X G h1
  have q := cl_of m
  exact ⟨by rw [q]; exact m, by rw [q]; exact h2, by rw [q]; exact h3, by rw [q]; exact h4⟩
theorem excC_mk {h : Heap} (X : K.In h) (G : h.Ns mainGlobals mg) (c : Xn) (e : ExcCK K c.nm) : ExcC K (clOf mg c) := by
  obtain ⟨a, h1, h2⟩ := e
  rw [cl_of (PySem.W.mg_of X G h1)]
  exact h2
theorem subV_mk {h : Heap} (X : K.In h) (G : h.Ns mainGlobals mg) (c : Xn) (e : SubVK K c.nm) : PySem.W.subIn K (.ref (clOf mg c)) (.type "ValueError") = some true := by
  obtain ⟨a, h1, h2⟩ := e
  rw [cl_of (PySem.W.mg_of X G h1)]
  exact h2
theorem subX_mk {h : Heap} (X : K.In h) (G : h.Ns mainGlobals mg) (c d : Xn) {b : Bool} (e : SubK K c.nm d.nm b) : PySem.W.subIn K (.ref (clOf mg c)) (.ref (clOf mg d)) = some b := by
  obtain ⟨a, a', h1, h2, h3⟩ := e
  rw [cl_of (PySem.W.mg_of X G h1), cl_of (PySem.W.mg_of X G h2)]
  exact h3
end
end Pz


namespace Pz
open PySem PySem.Spec PyProof.Rows L2

/-! ### loops, by what is left -/
theorem forR_ind {g : PyData → Rho → (Rho → Prop) → Prop} {b : RC} {D : PEnds} (P : List PyData → Rho → Prop) (h0 : ∀ ρ, P [] ρ → D.nx ρ)
    (h1 : ∀ d r ρ (K : Rho → Prop), P (d :: r) ρ → (∀ ρ', P r ρ' → K ρ') → g d ρ fun ρ1 => b { D with nx := K, ct := K, bk := D.nx } ρ1) : ∀ ds ρ, P ds ρ → forR g b D ds ρ
  | [], ρ, h => h0 ρ h
  | d :: r, ρ, h => h1 d r ρ (forR g b D r) h (forR_ind P h0 h1 r)
theorem forL_ind {g : PyData → Rho → (Rho → Prop) → Prop} {b : RC} {D : PEnds} (P : List PyData → Rho → Prop) (h0 : ∀ ρ, P [] ρ → D.nx ρ)
    (h1 : ∀ d r ρ (K : Rho → Prop), P (d :: r) ρ → (∀ ρ', P r ρ' → K ρ') → g d ρ fun ρ1 => b { D with nx := K, ct := K, bk := D.nx } ρ1) (ds : List PyData) (ρ : Rho) (h : P ds ρ) : forL g b D ds ρ := forL_eq.mpr (forR_ind P h0 h1 ds ρ h)
/-- its step first, then what follows -/
theorem forL_st {g : PyData → Rho → (Rho → Prop) → Prop} {b : RC} {D : PEnds} {ds : List PyData} {ρ : Rho} (P : List PyData → Rho → Prop) (hP : P ds ρ)
    (h1 : ∀ d r ρ (K : Rho → Prop), P (d :: r) ρ → (∀ ρ', P r ρ' → K ρ') → g d ρ fun ρ1 => b { D with nx := K, ct := K, bk := D.nx } ρ1) (h0 : ∀ ρ, P [] ρ → D.nx ρ) : forL g b D ds ρ := forL_ind P h0 h1 ds ρ hP
theorem whileL_ind {c : RT} {b : RC} {D : PEnds} (P : Nat → Rho → Prop)
    (h : ∀ n ρ (K : Rho → Prop), P n ρ → (∀ m ρ', m < n → P m ρ' → K ρ') → c D.ex ρ fun z => (z = true → b { D with nx := K, ct := K, bk := D.nx } ρ) ∧ (z = false → D.nx ρ)) : ∀ N n ρ, n < N → P n ρ → whileL c b D N ρ
  | 0, _, _, h0, _ => absurd h0 (Nat.not_lt_zero _)
  | N + 1, n, ρ, h0, p => h n ρ (whileL c b D N) p fun m ρ' hm p' => whileL_ind P h N m ρ' (by omega) p'
theorem rWhile_ind {c : RT} {b : RC} {D : PEnds} {ρ : Rho} (P : Nat → Rho → Prop) (n : Nat) (p : P n ρ)
    (h : ∀ n ρ (K : Rho → Prop), P n ρ → (∀ m ρ', m < n → P m ρ' → K ρ') → c D.ex ρ fun z => (z = true → b { D with nx := K, ct := K, bk := D.nx } ρ) ∧ (z = false → D.nx ρ)) : rWhile c b D ρ :=
  ⟨n + 1, whileL_ind P h (n + 1) n ρ (Nat.lt_succ_self _) p⟩
theorem lcR_ind {g : PyData → Rho → (Rho → Prop) → Prop} {tt : RT} {te : RE} {ρ : Rho} {Q : PV → Prop} (P : List PyData → List PyData → Prop) (h0 : ∀ acc, P [] acc → Q (.ow (.ls acc)))
    (h1 : ∀ d r acc (K : List PyData → Prop), P (d :: r) acc → (∀ a, P r a → K a) → g d ρ fun ρ1 => tt (fun _ _ => False) ρ1 fun b => (b = true → te (fun _ _ => False) ρ1 fun x => x.frz fun y => K (acc ++ [y])) ∧ (b = false → K acc)) : ∀ ds acc, P ds acc → lcR g tt te ρ ds acc Q
  | [], acc, h => h0 acc h
  | d :: r, acc, h => h1 d r acc (fun a => lcR g tt te ρ r a Q) h (fun a => lcR_ind P h0 h1 r a)

theorem lcL_ind {g : PyData → Rho → (Rho → Prop) → Prop} {tt : RT} {te : RE} {ρ : Rho} {Q : PV → Prop} (P : List PyData → List PyData → Prop) (h0 : ∀ acc, P [] acc → Q (.ow (.ls acc)))
    (h1 : ∀ d r acc (K : List PyData → Prop), P (d :: r) acc → (∀ a, P r a → K a) → g d ρ fun ρ1 => tt (fun _ _ => False) ρ1 fun b => (b = true → te (fun _ _ => False) ρ1 fun x => x.frz fun y => K (acc ++ [y])) ∧ (b = false → K acc)) (ds acc : List PyData) (h : P ds acc) : lcL g tt te ρ ds acc Q := lcL_eq.mpr (lcR_ind P h0 h1 ds acc h)
theorem lcL_st {g : PyData → Rho → (Rho → Prop) → Prop} {tt : RT} {te : RE} {ρ : Rho} {Q : PV → Prop} {ds acc : List PyData} (P : List PyData → List PyData → Prop) (hP : P ds acc)
    (h1 : ∀ d r acc (K : List PyData → Prop), P (d :: r) acc → (∀ a, P r a → K a) → g d ρ fun ρ1 => tt (fun _ _ => False) ρ1 fun b => (b = true → te (fun _ _ => False) ρ1 fun x => x.frz fun y => K (acc ++ [y])) ∧ (b = false → K acc)) (h0 : ∀ acc, P [] acc → Q (.ow (.ls acc))) : lcL g tt te ρ ds acc Q := lcL_ind P h0 h1 ds acc hP

/-! ### how big -/
structure Bt (n : Nat) (x : Int) : Prop where
  out : x.natAbs < 2 ^ n
theorem Bt.mono {a b : Nat} {x : Int} (h : Bt a x) (k : a ≤ b) : Bt b x := ⟨Nat.lt_of_lt_of_le h.out (Nat.pow_le_pow_right (by decide) k)⟩
theorem Bt.add {a : Nat} {x y : Int} (h : Bt a x) (k : Bt a y) : Bt (a + 1) (x + y) := ⟨by
  have := h.out
  have := k.out
  have : 2 ^ (a + 1) = 2 ^ a + 2 ^ a := by rw [Nat.pow_succ]; omega
  omega⟩
theorem Bt.sub {a : Nat} {x y : Int} (h : Bt a x) (k : Bt a y) : Bt (a + 1) (x - y) := ⟨by
  have := h.out
  have := k.out
  have : 2 ^ (a + 1) = 2 ^ a + 2 ^ a := by rw [Nat.pow_succ]; omega
  omega⟩
theorem Bt.neg {a : Nat} {x : Int} (h : Bt a x) : Bt a (-x) := ⟨by
  have := h.out
  omega⟩
theorem Bt.mul {a b : Nat} {x y : Int} (h : Bt a x) (k : Bt b y) : Bt (a + b) (x * y) := ⟨by
  rw [Int.natAbs_mul, Nat.pow_add]
  exact Nat.mul_lt_mul'' h.out k.out⟩
theorem Bt.of_le {a : Nat} {x y : Int} (h : Bt a y) (k : x.natAbs ≤ y.natAbs) : Bt a x := ⟨Nat.lt_of_le_of_lt k h.out⟩
theorem Bt.div {a : Nat} {x y : Int} (h : Bt a x) (hy : 0 < y) : Bt a (x / y) := by
  refine h.of_le ?_
  rcases Int.le_total 0 x with hx | hx
  · have h1 : 0 ≤ x / y := Int.ediv_nonneg hx (by omega)
    have h2 : x / y ≤ x := Int.ediv_le_self _ hx
    omega
  · have h1 : x / y ≤ 0 := by
      rcases Int.lt_or_eq_of_le hx with h | h
      · exact Int.le_of_lt (Int.ediv_neg_of_neg_of_pos h hy)
      · rw [h]; simp
    have h2 : x ≤ x / y := by
      rw [Int.le_ediv_iff_mul_le hy]
      calc x * y ≤ x * 1 := Int.mul_le_mul_of_nonpos_left hx (by omega)
        _ = x := Int.mul_one x
    omega
theorem Bt.mod {a : Nat} {x y : Int} (h : Bt a y) (hy : 0 < y) : Bt a (x % y) := by
  refine h.of_le ?_
  have h1 := Int.emod_nonneg x (show y ≠ 0 by omega)
  have h2 := Int.emod_lt_of_pos x hy
  omega
theorem Bt.num {n : Nat} {x : Int} (h : x.natAbs < 2 ^ n) : Bt n x := ⟨h⟩
theorem Bt.bits {x : Int} {n : Nat} (h : Builtin.Int.intBits x ≤ n) : Bt n x := ⟨by
  unfold Builtin.Int.intBits at h
  split at h
  · rename_i e
    have e' : x.natAbs = 0 := by simpa using e
    rw [e']
    exact Nat.two_pow_pos n
  · rename_i e
    have e' : x.natAbs ≠ 0 := by simpa using e
    exact (Nat.log2_lt e').mp (by omega)⟩
theorem log2_le_of_lt {m n : Nat} (h : m < 2 ^ n) : m.log2 ≤ n := by
  by_cases e : m = 0
  · subst e; simp
  · have := (Nat.log2_lt e).mpr h
    omega
theorem Bt.ok {a b : Nat} {x y : Int} (h : Bt a x) (k : Bt b y) (l : a + b < 67108864) : CMulB x y := by
  have h1 := log2_le_of_lt h.out
  have h2 := log2_le_of_lt k.out
  unfold CMulB
  omega
theorem Bt.dv {b : Nat} {x y : Int} (k : Bt b y) (h : 0 < y) (l : b < 9000) : CDivW x y := ⟨h, by
  have := log2_le_of_lt k.out
  omega⟩
theorem Bt.pow {p : Int} {a : Nat} (h : Bt a p) (ha : 0 < a) : ∀ e : Nat, Bt (a * e + 1) (p ^ e)
  | 0 => ⟨by simp⟩
  | e + 1 => by
    rw [Int.pow_succ]
    refine ((Bt.pow h ha e).mul h).mono ?_
    rw [Nat.mul_succ]; omega

/-! ### places of written lists -/
theorem at0 {a : PyData} {l : List PyData} {Q : PyData → Prop} : (∃ d, atI (a :: l) 0 = some d ∧ Q d) ↔ Q a := by
  have : atI (a :: l) 0 = some a := by unfold atI ixN; rw [if_pos (by decide), if_pos (by simp only [List.length_cons]; omega)]; rfl
  constructor
  · rintro ⟨d, e, q⟩; rw [this] at e; cases e; exact q
  · exact fun q => ⟨a, this, q⟩
theorem at1 {a b : PyData} {l : List PyData} {Q : PyData → Prop} : (∃ d, atI (a :: b :: l) 1 = some d ∧ Q d) ↔ Q b := by
  have : atI (a :: b :: l) 1 = some b := by unfold atI ixN; rw [if_pos (by decide), if_pos (by simp only [List.length_cons]; omega)]; rfl
  constructor
  · rintro ⟨d, e, q⟩; rw [this] at e; cases e; exact q
  · exact fun q => ⟨b, this, q⟩
theorem nrm_t {d : PyData} : nrm true d = .im d := rfl
theorem nrm_i {z : Bool} {i : Int} : nrm z (.int i) = .im (.int i) := by unfold nrm; simp [scl]
theorem nrm_b {z : Bool} {i : Bool} : nrm z (.bool i) = .im (.bool i) := by unfold nrm; simp [scl]
/-- a place of a list of ints -/
theorem atI_ints {ns : List Int} {k : Int} {v : Int} (h : atI ns k = some v) : atI (ns.map PyData.int) k = some (.int v) := by
  unfold atI at *
  rw [List.length_map]
  cases e : ixN ns.length k with
  | none => rw [e] at h; cases h
  | some j =>
    rw [e] at h
    show (ns.map PyData.int)[j]? = _
    rw [List.getElem?_map, show ns[j]? = some v from h]
    rfl
theorem atI_some {α : Type} {xs : List α} {k : Int} (h0 : 0 ≤ k) (h1 : k < xs.length) : ∃ v, atI xs k = some v ∧ v ∈ xs := by
  unfold atI ixN
  rw [if_pos h0, if_pos h1]
  have h : k.toNat < xs.length := by omega
  exact ⟨xs[k.toNat], by simp [h], List.getElem_mem h⟩
end Pz
namespace Pz
open PySem PySem.Spec PyProof.Rows L2
/-! ### == of what is made of ints -/
theorem eqvAll_ints : ∀ xs ys : List Int, PyData.eqvAll (xs.map .int) (ys.map .int) = decide (xs = ys)
  | [], [] => by simp [PyData.eqvAll]
  | [], _ :: _ => by simp [PyData.eqvAll]
  | _ :: _, [] => by simp [PyData.eqvAll]
  | x :: xs, y :: ys => by
    rw [List.map_cons, List.map_cons]
    unfold PyData.eqvAll
    rw [eqv_int, eqvAll_ints xs ys]
    by_cases h : x = y <;> simp [h]
theorem eqv_lints (xs ys : List Int) : PyData.eqv (.list (xs.map .int)) (.list (ys.map .int)) = decide (xs = ys) := by unfold PyData.eqv; exact eqvAll_ints xs ys
theorem eqv_tints (xs ys : List Int) : PyData.eqv (.tuple (xs.map .int)) (.tuple (ys.map .int)) = decide (xs = ys) := by unfold PyData.eqv; exact eqvAll_ints xs ys
theorem canLayAll_ints : ∀ xs : List Int, PyData.canLayAll0 (xs.map .int) = true
  | [] => by simp [PyData.canLayAll0]
  | x :: xs => by simp [PyData.canLayAll0, PyData.canLay0]; exact canLayAll_ints xs
theorem depthAll_ints : ∀ xs : List Int, PyData.depthAll (xs.map .int) ≤ 1
  | [] => by simp [PyData.depthAll]
  | x :: xs => by
    have := depthAll_ints xs
    simp only [List.map_cons, PyData.depthAll, PyData.depth]
    omega
theorem shaped_lints (xs : List Int) : SeqAt.shaped (.list (xs.map .int)) = true := by
  have := depthAll_ints xs
  have h2 := canLayAll_ints xs
  simp only [SeqAt.shaped, PyData.canLay0, h2, PyData.depth, Bool.true_and]
  exact decide_eq_true (by omega)
theorem shaped_tints (xs : List Int) : SeqAt.shaped (.tuple (xs.map .int)) = true := by
  have := depthAll_ints xs
  have h2 := canLayAll_ints xs
  simp only [SeqAt.shaped, PyData.canLay0, h2, PyData.depth, Bool.true_and]
  exact decide_eq_true (by omega)
theorem eqv_pair (a b c d : Int) : PyData.eqv (.tuple [.int a, .int b]) (.tuple [.int c, .int d]) = decide (a = c ∧ b = d) := by
  have := eqv_tints [a, b] [c, d]
  simpa using this
theorem shaped_pair (a b : Int) : SeqAt.shaped (.tuple [.int a, .int b]) = true := shaped_tints [a, b]
def primes25 : List Int := [2, 3, 5, 7, 11, 13, 17, 19, 23, 29, 31, 37, 41, 43, 47, 53, 59, 61, 67, 71, 73, 79, 83, 89, 97]
theorem primes25_le {p : Int} (h : p ∈ primes25) : 2 ≤ p ∧ p ≤ 97 := by
  revert p
  decide
end Pz
namespace Pz
open PySem PySem.Spec PyProof.Rows L2
theorem data_im {d : PyData} : PV.data (.im d) = d := rfl
theorem data_lv {d : List PyData} : PV.data (.lv d) = .list d := rfl
theorem data_ls {d : List PyData} : PV.data (.ow (.ls d)) = .list d := rfl
theorem data_rd {d : PyData} : PV.data (.rd d) = d := rfl
theorem fz_im {d : PyData} : PV.fz (.im d) = true := rfl
theorem fz_lv {d : List PyData} : PV.fz (.lv d) = true := rfl
theorem fz_ow {c : Oc} : PV.fz (.ow c) = true := rfl
theorem fz_rd {d : PyData} : PV.fz (.rd d) = false := rfl
theorem frz_im {d : PyData} {Q : PyData → Prop} : PV.frz (.im d) Q = Q d := rfl
theorem frz_ls {d : List PyData} {Q : PyData → Prop} : PV.frz (.ow (.ls d)) Q = Q (.list d) := rfl
theorem rdd_im {d : PyData} {Q : PyData → Prop} : PV.rdd (.im d) Q = Q d := rfl
theorem rdd_ls {d : List PyData} {Q : PyData → Prop} : PV.rdd (.ow (.ls d)) Q = Q (.list d) := rfl
theorem rdd_lv {d : List PyData} {Q : PyData → Prop} : PV.rdd (.lv d) Q = Q (.list d) := rfl
theorem rdd_rd {d : PyData} {Q : PyData → Prop} : PV.rdd (.rd d) Q = Q d := rfl
theorem sto_im {d : PyData} {Q : PV → Prop} : PV.sto (.im d) Q = Q (.im d) := rfl
theorem sto_ow {c : Oc} {Q : PV → Prop} : PV.sto (.ow c) Q = Q (.ow c) := rfl
theorem weak_im {d : PyData} {Q : PV → Prop} : PV.weak (.im d) Q = Q (nrm false d) := rfl
theorem weak_ls {d : List PyData} {Q : PV → Prop} : PV.weak (.ow (.ls d)) Q = Q (.rd (.list d)) := rfl
theorem weak_rd {d : PyData} {Q : PV → Prop} : PV.weak (.rd d) Q = Q (.rd d) := rfl
theorem two_cast (n : Nat) : ((n + 1 : Nat) : Int) = (n : Int) + 1 := by omega
end Pz
namespace Pz
open PySem PySem.Spec PyProof.Rows L2
theorem primes25_len : (primes25.length : Int) = 25 := rfl
theorem cdivw {x y : Int} (h : 0 < y) (k : y.natAbs.log2 < 9000) : L2.CDivW x y := ⟨h, k⟩
/-- a place of a written list of ints, by what all its items are -/
theorem at_lits {P : Int → Prop} {ns : List Int} {k : Int} {Q : PyData → Prop} (h0 : 0 ≤ k) (h1 : k < ns.length) (hP : ∀ v ∈ ns, P v) (q : ∀ v, P v → Q (.int v)) : ∃ d, L2.atI (ns.map PySem.PyData.int) k = some d ∧ Q d := by
  obtain ⟨v, hv, hm⟩ := atI_some h0 h1
  exact ⟨_, atI_ints hv, q v (hP v hm)⟩
/-- .. within bounds -/
theorem at_litB {lo hi : Int} (ns : List Int) {k : Int} {Q : PyData → Prop} (h0 : 0 ≤ k) (h1 : k < ns.length) (hP : ∀ v ∈ ns, lo ≤ v ∧ v ≤ hi) (q : ∀ v, lo ≤ v → v ≤ hi → Q (.int v)) : ∃ d, L2.atI (ns.map PySem.PyData.int) k = some d ∧ Q d :=
  at_lits (P := fun v => lo ≤ v ∧ v ≤ hi) h0 h1 hP fun v h => q v h.1 h.2
theorem upto_mem {n : Nat} {f : Nat → PySem.PyData} {d : PySem.PyData} (h : d ∈ upto n f) : ∃ i, i < n ∧ d = f i := by
  unfold upto at h
  rw [List.mem_map] at h
  obtain ⟨i, hi, rfl⟩ := h
  exact ⟨i, List.mem_range.mp hi, rfl⟩
theorem primes4 : ∀ v ∈ ([2, 3, 5, 7] : List Int), v ∈ primes25 := by
  intro v hv
  simp only [List.mem_cons, List.not_mem_nil, or_false] at hv
  rcases hv with rfl | rfl | rfl | rfl <;> simp [primes25]
end Pz

namespace Pz
open PySem PySem.Spec PyProof.Rows L2
/-! ### more constructs -/
/-- min(a, b, c) -/
def mi2 (i j : Int) : Int := if j < i then j else i
def ma2 (i j : Int) : Int := if j > i then j else i
theorem nuMin2_int (i j : Int) : nuMin2 (.int i) (.int j) = some (.int (mi2 i j)) := by
  unfold nuMin2 mi2
  show Option.map _ (some (decide (j < i))) = _
  by_cases h : j < i
  · rw [decide_eq_true h, if_pos h]; rfl
  · rw [decide_eq_false h, if_neg h]; rfl
theorem call_min3i {X : Cx} (hc : X.calm = true) : CallR X (.builtin "min") (fun xs H Q => ∃ i j k, xs = [.int i, .int j, .int k] ∧ Q (.int (mi2 (mi2 i j) k)) H) := by
  intro pins s σ H xs us Q I r h
  obtain ⟨i, j, k, rfl, q⟩ := h
  refine call_min3Nu hc pins s σ H _ us Q I r ⟨_, _, _, _, rfl, ?_, q⟩
  unfold nuMin3
  rw [nuMin2_int]
  exact nuMin2_int _ _
def gMin3 : PV → PV → PV → (PV → Prop) → Prop := fun x y z Q => match x.data, y.data, z.data with
  | .int i, .int j, .int k => Q (.im (.int (mi2 (mi2 i j) k)))
  | _, _, _ => False
def rOp3 (g : PV → PV → PV → (PV → Prop) → Prop) (ta tb tc : RE) : RE := fun ex ρ Q => ta ex ρ fun x => tb ex ρ fun y => tc ex ρ fun z => g x y z Q
section
variable {X : Cx} {Z : Zp} {N : List Str} {sc : Scope} {a b c : Expr} {ta tb tc : RE} {f : Str} {p pos : Pos}
theorem ce_min3 (A : Wh X N sc) (hc : X.calm = true) (hf : GlN sc f) (hm : X.mg f = none) (hv : bootBuiltins f = some (.builtin "min")) (ha : CE X Z a ta) (hb : CE X Z b tb) (hcc : CE X Z c tc)
    (hn : f ≠ "__name__") (hdb : (f == ("__debug__" : Str)) = false) (hs : ∀ env, starEach [a, b, c] env = (false, eval a env) :: starEach [b, c] env := by intro _; rfl) (hs2 : ∀ env, starEach [b, c] env = (false, eval b env) :: starEach [c] env := by intro _; rfl) (hs3 : ∀ env, starEach [c] env = (false, eval c env) :: starEach [] env := by intro _; rfl) :
    CE X Z (.Call (.Name f p) [a, b, c] [] pos) (rOp3 gMin3 ta tb tc) := fun ex px => by
  refine pe_imp (pe_callB (call_min3i hc) (show X.env.scope.names.lookup f = _ by rw [A.hs]; exact hf) hm hv (pa_cons (ha ex px) (pa_cons (hb ex px) (pa_cons (hcc ex px) pa_nil (hs3 _)) (hs2 _)) (hs _)) hn hdb (hs _) (by rw [hs2, hs3]; rfl)) ?_
  rintro σ H Q ⟨F, ρ, Q', rs, t, q⟩
  refine ⟨F, ρ, _, rs, t, fun x v F1 H1 q1 e1 o1 => ?_⟩
  refine ⟨F1, ρ, _, rs.grow e1, q1, fun y u F2 H2 q2 e2 o2 => ?_⟩
  refine ⟨F2, ρ, _, rs.grow (e1.trans e2), q2, fun z w F3 H3 q3 e3 o3 => ?_⟩
  unfold gMin3 at q3
  split at q3
  · rename_i i j k hx hy hz
    exact ⟨i, j, k, by rw [o1.int e1.fh hx, o2.int e2.fh hy, o3.int e3.fh hz], q _ _ F3 H3 q3 ((e1.trans e2).trans e3) (Dp.int _)⟩
  · exact q3.elim
/-- list(range(..)) -/
def rLrg2 (ta tb : RE) : RE := fun ex ρ Q => ta ex ρ fun x => tb ex ρ fun y => match x.data, y.data with
  | .int i, .int j => RgOk i j ∧ Q (.ow (.ls (upto (j - i).toNat fun k => .int (i + (k : Nat)))))
  | _, _ => False
def rLrg1 (ta : RE) : RE := fun ex ρ Q => ta ex ρ fun x => match x.data with
  | .int j => RgOk 0 j ∧ Q (.ow (.ls (upto j.toNat fun k => .int (k : Nat))))
  | _ => False
theorem dpa_upto {K : PySem.W.Frag} {H : Hp} (f : Nat → Int) : ∀ xs : List Nat, DpAll K H (xs.map fun k => V.int (f k)) (xs.map fun k => PyData.int (f k))
  | [] => .nil
  | x :: r => .cons (.int _) (dpa_upto f r)
theorem ce_lrg2 {p2 p3 : Pos} (A : Wh X N sc) (hc : X.calm = true) (hg : GlN sc "list") (hm : X.mg "list" = none) (hg2 : GlN sc "range") (hm2 : X.mg "range" = none) (ha : CE X Z a ta) (hb : CE X Z b tb)
    (hs : ∀ env, starEach [a, b] env = (false, eval a env) :: starEach [b] env := by intro _; rfl) (hs2 : ∀ env, starEach [b] env = (false, eval b env) :: starEach [] env := by intro _; rfl)
    (hs3 : ∀ env, starEach [.Call (.Name "range" p2) [a, b] [] p3] env = (false, eval (.Call (.Name "range" p2) [a, b] [] p3) env) :: starEach [] env := by intro _; rfl) :
    CE X Z (.Call (.Name "list" p) [.Call (.Name "range" p2) [a, b] [] p3] [] pos) (rLrg2 ta tb) := fun ex px => by
  refine pe_imp (pe_listRg hc (show X.env.scope.names.lookup _ = _ by rw [A.hs]; exact hg) hm (prg_2 (show X.env.scope.names.lookup _ = _ by rw [A.hs]; exact hg2) hm2 (ha ex px) (hb ex px) (hs _) (hs2 _) (by rw [hs2]; rfl)) (hs3 _)) ?_
  rintro σ H Q ⟨F, ρ, Q', rs, t, q⟩
  refine ⟨F, ρ, _, rs, t, fun x v F1 H1 q1 e1 o1 => ?_⟩
  refine ⟨F1, ρ, _, rs.grow e1, q1, fun y u F2 H2 q2 e2 o2 => ?_⟩
  split at q2
  · rename_i i j hx hy
    exact ⟨i, j, o1.int e1.fh hx, o2.int e2.fh hy, q2.1, fun l hl => q _ _ F2 _ q2.2 ((e1.trans e2).trans (.own e2.fh hl)) ((out_new hl e2.fh (dpa_upto (fun k => i + (k : Nat)) _)).earlier (e1.hh.trans e2.hh))⟩
  · exact q2.elim
theorem ce_lrg1 {p2 p3 : Pos} (A : Wh X N sc) (hc : X.calm = true) (hg : GlN sc "list") (hm : X.mg "list" = none) (hg2 : GlN sc "range") (hm2 : X.mg "range" = none) (ha : CE X Z a ta)
    (hs : ∀ env, starEach [a] env = (false, eval a env) :: starEach [] env := by intro _; rfl)
    (hs3 : ∀ env, starEach [.Call (.Name "range" p2) [a] [] p3] env = (false, eval (.Call (.Name "range" p2) [a] [] p3) env) :: starEach [] env := by intro _; rfl) :
    CE X Z (.Call (.Name "list" p) [.Call (.Name "range" p2) [a] [] p3] [] pos) (rLrg1 ta) := fun ex px => by
  refine pe_imp (pe_listRg hc (show X.env.scope.names.lookup _ = _ by rw [A.hs]; exact hg) hm (prg_1 (show X.env.scope.names.lookup _ = _ by rw [A.hs]; exact hg2) hm2 (ha ex px) (hs _)) (hs3 _)) ?_
  rintro σ H Q ⟨F, ρ, Q', rs, t, q⟩
  refine ⟨F, ρ, _, rs, t, fun x v F1 H1 q1 e1 o1 => ?_⟩
  split at q1
  · rename_i j hx
    refine ⟨j, o1.int e1.fh hx, q1.1, fun l hl => q _ _ F1 _ q1.2 (e1.trans (.own e1.fh hl)) ((out_new hl e1.fh ?_).earlier e1.hh)⟩
    have := dpa_upto (K := X.K) (H := F1) (fun k => (k : Int)) (List.range j.toNat)
    unfold rgV upto
    simpa using this
  · exact q1.elim
/-- x in a list -/
def inP : CmpP := fun x y Q => match y with
  | .list ds => SeqAt.shaped x = true ∧ SeqAt.shaped (.list ds) = true ∧ Q (ds.any fun z => PyData.eqv z x)
  | _ => False
def ninP : CmpP := fun x y Q => inP x y fun k => Q (!k)
theorem cmpg_in : CmpG X (rInD X.K) inP := by
  intro F H0 H x y v u Q' Q s ox oy h q
  unfold inP at h
  split at h
  · rename_i ds hy
    obtain ⟨h1, h2, h3⟩ := h
    exact ⟨x.data, ds, shaped_dp ox s h1, by rw [← hy] at h2 ⊢; exact shaped_dp oy s h2, h1, h2, q _ h3⟩
  · exact h.elim
theorem cmpg_nin : CmpG X (rNotInD X.K) ninP := by
  intro F H0 H x y v u Q' Q s ox oy h q
  unfold ninP inP at h
  split at h
  · rename_i ds hy
    obtain ⟨h1, h2, h3⟩ := h
    exact ⟨x.data, ds, shaped_dp ox s h1, by rw [← hy] at h2 ⊢; exact shaped_dp oy s h2, h1, h2, q _ h3⟩
  · exact h.elim
theorem ce_in (hu : X.A.units + 65 < cLine) (ha : CE X Z a ta) (hb : CE X Z b tb) (hm : behindInMarks .In b = false := by rfl) : CE X Z (.Compare a [.In] [b] pos) (rCmp inP ta tb) := ce_cmp (op_inD hu) cmpg_in hm ha hb
theorem ct_in (hu : X.A.units + 65 < cLine) (ha : CE X Z a ta) (hb : CE X Z b tb) (hm : behindInMarks .In b = false := by rfl) : CT X Z (.Compare a [.In] [b] pos) (rCmpT inP ta tb) := ct_cmp (op_inD hu) cmpg_in hm ha hb
theorem ce_nin (hu : X.A.units + 65 < cLine) (ha : CE X Z a ta) (hb : CE X Z b tb) (hm : behindInMarks .NotIn b = false := by rfl) : CE X Z (.Compare a [.NotIn] [b] pos) (rCmp ninP ta tb) := ce_cmp (op_notInD hu) cmpg_nin hm ha hb
theorem ct_nin (hu : X.A.units + 65 < cLine) (ha : CE X Z a ta) (hb : CE X Z b tb) (hm : behindInMarks .NotIn b = false := by rfl) : CT X Z (.Compare a [.NotIn] [b] pos) (rCmpT ninP ta tb) := ct_cmp (op_notInD hu) cmpg_nin hm ha hb
/-- name = e, the name a cell -/
theorem cs_setC {te : RE} {e : Expr} (A : WhD X N sc) (i : Nat) {x : Str} {p2 : Pos} (hi : N[i]? = some x) (hx : sc.names.lookup x = some .cell) (he : CE X Z e te) (hs : ∀ env : Env, env.scope.names.lookup x = some .cell → swapsWith e (some (.Name x p2)) pos.line env = pure false) : CS X Z (.Assign [.Name x p2] e pos) (rSet i te) := fun ex px => by
  have S := A.sto hi (.inr hx)
  refine ps_imp (ps_set S.nd S.hi S.hx (he ex px) (hs _ (by rw [A.hs]; exact hx)) S.hf) ?_
  rintro D σ H ⟨F, ρ, D', rs, t, hx, n, b, k, r⟩
  subst hx
  refine ⟨F, ρ, _, rs, t, fun x v F' H' q e o => ?_⟩
  obtain ⟨hk, q⟩ := PV.sto_ok q
  exact n F' _ _ H' (rs.store e o hk) q
end
end Pz

namespace Pz
open PySem PySem.Spec PyProof.Rows RT
section
variable {prog : Program} {w : World} {A : Around} {E : Value → Shared → Prop} {s : Shared}
/-- list(reversed(list)) -/
theorem list_init_rev {R : Result → Shared → Prop} {it l : Addr} {items : Array Value} (hh : A.handled = none) (hit : s.heap.IsRevIter it l ((items.size : Int) - 1)) (hl : s.heap.IsList l items) (hne : l ≠ it) (hn : items.size ≤ sizeLine)
    (S : Addr) (hS : s.heap.get? S = some { cls := .type "list", data := .seq #[] }) (hSi : S ≠ it) (hSl : S ≠ l)
    (hR : ∀ h' tk acc' c', (∀ b o, b ≠ S → b ≠ it → s.heap.get? b = some o → h'.get? b = some o) → h'.get? S = some { cls := .type "list", dict := none, data := .seq acc' c', slots := #[] } →
      ItemsOf (fun i v => items[items.size - 1 - i]? = some v) acc' items.size → R (.ok (.ret .none)) { s with heap := h', toks := tk }) :
    wpAny (model prog w) A.in1 (Builtin.«list.__init__» ⟨[.ref S, .ref it], []⟩)
      (fun fin s' => match fin with | .done f => R (.ok f) s' | .again c' => c'.quiet = true ∧ codeAny (model prog w) A c' R s') (fun e s' => R (.error e) s') s := by
  show wpAny _ _ (do let old ← Builtin.List.listItems (.ref S); Builtin.List.listUpdate (.ref S) (fun _ => #[]); letGo old.toList.reverse; Builtin.List.listExtendWith (.ref S) (.ref it) .none) _ _ s
  refine wpAny_bind ?_
  unfold Builtin.List.listItems
  refine wpAny_bind (wpAny_seqItems hS rfl (wpAny_pure ?_))
  show wpAny _ _ (updateSeq S (fun _ => #[]) >>= fun _ => letGo (#[] : Array Value).toList.reverse >>= fun _ => Builtin.List.listExtendWith (.ref S) (.ref it) .none) _ _ s
  refine wpAny_bind (wpAny_updateSeq hS rfl ?_)
  have hS₂ := Heap.get?_update_self (Obj.mapSeq (fun _ => (#[] : Array Value))) hS rfl
  have oth : ∀ b o, b ≠ S → s.heap.get? b = some o → (s.heap.update S (Obj.mapSeq (fun _ => (#[] : Array Value)))).get? b = some o :=
    fun b o hb e => (Heap.get?_update_other _ _ (Ne.symm hb)).trans e
  refine wpAny_bind (wpAny_letGo ?_)
  generalize hHH : s.heap.update S (Obj.mapSeq (fun _ => (#[] : Array Value))) = HH at *
  have hit1 : HH.IsRevIter it l ((items.size : Int) - 1) := hit.at fun o e => oth it o (Ne.symm hSi) e
  have hl1 : HH.IsList l items := by
    obtain ⟨o, ho, hc, n, hd⟩ := hl
    exact ⟨o, oth l o (Ne.symm hSl) ho, hc, n, hd⟩
  have W := (Walks.listRev (prog := prog) (w := w) (A := A.in1) hh it l hne items).toS
  have hSf : S ∉ [it, l] := by simp only [List.mem_cons, List.not_mem_nil, or_false, not_or]; exact ⟨hSi, hSl⟩
  have hT : ({ s with heap := HH } : Shared).TypeIs (.ref it) "list_reverseiterator" := Heap.IsRevIter.typeIs (s := { s with heap := HH }) hit1
  have h1 : Builtin.List.listSameRef (.ref S) (.ref it) = false := by simp [Builtin.List.listSameRef, hSi]
  unfold Builtin.List.listExtendWith
  refine wpAny_bind (wpAny_typeOf hT ?_)
  rw [if_neg (by rw [h1]; decide)]
  refine wpAny_bind (wpAny_pyIter_revIter (s := { s with heap := HH }) hit1 ?_)
  refine wpAny_bind (wpAny_holding ?_)
  unfold Builtin.List.listLengthHint
  refine wpAny_bind (wpAny_specialOf hT nolen_lri ?_)
  show wpAny _ A.in1 (specialOf (Value.ref it) (Str.ofString "__length_hint__") >>= _) _ _ _
  refine wpAny_bind (wpAny_specialOf hT hint_lri ?_)
  generalize hid : ("list_reverseiterator.__length_hint__" : String) = id0
  wp_delta
  rw [show splitId id0 = some ("list_reverseiterator", "__length_hint__") from by subst hid; decide +kernel]
  subst hid
  refine wpAny_bind (wpAny_isInstance (b := true) hT (by rw [isSubtype_type]; kernel_rfl) ?_)
  refine wpAny_pure ?_
  rw [if_neg (by decide)]
  have e0 : ((items.size : Nat) : Int) - 1 - ((0 : Nat) : Int) = (items.size : Int) - 1 := by omega
  refine wpAny_pure ⟨plainId_quiet F.plain_extend_loop _, codeAny_extend_loopS W hn _ hSf _ items.size 0 _ _ _ rfl (Nat.zero_le _) ⟨Nat.zero_le _, by rw [e0]; exact hit1, hl1⟩ hS₂ (ItemsOf.nil _) fun s' acc' c' hm hS' hacc => ?_⟩
  rw [Moved.eq_with hm]
  refine hR s'.heap s'.toks acc' c' (fun b o hb hb2 e => hm.heap b o (fun hmem => ?_) (oth b o hb e)) hS' hacc
  rcases List.mem_cons.mp hmem with e' | hmem
  · exact hb e'
  · exact hb2 (List.mem_singleton.mp hmem)
theorem call_list_rev {it l : Addr} {items : Array Value} {Q : Value → Shared → Prop} (hh : A.handled = none) (hit : s.heap.IsRevIter it l ((items.size : Int) - 1)) (hl : s.heap.IsList l items) (hne : l ≠ it) (hn : items.size ≤ sizeLine)
    (hQ : ∀ h' tk acc' c', (∀ b o, b ≠ it → s.heap.get? b = some o → h'.get? b = some o) →
      h'.get? s.heap.objs.size = some { cls := .type "list", dict := none, data := .seq acc' c', slots := #[] } → ItemsOf (fun i v => items[items.size - 1 - i]? = some v) acc' items.size → Q (.ref s.heap.objs.size) { s with heap := h', toks := tk }) :
    wpAny (model prog w) A (call (.type "list") [.ref it]) Q E s := by
  obtain ⟨oi, hoi, _⟩ := id hit
  obtain ⟨ol, hol, _⟩ := id hl
  refine callType_codes (Q₁ := fun obj s₁ => obj = .ref s.heap.objs.size ∧ s₁ = { s with heap := s.heap.push { cls := .type "list", data := .seq #[] } }) F.called_list (F.typeCall_list_1 _) F.entry_list_init
    (code_list_new _ ⟨rfl, rfl⟩) fun obj s₁ h₁ => ?_
  obtain ⟨rfl, rfl⟩ := h₁
  have hS : (s.heap.push { cls := .type "list", data := .seq #[] }).get? s.heap.objs.size = some { cls := .type "list", data := .seq #[] } := Heap.get?_push_size _ rfl
  refine ⟨⟨_, hS, rfl⟩, F.args_list_init_2 _ _, list_init_rev (A := A.in1) (s := { s with heap := s.heap.push { cls := .type "list", data := .seq #[] } }) hh (hit.at fun o e => Heap.get?_push_of_some _ e) (hl.push _) hne hn _ hS (Nat.ne_of_gt (Heap.lt_size hoi)) (Nat.ne_of_gt (Heap.lt_size hol)) fun h' tk acc' c' hk hS' hacc => ?_⟩
  exact ⟨rfl, hQ h' tk acc' c' (fun b o hb e => hk b o (Nat.ne_of_lt (Heap.lt_size e)) hb (Heap.get?_push_of_some _ e)) hS' hacc⟩
end
end Pz
namespace Pz
open PySem PySem.Spec PyProof.Rows L2 RT
/-- list(reversed(x)), x a list: a new list -/
def tLstRev (K : PySem.W.Frag) (te : TE) : TE := fun σ H Q => te σ H fun v H1 => ∃ (a : Addr) (xs : List V), v = .ref a ∧ SqL K H1 a xs ∧ ∀ q, H1 q = none → Q (.ref q) (upd H1 q (.lst xs.reverse))
theorem pe_lstRev {X : Cx} {e : Expr} {te : TE} {p p2 pos pos2 : Pos} (hc : X.calm = true) (hg : Gl X "list") (hm : X.mg "list" = none) (hg2 : Gl X "reversed") (hm2 : X.mg "reversed" = none) (he : PE X e te)
    (hs : starEach [e] X.env = (false, eval e X.env) :: starEach [] X.env := by rfl)
    (hs2 : starEach [.Call (.Name "reversed" p2) [e] [] pos2] X.env = (false, eval (.Call (.Name "reversed" p2) [e] [] pos2) X.env) :: starEach [] X.env := by rfl) :
    PE X (.Call (.Name "list" p) [.Call (.Name "reversed" p2) [e] [] pos2] [] pos) (tLstRev X.K te) := by
  refine ⟨fun pins s σ H Q I h => ?_⟩
  refine Call_ (ld_blt I hg hm boot_list (PyProof.Rows.callWith_type1 (args_cons (Call_ (ld_blt I hg2 hm2 PyProof.Rows.boot_reversed (PyProof.Rows.callWith_type1 (args_cons (thn (he.run pins s σ H _ I h) fun u s1 ⟨v, H1, I1, r1, q1⟩ => args_nil ?_) hs) hs rfl))) hs2) hs2 rfl))
  obtain ⟨a, xs, ev, hq, q⟩ := q1
  subst ev
  obtain rfl : u = Value.ref a := r1
  obtain ⟨its, rv, p', hz⟩ := I1.list hq
  refine call_reversed_list p'.isList (args_nil ?_)
  have k0 : ∀ b o, s1.heap.get? b = some o → (s1.heap.push (revObj a ((its.toArray.size : Int) - 1))).get? b = some o := fun b o e => Heap.get?_push_of_some _ e
  have I2 : Inv X pins σ H1 { s1 with heap := s1.heap.push (revObj a ((its.toArray.size : Int) - 1)) } := I1.kept (t' := s1.toks) k0
  obtain ⟨f0, f1, f2, f3, f4, f5⟩ := I1.fpOk (H' := H1) (b := s1.heap.objs.size) (Nat.le_refl _) (I1.hok.fresh (Nat.le_refl _))
  have hl := p'.isList
  obtain ⟨ol, hol, _⟩ := id hl
  have hne : a ≠ s1.heap.objs.size := Nat.ne_of_lt (Heap.lt_size hol)
  have hn : its.toArray.size ≤ sizeLine := by rw [List.size_toArray, ← rv.length]; exact hz
  refine call_list_rev (s := { s1 with heap := s1.heap.push (revObj a ((its.toArray.size : Int) - 1)) }) (I1.ok.hd hc) ⟨_, Heap.get?_push_size _ rfl, rfl, rfl⟩ (hl.push _) hne hn fun h' tk acc c' hk hS' hi => ?_
  have hsz : (s1.heap.push (revObj a ((its.toArray.size : Int) - 1))).objs.size = s1.heap.objs.size + 1 := by simp [Heap.push]
  have hle : s1.heap.objs.size ≤ (s1.heap.push (revObj a ((its.toArray.size : Int) - 1))).objs.size := by omega
  refine ⟨.ref (s1.heap.push (revObj a ((its.toArray.size : Int) - 1))).objs.size, upd H1 (s1.heap.push (revObj a ((its.toArray.size : Int) - 1))).objs.size (.lst xs.reverse),
    I1.laid (t' := tk) (fun b o e => hk b o (Nat.ne_of_lt (Heap.lt_size e)) (Heap.get?_push_of_some _ e)) hle
      (show ObjOk X.prog X.w _ _ _ (.lst xs.reverse) from ⟨by rw [List.length_reverse]; exact hz, acc.toList, c', vals_rev rv hi, by rw [Array.toArray_toList]; exact hS'⟩), rfl, q _ (I1.hok.fresh hle)⟩
section
variable {X : Cx} {Z : Zp} {N : List Str} {sc : Scope} {a : Expr} {ta : RE} {p pos : Pos}
def rLrev (ta : RE) : RE := fun ex ρ Q => ta ex ρ fun x => match x.data with
  | .list ds => x.fz = true ∧ Q (.ow (.ls ds.reverse))
  | _ => False
theorem ce_lrev {p2 p3 : Pos} (A : Wh X N sc) (hc : X.calm = true) (hg : GlN sc "list") (hm : X.mg "list" = none) (hg2 : GlN sc "reversed") (hm2 : X.mg "reversed" = none) (ha : CE X Z a ta)
    (hs : ∀ env, starEach [a] env = (false, eval a env) :: starEach [] env := by intro _; rfl)
    (hs3 : ∀ env, starEach [.Call (.Name "reversed" p2) [a] [] p3] env = (false, eval (.Call (.Name "reversed" p2) [a] [] p3) env) :: starEach [] env := by intro _; rfl) :
    CE X Z (.Call (.Name "list" p) [.Call (.Name "reversed" p2) [a] [] p3] [] pos) (rLrev ta) := fun ex px => by
  refine pe_imp (pe_lstRev hc (show X.env.scope.names.lookup _ = _ by rw [A.hs]; exact hg) hm (show X.env.scope.names.lookup _ = _ by rw [A.hs]; exact hg2) hm2 (ha ex px) (hs _) (hs3 _)) ?_
  rintro σ H Q ⟨F, ρ, Q', rs, t, q⟩
  refine ⟨F, ρ, _, rs, t, fun x v F1 H1 q1 e1 o1 => ?_⟩
  split at q1
  · rename_i ds hx
    obtain ⟨p, vs, rfl, hS, a1⟩ := o1.lstF e1.fh hx q1.1
    exact ⟨p, vs, rfl, hS, fun l hl => q _ _ F1 _ q1.2 (e1.trans (.own e1.fh hl)) ((out_new hl e1.fh (dpa_reverse a1)).earlier e1.hh)⟩
  · exact q1.elim
end
end Pz
namespace Pz
open PySem PySem.Spec PyProof.Rows L2
/-! ### xs[lo:hi:st] of a list -/
def picksAt (lo hi st : Option Int) (n : Nat) : List Nat := sliceRange (sliceBounds lo hi st n).1 (sliceBounds lo hi st n).2.1 (sliceBounds lo hi st n).2.2
def pickL {α : Type} (xs : List α) (lo hi st : Option Int) : List α := (picksAt lo hi st xs.length).filterMap (xs[·]?)
theorem slicePick_L (its : List Value) (lo hi st : Option Int) : slicePick its.toArray lo hi st = (pickL its lo hi st).toArray := by
  unfold slicePick pickL picksAt
  simp only [List.size_toArray]
  congr 1
  congr 1
  funext i
  simp
theorem pickL_len {α : Type} (xs : List α) (lo hi st : Option Int) : (pickL xs lo hi st).length ≤ xs.length := by
  have key : ∀ n : Nat, (picksAt lo hi st n).length ≤ n := fun n => by
    unfold picksAt
    refine sliceRange_length_le _ _ _ _ (fun hc => ?_) fun hc => ?_
    · simp only [sliceBounds] at hc ⊢
      simp only [hc, if_true]
      constructor
      · cases lo with
        | none => simp
        | some i => dsimp only; omega
      · cases hi with
        | none => simp
        | some i => dsimp only; omega
    · simp only [sliceBounds] at hc ⊢
      simp only [hc, if_false]
      constructor
      · cases lo with
        | none => simp
        | some i => dsimp only; omega
      · cases hi with
        | none => simp
        | some i => dsimp only; omega
  exact Nat.le_trans (List.length_filterMap_le _ _) (key _)
theorem vals_pick {xs : List V} {us : List Value} (r : Vals xs us) : ∀ is : List Nat, Vals (is.filterMap (xs[·]?)) (is.filterMap (us[·]?))
  | [] => .nil
  | i :: is => by
    have ih := vals_pick r is
    by_cases h : i < xs.length
    · obtain ⟨u, hu, ru⟩ := r.get (List.getElem?_eq_getElem h)
      rw [List.filterMap_cons_some (List.getElem?_eq_getElem h), List.filterMap_cons_some hu]
      exact .cons ru ih
    · have h2 : us[i]? = none := List.getElem?_eq_none (by rw [← r.length]; omega)
      rw [List.filterMap_cons_none (List.getElem?_eq_none (by omega)), List.filterMap_cons_none h2]
      exact ih
theorem dpa_pick {K : PySem.W.Frag} {H : Hp} {vs : List V} {ds : List PyData} (a : DpAll K H vs ds) : ∀ is : List Nat, DpAll K H (is.filterMap (vs[·]?)) (is.filterMap (ds[·]?))
  | [] => .nil
  | i :: is => by
    have ih := dpa_pick a is
    by_cases h : i < ds.length
    · obtain ⟨u, hu, ru⟩ := dpa_get a (List.getElem?_eq_getElem h)
      rw [List.filterMap_cons_some (List.getElem?_eq_getElem h), List.filterMap_cons_some hu]
      exact .cons ru ih
    · have h2 : vs[i]? = none := List.getElem?_eq_none (by rw [dpa_len a]; omega)
      have h3 : ds[i]? = none := List.getElem?_eq_none (by omega)
      rw [List.filterMap_cons_none (f := fun x => vs[x]?) h2, List.filterMap_cons_none (f := fun x => ds[x]?) h3]
      exact ih
def tSl3 (K : PySem.W.Frag) (te : TE) (tl th ts : TO) : TE := fun σ H Q => te σ H fun x H1 => tl σ H1 fun l H2 => th σ H2 fun u H3 => ts σ H3 fun st H4 => st ≠ some 0 ∧ ∃ a xs, x = .ref a ∧ SqL K H4 a xs ∧ ∀ p, H4 p = none → Q (.ref p) (upd H4 p (.lst (pickL xs l u st)))
theorem pe_slice3 {X : Cx} {e st : Expr} {lo hi : Option Expr} {te : TE} {tl th ts : TO} {p2 pos : Pos} (he : PE X e te) (hl : PO X lo tl) (hu : PO X hi th) (hst : PO X (some st) ts) : PE X (.Subscript e (.Slice lo hi (some st) p2) pos) (tSl3 X.K te tl th ts) := by
  refine ⟨fun pins s σ H Q I h => ?_⟩
  refine Subscript_ (thn (he.run pins s σ H _ I h) fun v s1 ⟨x, H1, I1, r1, q1⟩ => ?_)
  refine wpAny_Slice (thn (hl.run pins s1 σ H1 _ I1 q1) fun vl s2 ⟨l, H2, I2, pl, q2⟩ => thn (hu.run pins s2 σ H2 _ I2 q2) fun vu s3 ⟨u, H3, I3, pu, q3⟩ => thn (hst.run pins s3 σ H3 _ I3 q3) fun vs s4 ⟨o, H4, I4, ps, q4⟩ => ?_)
  obtain ⟨ho, a, xs, rfl, hx, q⟩ := q4
  have I5 : Inv X pins σ H4 { s4 with heap := s4.heap.push { cls := .type "slice", data := .fields #[vl, vu, vs] } } := I4.kept (t' := s4.toks) fun b ob q => Heap.get?_push_of_some _ q
  cases r1
  obtain ⟨its, r, ht, hz⟩ := I5.list hx
  show wpAny (model X.prog X.w) X.A (subscriptTail e (.Slice lo hi (some st) p2) (.ref a) (.ref s4.heap.objs.size)) (EP X pins σ Q) X.xe { s4 with heap := s4.heap.push { cls := .type "slice", data := .fields #[vl, vu, vs] } }
  refine tail_any (ops := [.ref a, .ref s4.heap.objs.size]) ht.isList.typeIs slot_list_getitem.lookup ?_ (by with_unfolding_all rfl)
  have hlen := r.length
  refine wpAny_getItem_list_slice ht.isList (Heap.IsSliceOf.new ..) pl pu ps ho ?_ (by rw [List.size_toArray] <;> omega)
  rw [slicePick_L]
  refine ⟨.ref _, _, I5.laid (t' := s4.toks) (o := .lst (pickL xs l u o)) (fun b ob q => Heap.get?_push_of_some _ q) (Nat.le_refl _) ?_, rfl, q _ (I5.hok.fresh (Nat.le_refl _))⟩
  refine ⟨Nat.le_trans (pickL_len xs l u o) hz, _, 0, ?_, Heap.get?_push_size _ rfl⟩
  unfold pickL
  rw [hlen]
  exact vals_pick r _
section
variable {X : Cx} {Z : Zp} {a : Expr} {ta : RE} {pos : Pos}
def gSl3 : PV → Option Int → Option Int → Option Int → (PV → Prop) → Prop := fun x lo hi st Q => match x.data with
  | .list ds => x.fz = true ∧ st ≠ some 0 ∧ Q (.ow (.ls (pickL ds lo hi st)))
  | _ => False
def rSl3 (ta : RE) (tl th ts : RO) : RE := fun ex ρ Q => ta ex ρ fun x => tl ex ρ fun lo => th ex ρ fun hi => ts ex ρ fun st => gSl3 x lo hi st Q
theorem ce_slice3 {st : Expr} {lo hi : Option Expr} {tl th ts : RO} {p2 : Pos} (ha : CE X Z a ta) (hl : CO X Z lo tl) (hh : CO X Z hi th) (hs : CO X Z (some st) ts) : CE X Z (.Subscript a (.Slice lo hi (some st) p2) pos) (rSl3 ta tl th ts) := fun ex px => by
  refine pe_imp (pe_slice3 (ha ex px) (hl ex px) (hh ex px) (hs ex px)) ?_
  rintro σ H Q ⟨F, ρ, Q', rs, t, q⟩
  refine ⟨F, ρ, _, rs, t, fun x v F1 H1 q1 e1 o1 => ?_⟩
  refine ⟨F1, ρ, _, rs.grow e1, q1, fun l F2 H2 q2 e2 => ?_⟩
  refine ⟨F2, ρ, _, rs.grow (e1.trans e2), q2, fun u F3 H3 q3 e3 => ?_⟩
  refine ⟨F3, ρ, _, rs.grow ((e1.trans e2).trans e3), q3, fun st F4 H4 q4 e4 => ?_⟩
  unfold gSl3 at q4
  split at q4
  · rename_i ds hx
    have e24 := (e2.trans e3).trans e4
    obtain ⟨p, vs, rfl, hS, a1⟩ := (o1.keep e24).lstF e4.fh hx q4.1
    refine ⟨q4.2.1, p, vs, rfl, hS, fun n hn => q _ _ F4 _ q4.2.2 ((e1.trans e24).trans (.own e4.fh hn)) ((out_new hn e4.fh ?_).earlier (e1.trans e24).hh)⟩
    unfold pickL
    rw [dpa_len a1]
    exact dpa_pick a1 _
  · exact q4.elim
end
theorem pickL_ints (ns : List Int) (lo hi st : Option Int) : pickL (ns.map PyData.int) lo hi st = (pickL ns lo hi st).map .int := by
  unfold pickL
  rw [List.length_map]
  generalize picksAt lo hi st ns.length = is
  induction is with
  | nil => rfl
  | cons i is ih =>
    by_cases h : i < ns.length
    · rw [List.filterMap_cons_some (b := PyData.int ns[i]) (by simp [h]), List.filterMap_cons_some (List.getElem?_eq_getElem h), List.map_cons, ih]
    · rw [List.filterMap_cons_none (by simp; omega), List.filterMap_cons_none (List.getElem?_eq_none (by omega)), ih]
theorem pickL_mem {α : Type} {xs : List α} {lo hi st : Option Int} {x : α} (h : x ∈ pickL xs lo hi st) : x ∈ xs := by
  unfold pickL at h
  rw [List.mem_filterMap] at h
  obtain ⟨i, _, hi⟩ := h
  exact List.mem_of_getElem? hi
end Pz

namespace Pz
open PySem PySem.Spec PyProof.Rows L2
/-! ### a written dict of ints, asked at once: {..}.get(k, d) -/
abbrev intTrs (kvs : List (Int × Int)) : List (TE × TE) := kvs.map fun kv => (tC (.int kv.1), tC (.int kv.2))
abbrev intKvs (kvs : List (Int × Int)) : List (Key × V) := kvs.map fun kv => (Sum.inl kv.1, V.int kv.2)
theorem tPairs_ints : ∀ (kvs : List (Int × Int)) {σ : L2.St} {H : Hp} {Q : List (V × V) → Hp → Prop}, Q (kvs.map fun kv => (V.int kv.1, V.int kv.2)) H → tPairs (intTrs kvs) σ H Q
  | [], _, _, _, q => q
  | kv :: r, σ, H, Q, q => by
    show tPairs (intTrs r) σ H fun ps H3 => Q ((V.int kv.1, V.int kv.2) :: ps) H3
    exact tPairs_ints r q
theorem own2 {F H : Hp} {p : Addr} {o o' : HO} (s : Same F H) (h : H p = none) : Ext F H F (upd (upd H p o) p o') :=
  ⟨.refl _, fun b x e => by rw [upd_ne (ne_of_none e h), upd_ne (ne_of_none e h)]; exact e, fun b x e => by
    have e' := s b x e
    rw [upd_ne (ne_of_none e' h), upd_ne (ne_of_none e' h)]; exact e', fun a u e n => n⟩
def lkI : List (Int × Int) → Int → Option Int
  | [], _ => none
  | kv :: r, k => if kv.1 = k then some kv.2 else lkI r k
theorem valV_ints (k : Int) : ∀ kvs : List (Int × Int), valV (intKvs kvs) (Sum.inl k) = (lkI kvs k).map V.int
  | [] => rfl
  | kv :: r => by
    unfold lkI
    by_cases h : kv.1 = k
    · rw [if_pos h]
      exact valV_pos (p := (Sum.inl kv.1, V.int kv.2)) (r := intKvs r) (by rw [h])
    · rw [if_neg h, ← valV_ints k r]
      exact valV_neg (p := (Sum.inl kv.1, V.int kv.2)) (r := intKvs r) (fun z => h (Sum.inl.inj z))
def rDLit (lk : Int → Option Int) (te tf : RE) : RE := fun ex ρ Q => te ex ρ fun y => tf ex ρ fun z => match y.data, z.data with
  | .int k, .int d => Q (.im (.int ((lk k).getD d)))
  | _, _ => False
section
variable {X : Cx} {Z : Zp} {keys : List (Option Expr)} {values : List Expr} {e f : Expr} {te tf : RE} {dpos apos cpos : Pos}
theorem ce_dlit (kvs : List (Int × Int)) (hu : X.A.units + 1 < cLine) (h : PPs X dpos keys values (intTrs kvs)) (hall : keys.all (·.isSome) = true) (hl : keys.length = values.length) (h0 : keys ≠ []) (h15 : keys.length ≤ 15) (hn : kvs.length ≤ 15)
    (hm : mergeK [] (intKvs kvs) = intKvs kvs) (he : CE X Z e te) (hf : CE X Z f tf) (hline : (apos.endLine == cpos.line) = true)
    (hbase : ∀ env, attributeBase (.Dict keys values dpos) "get" env (eval (.Dict keys values dpos) env) = eval (.Dict keys values dpos) env := by intro _; rfl)
    (hfew : ∀ env, ((backTo cpos (starEach [e, f] env)).all (fun x => !x.1) && (backToKw cpos (keywordEach [] env)).all (fun x => x.1.isSome)
      && decide ([e, f].length + ([] : List Keyword).length + (if ([] : List Keyword).isEmpty then 0 else 1) < 30)) = true := by intro _; rfl)
    (htr : ∀ env, backTo cpos (starEach [e, f] env) = [(false, eval e env), (false, eval f env)] := by intro _; rfl) :
    CE X Z (.Call (.Attribute (.Dict keys values dpos) "get" apos) [e, f] [] cpos) (rDLit (lkI kvs) te tf) := fun ex px => by
  have hlk : ∀ k : Int, valV (mergeK [] (intKvs kvs)) (Sum.inl k) = (lkI kvs k).map V.int := fun k => by rw [hm]; exact valV_ints k kvs
  generalize lkI kvs = lk at *
  refine pe_imp (pe_dget2 hu (pe_disp h hall hl h0 h15) (he ex px) (hf ex px) ⟨hbase _, hfew _, hline, htr _⟩) ?_
  rintro σ H Q ⟨F, ρ, Q', rs, t, q⟩
  intro p hp
  refine tPairs_ints kvs ⟨upd_same, intKvs kvs, ?_, by simpa using hn, ?_⟩
  · simp only [List.map_map]; rfl
  have e0 := own2 (o := .dK []) (o' := .dK (mergeK [] (intKvs kvs))) rs.ext.fh hp
  refine ⟨p, rfl, .inl ⟨_, .of upd_same⟩, F, ρ, _, rs.grow e0, t, fun y u F1 H1 q1 e1 o1 => ?_⟩
  refine ⟨F1, ρ, _, rs.grow (e0.trans e1), q1, fun z w F2 H2 q2 e2 o2 => ?_⟩
  split at q2
  · rename_i k d hy hz
    have h2 : H2 p = some (.dK (mergeK [] (intKvs kvs))) := e2.hh _ _ (e1.hh _ _ upd_same)
    refine ⟨_, .inl ⟨_, Sum.inl k, .of h2, o1.int e1.fh hy, rfl⟩, ?_⟩
    rw [hlk k, o2.int e2.fh hz]
    have q3 := q _ (.int ((lk k).getD d)) F2 H2 q2 ((e0.trans e1).trans e2) (Dp.int _)
    cases hk : lk k with
    | none => rw [hk] at q3; exact q3
    | some v => rw [hk] at q3; exact q3
  · exact q2.elim
end
theorem rgok {a b : Int} (h0 : -(2 ^ 40) ≤ a) (h1 : a ≤ 2 ^ 40) (h2 : -(2 ^ 40) ≤ b) (h3 : b ≤ 2 ^ 40) (h4 : b - a ≤ 16777216) : RgOk a b := ⟨by omega, by omega, by omega, by omega, by omega⟩
end Pz

namespace Pz
open PySem PySem.Spec PyProof.Rows L2
/-! ### a call without arguments -/
theorem pe_callS0 {CXv : CXT} {X : Cx} {k : Nat} {f : Addr} {fd : FuncData} {ps : List Str} {sp : Sp} {x : Str} {p pos : Pos} {E : L2.St → XK} (F : FnOk X.prog X.w X.K X.mg X.base CXv k f fd ps sp) (hr : Room k X.A) (hg : Gl X x) (hm : X.mg x = some (.ref f)) (hk : PySem.W.keepIn X.K (.ref f) = true) (hb : Binds X.K fd ps []) (hx : ∀ σ, PassesAt CXv X σ (E σ))
    (hdb : (x == ("__debug__" : Str)) = false) : PE X (.Call (.Name x p) [] [] pos) (tCallS sp E tNil) := by
  refine ⟨fun pins s σ H Q I h => ?_⟩
  refine wpAny_Call_Name_kw (ld_glob I hg hm ?_ hdb)
  exact PySem.W.callWith_K0 I.kIn hk (run_fnS (us := []) F hr hb (hx σ) I .nil h)
section
variable {X : Cx} {Z : Zp} {N : List Str} {sc : Scope} {pos p : Pos} {x : Str} {k : Nat} {ps : List Str} {sp : PSp}
theorem ce_call0 (G : FnAt X.prog X.w X.K X.mg X.base Z.cl k x ps sp) (A : Wh X N sc) (hr : Room k X.A) (hg : GlN sc x) (hdb : (x == ("__debug__" : Str)) = false) : CE X Z (.Call (.Name x p) [] [] pos) (rCall sp rNil) := fun ex px => by
  obtain ⟨f, fd, hm, hk, hb, G⟩ := G
  refine pe_imp (pe_callS0 G hr (show X.env.scope.names.lookup x = _ by rw [A.hs]; exact hg) hm hk hb (fun σ => passAt px.tk σ) hdb) ?_
  rintro σ H Q ⟨F, ρ, Q', rs, t, q⟩
  exact ⟨F, [], Q', _, rs.ext.fh, .nil, t, fun y v F' H' qy e2 o2 => q y v F' H' qy e2 o2, fun c H' hc s => ⟨c, F, ρ, rfl, rfl, rs.grow (ext_same rs.ext.fh s), hc⟩⟩
end
/-! ### sorted: of ints, of pairs of ints -/
/-- by the first number, then by the second -/
def leLx (a b : Int × Int) : Prop := a.1 < b.1 ∨ a.1 = b.1 ∧ a.2 ≤ b.2
def prD (q : Int × Int) : PyData := .tuple [.int q.1, .int q.2]
def gSorted : PV → (PV → Prop) → Prop := fun x Q => match x.data with
  | .list ds => (∃ ns : List Int, ds = ns.map .int ∧ ∀ ns' : List Int, ns'.Perm ns → ns'.Pairwise (· ≤ ·) → Q (.ow (.ls (ns'.map .int)))) ∨
      (x.fz = true ∧ ∃ qs : List (Int × Int), ds = qs.map prD ∧ ∀ qs' : List (Int × Int), qs'.Perm qs → qs'.Pairwise leLx → Q (.ow (.ls (qs'.map prD))))
  | _ => False
theorem dpa_keys {K : PySem.W.Frag} {H : Hp} {k : V → Int × Int} : ∀ {vs : List V} {qs : List (Int × Int)}, DpAll K H vs (qs.map prD) → (∀ v ∈ vs, ∀ (t : Addr) (q : Int × Int), v = V.ref t → SqT K H t [.int q.1, .int q.2] → k v = q) → vs.map k = qs
  | [], [], _, _ => rfl
  | [], _ :: _, h, _ => by cases h
  | _ :: _, [], h, _ => by cases h
  | w :: vs, q :: qs, h, hk => by
    rw [List.map_cons] at h
    cases h with
    | cons hd tl =>
      rw [List.map_cons, dpa_keys tl fun v m => hk v (List.mem_cons_of_mem _ m)]
      cases hd with
      | tup hs ha =>
        cases ha with
        | cons h1 t1 =>
          cases t1 with
          | cons h2 t2 =>
            cases t2
            cases h1
            cases h2
            rw [hk _ List.mem_cons_self _ q rfl hs]
theorem dpa_memK {K : PySem.W.Frag} {H : Hp} {k : V → Int × Int} : ∀ {vs : List V}, DpAll K H vs ((vs.map k).map prD) → ∀ v ∈ vs, Dp K H v (prD (k v))
  | [], _, v, m => nomatch m
  | w :: vs, h, v, m => by
    rw [List.map_cons, List.map_cons] at h
    cases h with
    | cons hd tl =>
      rcases List.mem_cons.1 m with rfl | m
      · exact hd
      · exact dpa_memK tl v m
theorem dpa_ofK {K : PySem.W.Frag} {H : Hp} {k : V → Int × Int} : ∀ {vs : List V}, (∀ v ∈ vs, Dp K H v (prD (k v))) → DpAll K H vs ((vs.map k).map prD)
  | [], _ => .nil
  | v :: vs, h => .cons (h v List.mem_cons_self) (dpa_ofK fun w m => h w (List.mem_cons_of_mem _ m))
theorem dp_pair {K : PySem.W.Frag} {H : Hp} {v : V} {q : Int × Int} (h : Dp K H v (prD q)) : ∃ t, v = V.ref t ∧ SqT K H t [.int q.1, .int q.2] := by
  cases h with
  | tup hs ha =>
    cases ha with
    | cons h1 t1 =>
      cases t1 with
      | cons h2 t2 =>
        cases t2
        cases h1
        cases h2
        exact ⟨_, rfl, hs⟩
open Classical in
noncomputable def kOf (K : PySem.W.Frag) (H : Hp) (v : V) : Int × Int := if h : ∃ q : Int × Int, ∃ t, v = V.ref t ∧ SqT K H t [.int q.1, .int q.2] then h.choose else (0, 0)
def rSortedPT (K : PySem.W.Frag) : List V → Hp → VK → Prop := fun vs H Q => ∃ (a : Addr) (xs : List V) (qs : List (Int × Int)), vs = [V.ref a] ∧ SqL K H a xs ∧ DpAll K H xs (qs.map prD) ∧
  ∀ (ys : List V) (qs' : List (Int × Int)) (p : Addr), qs'.Perm qs → qs'.Pairwise leLx → (∀ F, DpAll K F xs (qs.map prD) → DpAll K F ys (qs'.map prD)) → H p = none → Q (.ref p) (upd H p (.lst ys))
theorem srtd_le {k : V → Int × Int} : ∀ {ys : List V}, SrtO.Srtd (L2.ltP k) ys → (ys.map k).Pairwise leLx := fun {ys} h => by
  refine List.pairwise_map.2 (List.Pairwise.imp ?_ h)
  intro x y hxy
  have := SrtO.lexB_no.mp hxy
  unfold leLx
  omega
theorem cr_sortedPT {X : Cx} : CallR X (.builtin "sorted") (rSortedPT X.K) := by
  intro pins s σ H vs us Q I r h
  obtain ⟨a, xs, qs, rfl, hs, ha, q⟩ := h
  obtain ⟨its, rv, hl, hz⟩ := I.list hs
  obtain ⟨u, rfl, ru⟩ := vals1 r
  obtain rfl : u = Value.ref a := ru
  have inj : ∀ v ∈ xs, ∀ (t : Addr) (q : Int × Int), v = V.ref t → SqT X.K H t [.int q.1, .int q.2] → kOf X.K H v = q := fun v _ t q e hq => by
    have hex : ∃ q : Int × Int, ∃ t, v = V.ref t ∧ SqT X.K H t [.int q.1, .int q.2] := ⟨q, t, e, hq⟩
    unfold kOf
    rw [dif_pos hex]
    obtain ⟨t', e', hq'⟩ := hex.choose_spec
    subst e
    cases e'
    have := I.tuple_inj hq' hq
    injection this with h1 h2
    injection h2 with h2 h3
    injection h1 with h1
    injection h2 with h2
    exact Prod.ext h1 h2
  have hk := dpa_keys ha inj
  generalize kOf X.K H = k at *
  have hx : ∀ x ∈ xs, ∃ t, x = V.ref t ∧ SqT X.K H t [.int (k x).1, .int (k x).2] := fun x m => dp_pair (dpa_memK (by rw [hk]; exact ha) x m)
  obtain ⟨e1, e2⟩ := refs_back rv fun x m => by
    obtain ⟨t, e, _⟩ := hx x m
    exact ⟨t, e⟩
  refine SrtO.sorted_pairsO (k := fun u => k (backV u)) hl.isList (by rw [← rv.length]; exact hz) (fun v hv => ?_) fun h' d out h1 h2 kp hd hn => ?_
  · obtain ⟨t, rfl⟩ := e2 v hv
    have hm : V.ref t ∈ xs := by rw [e1]; exact List.mem_map.mpr ⟨_, hv, rfl⟩
    obtain ⟨t', e, ht⟩ := hx _ hm
    cases e
    obtain ⟨its2, r2, ⟨o, ho, hc, n, hd⟩, _⟩ := I.tuple ht
    obtain ⟨u1, u2, rfl, ri, rj⟩ := vals2 r2
    obtain ⟨t1, rfl⟩ := ri
    obtain ⟨t2, rfl⟩ := rj
    exact ⟨t, o, t1, t2, n, rfl, ho, hc, hd⟩
  · have h3 : ∀ u ∈ out, ∃ a, u = Value.ref a := fun u hu => e2 u (h2.perm.mem_iff.mp hu)
    obtain ⟨n, hn⟩ := hn
    have hb : SrtO.Stb (L2.ltP k) (out.map backV) xs := by
      rw [e1]
      exact SrtO.Stb.map (L2.ltP_swo k) backV h2
    refine ⟨.ref d, upd H d (.lst (out.map backV)), I.laid (t' := s.toks) kp hd ⟨?_, out, n, vals_back h3, hn⟩, rfl, ?_⟩
    · rw [hb.len]
      exact hz
    · refine q (out.map backV) ((out.map backV).map k) d (by rw [← hk]; exact hb.perm.map k) (srtd_le (SrtO.srtd_map h1)) (fun F hF => dpa_ofK fun v m => ?_) (I.hok.fresh hd)
      exact dpa_memK (by rw [hk]; exact hF) v (hb.perm.mem_iff.mp m)
def rSortX (K : PySem.W.Frag) : List V → Hp → VK → Prop := fun vs H Q => rSortedI K vs H Q ∨ rSortedPT K vs H Q
theorem cr_sortedX {X : Cx} : CallR X (.builtin "sorted") (rSortX X.K) := by
  intro pins s σ H vs us Q I r h
  rcases h with h | h
  · exact cr_sortedI pins s σ H vs us Q I r h
  · exact cr_sortedPT pins s σ H vs us Q I r h
theorem fn_sorted {X : Cx} : Fn1 X (rSortX X.K) gSorted := by
  intro F H0 H x v Q' Q s o h q
  unfold gSorted at h
  split at h
  · rename_i ds hx
    rcases h with ⟨ns, rfl, h⟩ | ⟨hz, qs, rfl, h⟩
    · obtain ⟨p, vs, rfl, hS, a⟩ := o.lst s hx
      have e := dpa_ints_inv a
      subst e
      exact .inl ⟨p, ns, rfl, hS, fun ns' l hp hw hl => q _ _ F _ (h ns' hp hw) (.own s hl) (out_new hl s (dpa_ints ns'))⟩
    · obtain ⟨p, vs, rfl, hS, a⟩ := o.lstF s hx hz
      exact .inr ⟨p, vs, qs, rfl, hS, dpAll_mono s a, fun ys qs' l hp hw hF hl => q _ _ F _ (h qs' hp hw) (.own s hl) (out_new hl s (hF F a))⟩
  · exact h.elim
end Pz

namespace Pz
open PySem PySem.Spec PyProof.Rows L2
/-! ### dicts with keys ints or texts, in a slot of their own -/
def keyD : PyData → Option Key
  | .int i => some (.inl i)
  | .str s => some (.inr s)
  | _ => none
def keyPD : Key → PyData
  | .inl i => .int i
  | .inr s => .str s
def lkD (kvs : List (Key × PyData)) (k : Key) : Option PyData := (kvs.find? fun kv => decide (kv.1 = k)).map (·.2)
def putD (kvs : List (Key × PyData)) (k : Key) (v : PyData) : List (Key × PyData) :=
  if (kvs.any fun kv => decide (kv.1 = k)) = true then kvs.map (fun kv => if kv.1 = k then (kv.1, v) else kv) else kvs ++ [(k, v)]
section
variable {K : PySem.W.Frag} {F F0 H0 H : Hp} {ρ : Rho} {σ : L2.St}
theorem key_dp {v : V} {d : PyData} {k : Key} (h : Dp K H v d) (e : keyD d = some k) : v = kV k := by
  cases h with
  | int i => cases e; rfl
  | str s => cases e; rfl
  | non => cases e
  | bl b => cases e
  | lst _ _ => cases e
  | tup _ _ => cases e
  | odd _ => cases e
theorem Out.key {x : PV} {v : V} {k : Key} (o : Out K F H0 H v x) (s : Same F H) (e : keyD x.data = some k) : v = kV k := by
  rcases o.dd s with d | ⟨j, d⟩
  · exact key_dp d e
  · rw [d] at e; cases e
theorem dp_key : ∀ k : Key, Dp K H (kV k) (keyPD k)
  | .inl i => .int i
  | .inr s => .str s
theorem dc_cons {kv : List (Key × V)} {kvs : List (Key × PyData)} (h : DcAll K F kv kvs) : (kv = [] ∧ kvs = []) ∨ ∃ k v d kv' kvs', kv = (k, v) :: kv' ∧ kvs = (k, d) :: kvs' ∧ Dp K F v d ∧ DcAll K F kv' kvs' := by
  obtain ⟨h1, h2⟩ := h
  cases kv with
  | nil =>
    cases kvs with
    | nil => exact .inl ⟨rfl, rfl⟩
    | cons _ _ => simp at h1
  | cons a kv =>
    cases kvs with
    | nil => simp at h1
    | cons b kvs =>
      obtain ⟨k, v⟩ := a
      obtain ⟨k', d⟩ := b
      simp only [List.map_cons] at h1 h2
      obtain ⟨e1, e2⟩ := List.cons.inj h1
      cases h2 with
      | cons hd tl =>
        cases e1
        exact .inr ⟨k, v, d, kv, kvs, rfl, rfl, hd, e2, tl⟩
theorem dc_len : ∀ {kv : List (Key × V)} {kvs : List (Key × PyData)}, DcAll K F kv kvs → kv.length = kvs.length := fun {kv kvs} h => by
  have := congrArg List.length h.1
  simpa using this
theorem dc_lk (k : Key) : ∀ {kvs : List (Key × PyData)} {kv : List (Key × V)}, DcAll K F kv kvs → (valV kv k = none ∧ lkD kvs k = none) ∨ ∃ v d, valV kv k = some v ∧ lkD kvs k = some d ∧ Dp K F v d
  | [], kv, h => by
    rcases dc_cons h with ⟨rfl, _⟩ | ⟨_, _, _, _, _, _, z, _⟩
    · exact .inl ⟨rfl, rfl⟩
    · cases z
  | (k', d) :: kvs, kv, h => by
    rcases dc_cons h with ⟨_, z⟩ | ⟨_, v, _, kv', _, rfl, z, hd, tl⟩
    · cases z
    · cases z
      by_cases e : k' = k
      · right
        refine ⟨v, d, valV_pos (p := (k', v)) e, ?_, hd⟩
        unfold lkD
        rw [List.find?_cons_of_pos (by simpa using e)]
        rfl
      · have e1 : valV ((k', v) :: kv') k = valV kv' k := valV_neg (p := (k', v)) e
        have e2 : lkD ((k', d) :: kvs) k = lkD kvs k := by
          unfold lkD
          rw [List.find?_cons_of_neg (by simpa using e)]
        rw [e1, e2]
        exact dc_lk k tl
theorem dc_any (k : Key) : ∀ {kvs : List (Key × PyData)} {kv : List (Key × V)}, DcAll K F kv kvs → (kv.any fun x => decide (x.1 = k)) = (kvs.any fun x => decide (x.1 = k))
  | [], kv, h => by
    rcases dc_cons h with ⟨rfl, _⟩ | ⟨_, _, _, _, _, _, z, _⟩
    · rfl
    · cases z
  | (k', d) :: kvs, kv, h => by
    rcases dc_cons h with ⟨_, z⟩ | ⟨_, v, _, kv', _, rfl, z, hd, tl⟩
    · cases z
    · cases z
      rw [List.any_cons, List.any_cons, dc_any k tl]
theorem dc_map {k : Key} {u : V} {e : PyData} (he : Dp K F u e) : ∀ {kvs : List (Key × PyData)} {kv : List (Key × V)}, DcAll K F kv kvs → DcAll K F (kv.map fun x => if x.1 = k then (x.1, u) else x) (kvs.map fun x => if x.1 = k then (x.1, e) else x)
  | [], kv, h => by
    rcases dc_cons h with ⟨rfl, _⟩ | ⟨_, _, _, _, _, _, z, _⟩
    · exact ⟨rfl, .nil⟩
    · cases z
  | (k', d) :: kvs, kv, h => by
    rcases dc_cons h with ⟨_, z⟩ | ⟨_, v, _, kv', _, rfl, z, hd, tl⟩
    · cases z
    · cases z
      obtain ⟨h1, h2⟩ := dc_map (k := k) he tl
      by_cases e : k' = k
      · refine ⟨?_, ?_⟩
        · simp only [List.map_cons, e, if_true]; rw [h1]
        · simp only [List.map_cons, e, if_true]; exact .cons he h2
      · refine ⟨?_, ?_⟩
        · simp only [List.map_cons, e, if_false]; rw [h1]
        · simp only [List.map_cons, e, if_false]; exact .cons hd h2
theorem dc_put {k : Key} {u : V} {e : PyData} {kv : List (Key × V)} {kvs : List (Key × PyData)} (he : Dp K F u e) (h : DcAll K F kv kvs) : DcAll K F (putK kv k u) (putD kvs k e) := by
  unfold putK putD
  rw [dc_any k h]
  split
  · exact dc_map he h
  · obtain ⟨h1, h2⟩ := h
    refine ⟨by simp [h1], ?_⟩
    rw [List.map_append, List.map_append]
    exact dpa_app h2 (.cons he .nil)
theorem dc_mono {F' : Hp} {kv : List (Key × V)} {kvs : List (Key × PyData)} (s : Same F F') (h : DcAll K F kv kvs) : DcAll K F' kv kvs := ⟨h.1, dpAll_mono s h.2⟩
/-- the dict of a slot: as it stands, and as it may be changed -/
theorem RS.dict {i : Nat} {kvs : List (Key × PyData)} (r : RS K F0 H0 F ρ σ H) (h : ρ[i]? = some (.ow (.dc kvs))) : ∃ p kv, σ[i]? = some (some (.ref p)) ∧ H p = some (.dK kv) ∧ DcAll K F kv kvs ∧ F p = none ∧ H0 p = none ∧
    (∀ kv' kvs', DcAll K F kv' kvs' → RS K F0 H0 F (ρ.set i (.ow (.dc kvs'))) σ (upd H p (.dK kv'))) ∧ ∀ od, RS K F0 H0 F (ρ.set i (.ow (.dl kvs))) σ (upd H p (.frz od (.dK kv))) := by
  obtain ⟨fps, h1, h2, h3⟩ := id r.sl
  have hl : i < σ.length := by rw [← r.len]; exact (List.getElem?_eq_some_iff.mp h).1
  obtain ⟨p, ev, efp, kv, e, a⟩ := h1 i _ _ h (List.getElem?_eq_getElem hl)
  have ep : σ[i]? = some (some (.ref p)) := by rw [List.getElem?_eq_getElem hl, ev]
  obtain ⟨n0, nF, _⟩ := h2 i p (by rw [efp]; simp)
  exact ⟨p, kv, ep, e, a, nF, n0, fun kv' kvs' a' => r.write h ep fun fp w => by
    obtain ⟨rfl, _⟩ := w
    exact ⟨by simp, rfl, kv', upd_same, a'⟩, fun od => r.write h ep fun fp w => by
    obtain ⟨rfl, kv2, e2, a2⟩ := w
    rw [e] at e2
    cases e2
    exact ⟨by simp, rfl, kv, od, upd_same, a2⟩⟩
theorem RS.dictL {i : Nat} {kvs : List (Key × PyData)} (r : RS K F0 H0 F ρ σ H) (h : ρ[i]? = some (.ow (.dl kvs))) : ∃ p kv od, σ[i]? = some (some (.ref p)) ∧ H p = some (.frz od (.dK kv)) ∧ DcAll K F kv kvs := by
  obtain ⟨fps, h1, h2, h3⟩ := id r.sl
  have hl : i < σ.length := by rw [← r.len]; exact (List.getElem?_eq_some_iff.mp h).1
  obtain ⟨p, ev, efp, kv, od, e, a⟩ := h1 i _ _ h (List.getElem?_eq_getElem hl)
  exact ⟨p, kv, od, by rw [List.getElem?_eq_getElem hl, ev], e, a⟩
/-- either way, to be read -/
def dOf (ρ : Rho) (i : Nat) : Option (List (Key × PyData)) := match ρ[i]? with
  | some (.ow (.dc kvs)) => some kvs
  | some (.ow (.dl kvs)) => some kvs
  | _ => none
theorem RS.dictR {i : Nat} {kvs : List (Key × PyData)} (r : RS K F0 H0 F ρ σ H) (h : dOf ρ i = some kvs) : ∃ p kv, σ[i]? = some (some (.ref p)) ∧ Rd H p (.dK kv) ∧ DcAll K F kv kvs := by
  unfold dOf at h
  split at h
  · rename_i k e
    cases h
    obtain ⟨p, kv, h1, h2, h3, _⟩ := r.dict e
    exact ⟨p, kv, h1, .inl h2, h3⟩
  · rename_i k e
    cases h
    obtain ⟨p, kv, od, h1, h2, h3⟩ := r.dictL e
    exact ⟨p, kv, h1, .inr ⟨od, h2⟩, h3⟩
  · cases h
end
def rDNew : RE := fun _ _ Q => Q (.ow (.dc []))
/-- d[k] = e, d the dict of slot i -/
def rDPut (i : Nat) (te ti : RE) : RC := fun D ρ => te D.ex ρ fun x => x.frz fun d => match ρ[i]? with
  | some (.ow (.dc kvs)) => ti D.ex ρ fun y => match keyD y.data with
    | some k => kvs.length < sizeLine ∧ D.nx (ρ.set i (.ow (.dc (putD kvs k d))))
    | _ => False
  | _ => False
/-- d.get(k, e) -/
def rDGet (i : Nat) (ti te : RE) : RE := fun ex ρ Q => match dOf ρ i with
  | some kvs => ti ex ρ fun y => te ex ρ fun z => z.frz fun e => match keyD y.data with
    | some k => Q (.im ((lkD kvs k).getD e))
    | none => False
  | none => False
/-- d[k] -/
def rDIx (i : Nat) (ti : RE) : RE := fun ex ρ Q => match dOf ρ i with
  | some kvs => ti ex ρ fun y => match keyD y.data with
    | some k => ∃ d, lkD kvs k = some d ∧ Q (.im d)
    | none => False
  | none => False
/-- k in d -/
def rDIn (i : Nat) (ti : RE) (c : Bool → Bool) : RE := fun ex ρ Q => match dOf ρ i with
  | some kvs => ti ex ρ fun y => match keyD y.data with
    | some k => Q (.im (.bool (c (lkD kvs k).isSome)))
    | none => False
  | none => False
/-- [.. for k in d ..], d the dict of slot i: it stays locked -/
def rLcD (i : Nat) (tg : Tgt) (tt : RT) (te : RE) (vs : List Nat) : RE := fun ex ρ Q => match ρ[i]? with
  | some (.ow (.dc kvs)) => kvs.length ≤ sizeLine ∧ lcL tg.go tt te (wipeP (ρ.set i (.ow (.dl kvs))) vs) (kvs.map fun kv => keyPD kv.1) [] Q
  | _ => False
section
variable {X : Cx} {Z : Zp} {N : List Str} {sc : Scope} {e f k : Expr} {te ti tf : RE} {pos p2 apos cpos tpos : Pos}
theorem ce_dnew : CE X Z (.Dict [] [] pos) rDNew := fun ex px => by
  refine pe_imp pe_dnewK ?_
  rintro σ H Q ⟨F, ρ, Q', rs, t, q⟩
  intro p hp
  exact q _ _ F _ t (.own rs.ext.fh hp) ⟨p, [p], rfl, ⟨rfl, [], upd_same, rfl, .nil⟩, fun a ha => by
    have ea : a = p := by simpa using ha
    subst ea
    exact ⟨hp, rs.ext.fh.free hp, _, upd_same⟩⟩
theorem cs_dput (hu : X.A.units + 1 < cLine) (A : WhD X N sc) (i : Nat) {x : Str} (hi : N[i]? = some x) (hv : Vis sc x) (hd : (x == ("__debug__" : Str)) = false) (hcd : (x == ("__classdict__" : Str)) = false) (he : CE X Z e te) (hk : CE X Z k ti)
    (hs : ∀ env, swapsWith e (some (.Subscript (.Name x p2) k tpos)) pos.line env = pure false := by intro _; rfl) : CS X Z (.Assign [.Subscript (.Name x p2) k tpos] e pos) (rDPut i te ti) := fun ex px => by
  refine ps_imp (ps_dput hu (pe_var (i := i) (by rw [A.hN]; exact hi) (by rw [A.hs]; exact hv) hd hcd) (hk ex px) (he ex px) (hs _)) ?_
  rintro D σ H ⟨F, ρ, D', rs, t, hx, n, b, kk, r⟩
  subst hx
  refine ⟨F, ρ, _, rs, t, fun x v F1 H1 q1 e1 o1 => ?_⟩
  obtain ⟨d, F2, q2, e2, d2⟩ := o1.frz e1 q1
  have rs2 := rs.grow e2
  split at q2
  · rename_i kvs hρ
    obtain ⟨p0, kv0, ep0, _⟩ := rs2.dict hρ
    refine ⟨.ref p0, ep0, F2, ρ, _, rs2, q2, fun y u F3 H3 q3 e3 o3 => ?_⟩
    split at q3
    · rename_i k hk
      obtain ⟨p, kv, ep, hp, a3, _, _, w, _⟩ := (rs2.grow e3).dict hρ
      rw [ep0] at ep
      cases ep
      exact ⟨p0, _, rfl, .inl ⟨kv, k, hp, o3.key e3.fh hk, by rw [dc_len a3]; exact q3.1, rfl⟩, n F3 _ σ _ (w _ _ (dc_put (dp_mono e3.ff d2) a3)) q3.2⟩
    · exact q3.elim
  · exact q2.elim
theorem ce_dgetv (hu : X.A.units + 1 < cLine) (A : Wh X N sc) (i : Nat) {x : Str} (hi : N[i]? = some x) (hv : Vis sc x) (hd : (x == ("__debug__" : Str)) = false) (hcd : (x == ("__classdict__" : Str)) = false) (hk : CE X Z k ti) (hf : CE X Z f tf) (hline : (apos.endLine == cpos.line) = true)
    (hbase : ∀ env, attributeBase (.Name x p2) "get" env (eval (.Name x p2) env) = eval (.Name x p2) env := by intro _; rfl)
    (hfew : ∀ env, ((backTo cpos (starEach [k, f] env)).all (fun x => !x.1) && (backToKw cpos (keywordEach [] env)).all (fun x => x.1.isSome)
      && decide ([k, f].length + ([] : List Keyword).length + (if ([] : List Keyword).isEmpty then 0 else 1) < 30)) = true := by intro _; rfl)
    (htr : ∀ env, backTo cpos (starEach [k, f] env) = [(false, eval k env), (false, eval f env)] := by intro _; rfl) : CE X Z (.Call (.Attribute (.Name x p2) "get" apos) [k, f] [] cpos) (rDGet i ti tf) := fun ex px => by
  refine pe_imp (pe_dget2 hu (pe_var (i := i) (by rw [A.hN]; exact hi) (by rw [A.hs]; exact hv) hd hcd) (hk ex px) (hf ex px) ⟨hbase _, hfew _, hline, htr _⟩) ?_
  rintro σ H Q ⟨F, ρ, Q', rs, t, q⟩
  unfold rDGet at t
  split at t
  · rename_i kvs hdo
    obtain ⟨p0, kv0, ep0, h0, _⟩ := rs.dictR hdo
    refine ⟨.ref p0, ep0, p0, rfl, .inl ⟨_, h0⟩, F, ρ, _, rs, t, fun y u F1 H1 q1 e1 o1 => ?_⟩
    refine ⟨F1, ρ, _, rs.grow e1, q1, fun z w F2 H2 q2 e2 o2 => ?_⟩
    obtain ⟨d, F3, q3, e3, d3⟩ := o2.frz e2 q2
    split at q3
    · rename_i k hk
      obtain ⟨p, kv, ep, hp, a⟩ := ((rs.grow e1).grow e3).dictR hdo
      rw [ep0] at ep
      cases ep
      refine ⟨_, .inl ⟨kv, k, hp, o1.key e1.fh hk, rfl⟩, ?_⟩
      rcases dc_lk k a with ⟨h1, h2⟩ | ⟨v, d', h1, h2, h3⟩
      · rw [h1]; rw [h2] at q3
        exact q _ w F3 H2 q3 (e1.trans e3) d3
      · rw [h1]; rw [h2] at q3
        exact q _ v F3 H2 q3 (e1.trans e3) h3
    · exact q3.elim
  · exact t.elim
theorem ce_dix (hu : X.A.units + 1 < cLine) (A : Wh X N sc) (i : Nat) {x : Str} (hi : N[i]? = some x) (hv : Vis sc x) (hd : (x == ("__debug__" : Str)) = false) (hcd : (x == ("__classdict__" : Str)) = false) (hk : CE X Z k ti) (hs : NoSl k) : CE X Z (.Subscript (.Name x p2) k pos) (rDIx i ti) := fun ex px => by
  refine pe_imp (pe_dget hu (pe_var (i := i) (by rw [A.hN]; exact hi) (by rw [A.hs]; exact hv) hd hcd) (hk ex px) hs) ?_
  rintro σ H Q ⟨F, ρ, Q', rs, t, q⟩
  unfold rDIx at t
  split at t
  · rename_i kvs hdo
    obtain ⟨p0, kv0, ep0, h0, _⟩ := rs.dictR hdo
    refine ⟨.ref p0, ep0, F, ρ, _, rs, t, fun y u F1 H1 q1 e1 o1 => ?_⟩
    split at q1
    · rename_i k hk
      obtain ⟨d, hlk, q1⟩ := q1
      obtain ⟨p, kv, ep, hp, a⟩ := (rs.grow e1).dictR hdo
      rw [ep0] at ep
      cases ep
      rcases dc_lk k a with ⟨h1, h2⟩ | ⟨v, d', h1, h2, h3⟩
      · rw [h2] at hlk; cases hlk
      · rw [h2] at hlk
        cases hlk
        exact ⟨p0, v, rfl, .inl ⟨kv, k, hp, o1.key e1.fh hk, h1.symm⟩, q _ v F1 H1 q1 e1 h3⟩
    · exact q1.elim
  · exact t.elim
/-- a comprehension over what is known of one walk in this heap alone -/
theorem lcJ_ok {g : Tgt} {tc : RT} {te : RE} {vs : List Nat} {ρ : Rho} {σ : L2.St} {F H : Hp} {Q' : PV → Prop} {Q : VK} (hv : ∀ i ∈ g.slots, i ∈ vs) (rs : RSz X.K Z F ρ σ H) (J : It) (ds : List PyData)
    (ok : ∀ F2 H2, Ext F H F2 H2 → ∀ i : Nat, (i < ds.length → J.go i H2) ∧ (∀ d x H', ds[i]? = some d → J.yld i H2 x H' → ∃ F', Ext F2 H2 F' H' ∧ Dp X.K F' x d) ∧ (ds.length ≤ i → J.stop i H2))
    (hlen : ds.length ≤ sizeLine) (t : lcL g.go tc te (wipeP ρ vs) ds [] Q')
    (q : ∀ acc F' H' D ws, Q' (.ow (.ls acc)) → Ext F H F' H' → H D = none → F' D = none → H' D = some (.lst ws) → DpAll X.K F' ws acc → Q (.ref D) H') :
    tLc (fun _ H R => R J H) (tgV X.K g) (lT X.K Z (tc fun _ _ => False)) (lE X.K Z (te fun _ _ => False)) vs σ H Q := by
  intro D hD
  have e1 : Ext F H F H := .refl rs.ext.fh
  have hFD : F D = none := e1.fh.free hD
  have e2 : Ext F H F (upd H D (.lst [])) := .own e1.fh hD
  refine ⟨fun i m H2 => m = ds.length - i ∧ i ≤ ds.length ∧ ∃ F2 acc ws, Ext F H F2 H2 ∧ F2 D = none ∧ H2 D = some (.lst ws) ∧ DpAll X.K F2 ws acc ∧ acc.length ≤ i ∧ lcR g.go tc te (wipeP ρ vs) (ds.drop i) acc Q',
    ⟨_, rfl, Nat.zero_le _, F, [], [], e2, hFD, upd_same, .nil, Nat.le_refl _, lcL_eq.mp t⟩, ?_⟩
  rintro i m H2 ⟨rfl, hi, F2, acc, ws, e3, nD, hvs, da, hacc, q2⟩
  obtain ⟨o1, o2, o3⟩ := ok F2 H2 e3 i
  by_cases hlt : i < ds.length
  · rw [List.drop_eq_getElem_cons hlt] at q2
    refine .inr ⟨o1 hlt, fun H' => ∃ F' acc ws, Ext F H F' H' ∧ F' D = none ∧ H' D = some (.lst ws) ∧ DpAll X.K F' ws acc ∧ acc.length ≤ i + 1 ∧ lcR g.go tc te (wipeP ρ vs) (ds.drop (i + 1)) acc Q', fun H' z => ⟨ds.length - (i + 1), by omega, rfl, hlt, z⟩, fun x H' hy => ?_⟩
    obtain ⟨F', e', dp⟩ := o2 _ x H' (List.getElem?_eq_getElem hlt) hy
    have e4 := e3.trans e'
    have rw' := (rs.grow e4).wipe vs
    refine tgt_ok rw' dp q2 fun ρ' σ' rs' q' hw => ⟨(hw _ hv).trans wipe_wipe, F', ρ', _, rs', q', fun z F3 H3 q3 e5 => ?_⟩
    have hD3 : ∀ {F H : Hp}, Ext F' H' F H → H D = some (.lst ws) ∧ F D = none := fun e => ⟨e.hh _ _ (e'.hh _ _ hvs), e.nw _ _ (e'.hh _ _ hvs) (e'.nw _ _ hvs nD)⟩
    cases z with
    | true =>
      refine iteT ?_
      refine ⟨F3, ρ', _, rs'.grow e5, q3.1 rfl, fun y v F4 H4 q4 e6 o4 => ?_⟩
      obtain ⟨d, F5, q5, e7, d5⟩ := o4.frz e6 q4
      have e8 := e5.trans e7
      obtain ⟨hv4, hn4⟩ := hD3 e8
      have e9 := e4.trans e8
      have s5 : Same F2 F5 := e'.ff.trans e8.ff
      refine ⟨ws, hv4, ?_, F5, acc ++ [d], ws ++ [v], ⟨e9.ff, same_upd2 e9.hh hD, same_upd2 e9.fh hn4, e9.nw⟩, hn4, upd_same, dpa_app (dpAll_mono s5 da) (.cons d5 .nil), by rw [List.length_append, List.length_singleton]; omega, q5⟩
      rw [dpa_len da]
      omega
    | false =>
      refine iteF ?_
      obtain ⟨hv4, hn4⟩ := hD3 e5
      exact ⟨F3, acc, ws, e4.trans e5, hn4, hv4, dpAll_mono (e'.ff.trans e5.ff) da, by omega, q3.2 rfl⟩
  · rw [List.drop_eq_nil_of_le (by omega)] at q2
    exact .inl ⟨o3 (by omega), q acc F2 H2 D ws q2 e3 hD nD hvs da⟩
/-- out of the lock -/
theorem ext_unlock {F H F' H' : Hp} {p : Addr} {u : HO} {od : Obj} (hp : H p = some u) (hF : F p = none) (e : Ext F (upd H p (.frz od u)) F' H') : H' p = some (.frz od u) ∧ F' p = none ∧ Ext F H F' (upd H' p u) := by
  have h1 : H' p = some (.frz od u) := e.hh _ _ upd_same
  have h2 : F' p = none := e.nw p _ upd_same hF
  refine ⟨h1, h2, e.ff, fun a o ha => ?_, same_upd2 e.fh h2, fun a o ha hn => ?_⟩
  · by_cases hap : a = p
    · subst hap; rw [hp] at ha; cases ha; exact upd_same
    · rw [upd_ne hap]; exact e.hh a o (by rw [upd_ne hap]; exact ha)
  · by_cases hap : a = p
    · subst hap; exact h2
    · exact e.nw a o (by rw [upd_ne hap]; exact ha) hn
theorem itk_ok {K : PySem.W.Frag} {F H : Hp} {p : Addr} {od : Obj} {kv : List (Key × V)} {kvs : List (Key × PyData)} (s : Same F H) (hp : H p = some (.frz od (.dK kv))) (a : DcAll K F kv kvs) :
    ∀ F2 H2, Ext F H F2 H2 → ∀ i : Nat, (i < (kvs.map fun kv => keyPD kv.1).length → (Itk p od kv).go i H2) ∧ (∀ d x H', (kvs.map fun kv => keyPD kv.1)[i]? = some d → (Itk p od kv).yld i H2 x H' → ∃ F', Ext F2 H2 F' H' ∧ Dp K F' x d) ∧ ((kvs.map fun kv => keyPD kv.1).length ≤ i → (Itk p od kv).stop i H2) := by
  intro F2 H2 e i
  have hp2 := e.hh _ _ hp
  have hl := dc_len a
  rw [List.length_map]
  refine ⟨fun h => ⟨hp2, by omega⟩, fun d x H' hd hy => ?_, fun h => ⟨hp2, by omega⟩⟩
  obtain ⟨rfl, k, v, hk, rfl⟩ := hy
  have h1 : (kv.map (·.1))[i]? = some k := by rw [List.getElem?_map, hk]; rfl
  rw [a.1, List.getElem?_map] at h1
  rw [List.getElem?_map] at hd
  cases hq : kvs[i]? with
  | none => rw [hq] at h1; cases h1
  | some q =>
    rw [hq] at h1 hd
    cases h1
    cases hd
    exact ⟨F2, .refl e.fh, dp_key _⟩
theorem ce_lcD {tg elt : Expr} {ifs : List Expr} {scope : Scope} {g : Tgt} {tc : RT} {own : List (Str × Nat)} {spos : Pos} (A : Wh X N sc) (hc : X.calm = true) (i : Nat) {x : Str} (hi : N[i]? = some x) (hvx : Vis sc x) (hd : (x == ("__debug__" : Str)) = false) (hcd : (x == ("__classdict__" : Str)) = false)
    (ok : BlkOk N sc scope own) (hv : ∀ i ∈ g.slots, i ∈ own.map (·.2))
    (hg : ∀ (s : Shared) (H : Hp) (C : Addr) (cl : List (Str × Addr)) (fp : List Addr), CG (X.blk s H scope (compEnvC scope cl C X.env) fp) tg g)
    (ht : ∀ (s : Shared) (H : Hp) (C : Addr) (cl : List (Str × Addr)) (fp : List Addr), CTs (X.blk s H scope (compEnvC scope cl C X.env) fp) Z ifs tc)
    (he : ∀ (s : Shared) (H : Hp) (C : Addr) (cl : List (Str × Addr)) (fp : List Addr), CE (X.blk s H scope (compEnvC scope cl C X.env) fp) Z elt te)
    (hs : ∀ env y, foldedSetIterable (.Name x p2) env y = pure y := by intro _ _; rfl) : CE X Z (.ListComp elt [⟨tg, .Name x p2, ifs, 0⟩] scope pos) (rLcD i g tc te (own.map (·.2))) := fun ex px => by
  refine pe_imp (pe_lock (pe_lc (g := tgV X.K g) (tt := lT X.K Z (tc fun _ _ => False)) (te := lE X.K Z (te fun _ _ => False)) hc (by rw [A.hN]; exact A.nd) (pi_keys (pe_var (i := i) (by rw [A.hN]; exact hi) (by rw [A.hs]; exact hvx) hd hcd)) (by rw [A.hN, A.hs]; exact ok) hg (fun s H C cl fp => ht s H C cl fp _ (px_no rfl)) (fun s H C cl fp => he s H C cl fp _ (px_no rfl)) (hs _))) ?_
  rintro σ H Q ⟨F, ρ, Q', rs, t, q⟩
  unfold rLcD at t
  split at t
  · rename_i kvs hρ
    obtain ⟨p, kv, ep, hp, a, hF, h0, _, wl⟩ := rs.dict hρ
    refine ⟨p, .dK kv, hp, trivial, fun od => ?_⟩
    have rsl := wl od
    have hpl : (upd H p (.frz od (.dK kv))) p = some (.frz od (.dK kv)) := upd_same
    refine ⟨.ref p, ep, p, od, rfl, .inl ⟨kv, hpl, ?_⟩⟩
    have key := lcJ_ok (Q := fun v H' => H' p = some (HO.frz od (HO.dK kv)) ∧ Q v (upd H' p (HO.dK kv))) (Z := Z) (te := te) (tc := tc) hv rsl (Itk p od kv) (kvs.map fun kv => keyPD kv.1) (itk_ok rsl.ext.fh hpl a) (by rw [List.length_map]; exact t.1) t.2 fun acc F' H' D ws q2 e hD hFD hHD da => by
      obtain ⟨u1, u2, u3⟩ := ext_unlock hp hF e
      refine ⟨u1, q _ _ F' _ q2 u3 ⟨D, [D], rfl, ⟨rfl, ws, ?_, da⟩, fun b hb => ?_⟩⟩
      · have hne : D ≠ p := fun z => by subst z; rw [upd_same] at hD; cases hD
        rw [upd_ne hne]; exact hHD
      · have eb : b = D := by simpa using hb
        subst eb
        have hne : b ≠ p := fun z => by subst z; rw [upd_same] at hD; cases hD
        refine ⟨by rw [upd_ne hne] at hD; exact hD, hFD, _, by rw [upd_ne hne]; exact hHD⟩
    exact key
  · exact t.elim
end
end Pz

namespace Pz
open PySem PySem.Spec PyProof.Rows L2
/-! ### a comprehension over an owned list, which stays owned -/
def rLcO (i : Nat) (tg : Tgt) (tt : RT) (te : RE) (vs : List Nat) : RE := fun ex ρ Q => match ρ[i]? with
  | some (.ow (.ls ds)) => ds.length ≤ sizeLine ∧ lcL tg.go tt te (wipeP ρ vs) ds [] Q
  | _ => False
section
variable {X : Cx} {Z : Zp} {N : List Str} {sc : Scope} {te : RE} {pos p2 : Pos}
theorem itl_ok {K : PySem.W.Frag} {F H : Hp} {p : Addr} {vs : List V} {ds : List PyData} (hp : H p = some (.lst vs)) (a : DpAll K F vs ds) :
    ∀ F2 H2, Ext F H F2 H2 → ∀ i : Nat, (i < ds.length → (Itl K p).go i H2) ∧ (∀ d x H', ds[i]? = some d → (Itl K p).yld i H2 x H' → ∃ F', Ext F2 H2 F' H' ∧ Dp K F' x d) ∧ (ds.length ≤ i → (Itl K p).stop i H2) := by
  intro F2 H2 e i
  have hS2 : SqL K H2 p vs := SqL.of (e.hh _ _ hp)
  refine ⟨fun hi => ?_, fun d x H' hd hy => ?_, fun hi => ⟨vs, hS2, by rw [dpa_len a]; exact hi⟩⟩
  · exact ⟨vs, vs[i]'(by rw [dpa_len a]; exact hi), hS2, by simp⟩
  · obtain ⟨rfl, f⟩ := hy
    obtain ⟨w, hw, dw⟩ := dpa_get a hd
    rw [f vs hS2] at hw
    cases hw
    exact ⟨F2, .refl e.fh, dp_mono e.ff dw⟩
theorem ce_lcO {tg elt : Expr} {ifs : List Expr} {scope : Scope} {g : Tgt} {tc : RT} {own : List (Str × Nat)} (A : Wh X N sc) (hc : X.calm = true) (i : Nat) {x : Str} (hi : N[i]? = some x) (hvx : Vis sc x) (hd : (x == ("__debug__" : Str)) = false) (hcd : (x == ("__classdict__" : Str)) = false)
    (ok : BlkOk N sc scope own) (hv : ∀ i ∈ g.slots, i ∈ own.map (·.2))
    (hg : ∀ (s : Shared) (H : Hp) (C : Addr) (cl : List (Str × Addr)) (fp : List Addr), CG (X.blk s H scope (compEnvC scope cl C X.env) fp) tg g)
    (ht : ∀ (s : Shared) (H : Hp) (C : Addr) (cl : List (Str × Addr)) (fp : List Addr), CTs (X.blk s H scope (compEnvC scope cl C X.env) fp) Z ifs tc)
    (he : ∀ (s : Shared) (H : Hp) (C : Addr) (cl : List (Str × Addr)) (fp : List Addr), CE (X.blk s H scope (compEnvC scope cl C X.env) fp) Z elt te)
    (hs : ∀ env y, foldedSetIterable (.Name x p2) env y = pure y := by intro _ _; rfl) : CE X Z (.ListComp elt [⟨tg, .Name x p2, ifs, 0⟩] scope pos) (rLcO i g tc te (own.map (·.2))) := fun ex px => by
  refine pe_imp (pe_lc (g := tgV X.K g) (tt := lT X.K Z (tc fun _ _ => False)) (te := lE X.K Z (te fun _ _ => False)) hc (by rw [A.hN]; exact A.nd) (pi_list (pe_var (i := i) (by rw [A.hN]; exact hi) (by rw [A.hs]; exact hvx) hd hcd)) (by rw [A.hN, A.hs]; exact ok) hg (fun s H C cl fp => ht s H C cl fp _ (px_no rfl)) (fun s H C cl fp => he s H C cl fp _ (px_no rfl)) (hs _)) ?_
  rintro σ H Q ⟨F, ρ, Q', rs, t, q⟩
  unfold rLcO at t
  split at t
  · rename_i ds hρ
    obtain ⟨p, vs0, ep, hp, a, _⟩ := rs.owned hρ
    have key := lcJ_ok (Q := Q) (Z := Z) (te := te) (tc := tc) hv rs (Itl X.K p) ds (itl_ok hp a) t.1 t.2 fun acc F' H' D ws q2 e hD hFD hHD da =>
      q _ _ F' _ q2 e ⟨D, [D], rfl, ⟨rfl, ws, hHD, da⟩, fun b hb => by
        have eb : b = D := by simpa using hb
        subst eb
        exact ⟨hD, hFD, _, hHD⟩⟩
    exact ⟨.ref p, ep, p, rfl, ⟨_, SqL.of hp⟩, key⟩
  · exact t.elim
end
/-! ### tuple(list) -/
def gTupL : PV → (PV → Prop) → Prop := fun x Q => match x.data with
  | .list ds => x.fz = true ∧ Q (.im (.tuple ds))
  | _ => False
section
variable {X : Cx} {Z : Zp} {N : List Str} {sc : Scope} {a : Expr} {ta : RE} {pos p : Pos}
theorem ce_tupOf (A : Wh X N sc) (hg : GlN sc "tuple") (hm : X.mg "tuple" = none) (ha : CE X Z a ta) (hs : ∀ env, starEach [a] env = (false, eval a env) :: starEach [] env := by intro _; rfl) :
    CE X Z (.Call (.Name "tuple" p) [a] [] pos) (rFn1 gTupL ta) := fun ex px => by
  refine pe_imp (pe_tupleOf (show X.env.scope.names.lookup _ = _ by rw [A.hs]; exact hg) hm (ha ex px) (hs _)) ?_
  rintro σ H Q ⟨F, ρ, Q', rs, t, q⟩
  refine ⟨F, ρ, _, rs, t, fun x v F1 H1 q1 e1 o1 => ?_⟩
  unfold gTupL at q1
  split at q1
  · rename_i ds hx
    obtain ⟨p, vs, rfl, h2, h3⟩ := o1.lstF e1.fh hx q1.1
    exact .inl ⟨p, vs, rfl, h2, fun l hl => q _ _ _ _ q1.2 (e1.trans (.new e1.fh hl)) (show Dp X.K _ _ _ from .tup (SqT.of upd_same) (dpAll_mono (same_upd (e1.fh.free hl)) h3))⟩
  · exact q1.elim
end
/-! ### a, b, c = [x, y, z], each new -/
def rOws : List RE → List Nat → XW → Rho → Rho → (Rho → Prop) → Prop
  | te :: tes, i :: is, ex, ρ, ρ', Q => te ex ρ fun x => x.sto fun y => rOws tes is ex ρ (ρ'.set i y) Q
  | [], [], _, _, ρ', Q => Q ρ'
  | _, _, _, _, _, _ => False
def rUnpL (tes : List RE) (is : List Nat) : RC := fun D ρ => rOws tes is D.ex ρ ρ D.nx
def setV (σ : L2.St) : List Nat → List V → L2.St
  | i :: is, v :: vs => setV (σ.set i (some v)) is vs
  | _, _ => σ
inductive COs (X : Cx) (Z : Zp) : List Expr → List RE → Prop
  | nil : COs X Z [] []
  | cons {e : Expr} {es : List Expr} {te : RE} {tes : List RE} : CE X Z e te → COs X Z es tes → (∀ env, starEach (e :: es) env = (false, eval e env) :: starEach es env) → COs X Z (e :: es) (te :: tes)
theorem cos_nil {X : Cx} {Z : Zp} : COs X Z [] [] := .nil
theorem cos_cons {X : Cx} {Z : Zp} {e : Expr} {es : List Expr} {te : RE} {tes : List RE} (h : CE X Z e te) (k : COs X Z es tes) (hs : ∀ env, starEach (e :: es) env = (false, eval e env) :: starEach es env := by intro _; rfl) : COs X Z (e :: es) (te :: tes) := .cons h k hs
def lOs (K : PySem.W.Frag) (Z : Zp) (tes : List RE) (ex : XW) : TA := fun σ H Q => ∃ F ρ ρ' σ' is Q', RSz K Z F ρ σ H ∧ RSz K Z F ρ' σ' H ∧ rOws tes is ex ρ ρ' Q' ∧
  ∀ vs ρ'' F' H', Q' ρ'' → vs.length = is.length → RSz K Z F' ρ'' (setV σ' is vs) H' → Ext F H F' H' → Q vs H'
theorem cos_pa {X : Cx} {Z : Zp} : ∀ {es : List Expr} {tes : List RE}, COs X Z es tes → ∀ ex, PX X Z ex → PA X es (lOs X.K Z tes ex)
  | _, _, .nil, ex, px => by
    refine pa_imp pa_nil ?_
    rintro σ H Q ⟨F, ρ, ρ', σ', is, Q', rs, rs', t, q⟩
    cases is with
    | nil => exact q [] ρ' F H t rfl rs' (.refl rs.ext.fh)
    | cons _ _ => exact t.elim
  | _, _, .cons he hr hs, ex, px => by
    refine pa_imp (pa_cons (he ex px) (cos_pa hr ex px) (hs _)) ?_
    rintro σ H Q ⟨F, ρ, ρ', σ', is, Q', rs, rs', t, q⟩
    cases is with
    | nil => exact t.elim
    | cons i is =>
      refine ⟨F, ρ, _, rs, t, fun x v F1 H1 q1 e1 o1 => ?_⟩
      obtain ⟨k1, q1⟩ := PV.sto_ok q1
      refine ⟨F1, ρ, ρ'.set i x, σ'.set i (some v), is, Q', rs.grow e1, rs'.store e1 o1 k1, q1, fun vs ρ'' F' H' hq hl hrs e => ?_⟩
      exact q (v :: vs) ρ'' F' H' hq (by simp [hl]) hrs (e1.trans e)
theorem setV_ok {H : Hp} {Q : L2.St → Hp → Prop} : ∀ {is : List Nat} {vs : List V} {σ : L2.St}, vs.length = is.length → Q (setV σ is vs) H → tgN is vs σ H Q
  | [], [], σ, _, q => ⟨rfl, q⟩
  | [], _ :: _, _, h, _ => by cases h
  | _ :: _, [], _, h, _ => by cases h
  | i :: is, v :: vs, σ, h, q => ⟨v, vs, rfl, setV_ok (is := is) (vs := vs) (σ := σ.set i (some v)) (by simpa using h) q⟩
theorem rOws_len {ex : XW} {ρ : Rho} {Q : Rho → Prop} : ∀ {tes : List RE} {is : List Nat} {ρ' : Rho}, rOws tes is ex ρ ρ' Q → True := fun _ => trivial
section
variable {X : Cx} {Z : Zp} {N : List Str} {sc : Scope} {pos : Pos}
theorem cs_unpL {es tgs : List Expr} {tes : List RE} {is : List Nat} {kt : Nat} {pt pl : Pos} (A : WhD X N sc) (hc : X.calm = true) (he : COs X Z es tes) (hg : CGs X tgs is) (hn : tgs.length = is.length)
    (hl : tgs.length ≤ 1000 := by decide)
    (hn2 : ∀ env, (assignEach tgs env).length = tgs.length := by intro _; rfl) (hst : ∀ env, (assignEach tgs env).findIdx? (·.1) = none := by intro _; rfl)
    (hs : ∀ env, swapsWithSole [.Tuple tgs kt pt] (.List es pl) pos.line env = pure false := by intro _; rfl) (hw : ∀ env, swappedStores [.Tuple tgs kt pt] (.List es pl) env = pure none := by intro _; rfl) (h1 : ∀ env, (assignEach [.Tuple tgs kt pt] env).map (·.2) = [assign (.Tuple tgs kt pt) env] := by intro _; rfl) :
    CS X Z (.Assign [.Tuple tgs kt pt] (.List es pl) pos) (rUnpL tes is) := fun ex px => by
  refine ps_imp (ps_asg (pe_lst (cos_pa he ex px)) (pg_lst hc hg ((hn2 _).trans hn) (hst _)) (hs _) (hw _) (h1 _)) ?_
  rintro D σ H ⟨F, ρ, D', rs, t, hx, n, b, k, r⟩
  subst hx
  refine ⟨F, ρ, ρ, σ, is, D'.nx, rs, rs, t, fun vs ρ'' F' H' q hvl hrs e => ⟨small_line (by rw [hvl, ← hn]; exact hl), fun p hp => ?_⟩⟩
  have e2 : Ext F' H' F' (upd H' p (.lst vs)) := .own e.fh hp
  exact ⟨p, vs, rfl, SqL.of upd_same, hvl, setV_ok hvl (n F' ρ'' _ _ (hrs.grow e2) q)⟩
/-- s = [x, y][e]; s[k] = v: the list of x, or of y, changes; s is forgotten -/
def rAlias (i j s : Nat) (te tv tk : RE) : RC := fun D ρ => (∃ a b, ρ[i]? = some (.ow (.ls a)) ∧ ρ[j]? = some (.ow (.ls b))) ∧ te D.ex ρ fun x => s < ρ.length ∧ s ≠ i ∧ s ≠ j ∧ ∃ m, ((x.data = .int 0 ∧ m = i) ∨ (x.data = .int 1 ∧ m = j)) ∧
  tv D.ex (ρ.set s .un) fun y => y.frz fun d => match (ρ.set s .un)[m]? with
    | some (.ow (.ls ds)) => tk D.ex (ρ.set s .un) fun z => match z.data with
      | .int k => ∃ q, ixN ds.length k = some q ∧ D.nx ((ρ.set s .un).set m (.ow (.ls (ds.set q d))))
      | _ => False
    | _ => False
theorem css_alias {e v k : Expr} {te tv tk : RE} {tr : RC} {rest : List Stmt} {p1 p2 p3 p4 p5 p6 p7 tpos : Pos} (A : WhD X N sc) (i j s : Nat) {xi xj xs : Str} (hi : N[i]? = some xi) (hj : N[j]? = some xj) (hs : N[s]? = some xs)
    (vi : Vis sc xi) (vj : Vis sc xj) (vs : Vis sc xs) (ls : Loc sc xs) (di : (xi == ("__debug__" : Str)) = false) (ci : (xi == ("__classdict__" : Str)) = false) (dj : (xj == ("__debug__" : Str)) = false) (cj : (xj == ("__classdict__" : Str)) = false) (dS : (xs == ("__debug__" : Str)) = false) (cS : (xs == ("__classdict__" : Str)) = false)
    (he : CE X Z e te) (hv : CE X Z v tv) (hk : CE X Z k tk) (hrest : CSs X Z rest tr)
    (h1 : ∀ env, starEach [.Name xi p1, .Name xj p2] env = (false, eval (.Name xi p1) env) :: starEach [.Name xj p2] env := by intro _; rfl) (h2 : ∀ env, starEach [.Name xj p2] env = (false, eval (.Name xj p2) env) :: starEach [] env := by intro _; rfl)
    (h3 : ∀ o i, subscripted e false o i = operate [o, i] (getItem o i) := by intro _ _; rfl)
    (h4 : ∀ env, swapsWith (.Subscript (.List [.Name xi p1, .Name xj p2] p3) e p4) (some (.Name xs p5)) p6.line env = pure false := by intro _; rfl)
    (ha : ∀ env v, assign (.Subscript (.Name xs p7) k tpos) env v = (do
      let ov ← holding [v] (eval (.Name xs p7) env)
      let iv ← holding [v, ov] (eval k env)
      standAt tpos
      holding [v, ov, iv] (setItem ov iv v)
      release [v, ov, iv] []) := by intro _ _; rfl)
    (h5 : ∀ env, swapsWithSole [.Subscript (.Name xs p7) k tpos] v pos.line env = pure false := by intro _; rfl) (h6 : ∀ env, swappedStores [.Subscript (.Name xs p7) k tpos] v env = pure none := by intro _; rfl) :
    CSs X Z (.Assign [.Name xs p5] (.Subscript (.List [.Name xi p1, .Name xj p2] p3) e p4) p6 :: .Assign [.Subscript (.Name xs p7) k tpos] v pos :: rest) (rSeq (rAlias i j s te tv tk) tr) := fun ex px => by
  have S := A.sto hs ls
  have VV : ∀ {q : Pos} {m : Nat} {x : Str}, N[m]? = some x → Vis sc x → (x == ("__debug__" : Str)) = false → (x == ("__classdict__" : Str)) = false → PE X (.Name x q) (fun σ H Q => ∃ v, σ[m]? = some (some v) ∧ Q v H) := fun hm hv hd hc => pe_var (by rw [A.hN]; exact hm) (by rw [A.hs]; exact hv) hd hc
  refine pss_imp (pss_cons (ps_set S.nd S.hi S.hx (pe_ix ix_seq (pe_lst (pa_cons (VV hi vi di ci) (pa_cons (VV hj vj dj cj) pa_nil (h2 _)) (h1 _))) (he ex px) h3) (h4 _) S.hf)
    (pss_cons (ps_asg (hv ex px) (pg_sub (VV hs vs dS cS) (hk ex px) set_list (ha _)) (h5 _) (h6 _) rfl) (hrest ex px))) ?_
  rintro D σ H ⟨F, ρ, D', rs, t, hx, n, b, k', r⟩
  subst hx
  obtain ⟨⟨a0, b0, ei, ej⟩, t⟩ := t
  obtain ⟨pi, _, epi, _, _, _⟩ := rs.owned ei
  obtain ⟨pj, _, epj, _, _, _⟩ := rs.owned ej
  refine ⟨.ref pi, epi, .ref pj, epj, small_line (by simp), fun l hl => ?_⟩
  have e0 : Ext F H F (upd H l (.lst [.ref pi, .ref pj])) := .own rs.ext.fh hl
  refine ⟨F, ρ, _, rs.grow e0, t, fun x w F1 H1 q1 e1 o1 => ?_⟩
  obtain ⟨hsl, nsi, nsj, m, hm, q1⟩ := q1
  have hS : SqL X.K H1 l [.ref pi, .ref pj] := SqL.of (e1.hh _ _ upd_same)
  obtain ⟨pm, xv, exv, hxm, epm⟩ : ∃ (pm : Addr) (xv : Int), x.data = .int xv ∧ L2.atI [V.ref pi, V.ref pj] xv = some (V.ref pm) ∧ σ[m]? = some (some (.ref pm)) := by
    rcases hm with ⟨h, rfl⟩ | ⟨h, rfl⟩
    · exact ⟨pi, 0, h, rfl, epi⟩
    · exact ⟨pj, 1, h, rfl, epj⟩
  have nsm : s ≠ m := by rcases hm with ⟨_, rfl⟩ | ⟨_, rfl⟩ <;> assumption
  refine .inl ⟨l, _, xv, .ref pm, rfl, o1.int e1.fh exv, hS, hxm, ?_⟩
  have rs1 := ((rs.grow e0).grow e1).forget s (some (.ref pm))
  have hσ : s < σ.length := by rw [← rs.len]; exact hsl
  have es : (σ.set s (some (.ref pm)))[s]? = some (some (.ref pm)) := List.getElem?_set_self hσ
  have em : (σ.set s (some (.ref pm)))[m]? = some (some (.ref pm)) := by rw [List.getElem?_set_ne nsm]; exact epm
  refine ⟨F1, _, _, rs1, q1, fun y u F2 H2 q2 e2 o2 => ?_⟩
  obtain ⟨d, F3, q3, e3, d3⟩ := o2.frz e2 q2
  have rs2 := rs1.grow e3
  refine ⟨.ref pm, es, ?_⟩
  split at q3
  · rename_i ds hρ
    refine ⟨F3, _, _, rs2, q3, fun z u' F4 H4 q4 e4 o4 => ?_⟩
    split at q4
    · rename_i kk hkk
      obtain ⟨q, hq, q4⟩ := q4
      obtain ⟨p, vs, ep, hp, a3, w⟩ := (rs2.grow e4).owned hρ
      rw [em] at ep
      cases ep
      refine ⟨pm, vs, kk, q, rfl, o4.int e4.fh hkk, hp, by rw [dpa_len a3]; exact hq, ?_⟩
      exact ⟨F4, _, D', w _ _ (dpa_set (dp_mono e4.ff d3) q a3), q4, rfl, n, b, k', r⟩
    · exact q4.elim
  · exact q3.elim
end
end Pz

namespace Pz
open PySem PySem.Spec PyProof.Rows L2
/-! ### try with two clauses; len(set(..)) of whole numbers -/
def rTry2 (tb : RC) (h h' : Xn) (R : List Xn) (ts ts' : RC) : RC := fun D ρ => tb { D with ex := fun c ρ' => c ∈ R ∧
  (subX c h = true → ts { D with ex := fun _ _ => False } ρ') ∧ (subX c h = false → (subX c h' = true → ts' { D with ex := fun _ _ => False } ρ') ∧ (subX c h' = false → D.ex c ρ')) } ρ
section
variable {X : Cx} {Z : Zp} {N : List Str} {sc : Scope} {c h h' : Xn} {R : List Xn} {p p2 np np' pos pos' pos'' : Pos}
theorem cs_try2 {body suite suite' : List Stmt} {b₀ b₀' : Stmt} {tb ts ts' : RC} (A : WhD X N sc) (T : ExcT X.K X.mg Z.cl h) (T' : ExcT X.K X.mg Z.cl h') (hg : GlN sc h.nm) (hg' : GlN sc h'.nm) (hdb : (h.nm == ("__debug__" : Str)) = false) (hdb' : (h'.nm == ("__debug__" : Str)) = false)
    (hR : ∀ c ∈ R, PySem.W.subIn X.K (.ref (Z.cl c)) (.ref (Z.cl h)) = some (subX c h)) (hR' : ∀ c ∈ R, PySem.W.subIn X.K (.ref (Z.cl c)) (.ref (Z.cl h')) = some (subX c h'))
    (hb : ∀ (pn : List (Addr × Obj)) (xe : Value → Shared → Prop), CSs (X.tr pn xe) Z body tb)
    (hsu : ∀ (a : Addr) (oe : Obj) (pn : List (Addr × Obj)), CSs (X.suite a ((a, oe) :: pn)) Z (b₀ :: suite) ts) (hsu' : ∀ (a : Addr) (oe : Obj) (pn : List (Addr × Obj)), CSs (X.suite a ((a, oe) :: pn)) Z (b₀' :: suite') ts') :
    CS X Z (.Try body [.ExceptHandler (some (.Name h.nm np)) none (b₀ :: suite) pos', .ExceptHandler (some (.Name h'.nm np')) none (b₀' :: suite') pos''] [] [] pos) (rTry2 tb h h' R ts ts') := fun ex px => by
  refine ps_imp (L2.ps_try_many (tb := lTb X.K Z tb) (l := [(.ref (Z.cl h), fun a cls d => lS X.K Z (fun _ _ => False) ts), (.ref (Z.cl h'), fun a cls d => lS X.K Z (fun _ _ => False) ts')]) A.stk A.frm px.tk (tb_ok hb)
    (.cons ⟨show X.env.scope.names.lookup _ = _ by rw [A.hs]; exact hg, hdb, .inl T.g⟩ (fun a oe cls d pn hz hf => hsu a oe pn _ (px_no rfl))
      (.cons ⟨show X.env.scope.names.lookup _ = _ by rw [A.hs]; exact hg', hdb', .inl T'.g⟩ (fun a oe cls d pn hz hf => hsu' a oe pn _ (px_no rfl)) .nil))) ?_
  rintro D σ H ⟨F, ρ, D', rs, t, hx, n, b, k, r⟩
  subst hx
  refine ⟨_, ?_, F, ρ, _, rs, t, rfl, n, b, k, r⟩
  rintro cls d σ1 H1 ⟨c, F1, ρ1, rfl, rfl, rs1, hc, hc1, hc2⟩
  exact ⟨subX c h, exm_exc T (hR c hc), fun hs a ha => ⟨F1, _, _, rs1, hc1 hs, rfl, n, b, k, r⟩, fun hs => ⟨subX c h', exm_exc T' (hR' c hc), fun hs' a ha => ⟨F1, _, _, rs1, (hc2 hs).1 hs', rfl, n, b, k, r⟩, fun hs' => ⟨c, F1, ρ1, rfl, rfl, rs1, (hc2 hs).2 hs'⟩⟩⟩
/-- how many different ones -/
def dcount (ns : List Int) : Nat := (firstMet (fun i => ns.getD i 0) ns.length).length
def tLenSetG (K : PySem.W.Frag) (ta : TE) : TE := fun σ H Q => ta σ H fun x H1 => ∃ (l : Addr) (ns : List Int), x = .ref l ∧ SqL K H1 l (ns.map V.int) ∧ ns.length ≤ 4000 ∧ Q (.int (dcount ns : Nat)) H1
theorem pe_lenSetG {a : Expr} {ta : TE} {q pos : Pos} (hg : Gl X "len") (hm : X.mg "len" = none) (hg2 : Gl X "set") (hm2 : X.mg "set" = none) (ha : PE X a ta) (hc : X.calm = true)
    (na : starEach [a] X.env = (false, eval a X.env) :: starEach [] X.env) : PE X (.Call (.Name "len" p) [.Call (.Name "set" p2) [a] [] q] [] pos) (tLenSetG X.K ta) := by
  refine ⟨fun pins s σ H Q I h => ?_⟩
  refine Call_ (ld_blt I hg hm boot_len ?_)
  refine PyProof.Rows.callWith_builtin1 (PyProof.Rows.args_cons ?_ rfl) rfl rfl
  refine Call_ (ld_blt I hg2 hm2 boot_set ?_)
  refine PyProof.Rows.callWith_type1 (PyProof.Rows.args_cons (thn (ha.run pins s σ H _ I h) fun v s1 ⟨x, H1, I1, r1, q1⟩ => PyProof.Rows.args_nil ?_) na) na rfl
  obtain ⟨l, ns, rfl, hq, hl, q1⟩ := q1
  cases r1
  obtain ⟨its, r, pl, hz⟩ := I1.list hq
  have hlen : its.toArray.size = ns.length := by rw [List.size_toArray, ← r.length, List.length_map]
  refine call_set_list (I1.ok.hd hc) pl.isList (by simpa using RZ.intsAre_vals r) (by rw [hlen]; unfold scanBound; omega) fun h' tk hS hk => ?_
  refine PyProof.Rows.args_nil ?_
  rw [hlen] at hS
  have hle := firstMet_length_le (fun i => ns.getD i 0) ns.length
  obtain ⟨o, es, ep, t, ho, hex, hd, _, _, _, hf, hn⟩ := hS
  have I2 : Inv X pins σ H1 { s1 with heap := h', toks := tk } := I1.kept fun b o e => hk b o (Heap.lt_size e) e
  exact call_len_set ho hex hd hf (by rw [hn] <;> omega) ⟨.int (dcount ns : Nat), H1, I2.tok _, ⟨_, by rw [hn]; rfl⟩, q1⟩
def rLenSet (te : RE) : RE := fun ex ρ Q => te ex ρ fun x => match x.data with
  | .list ds => ∃ ns : List Int, ds = ns.map .int ∧ ns.length ≤ 4000 ∧ Q (.im (.int (dcount ns)))
  | _ => False
theorem ce_lenSet {a : Expr} {ta : RE} {q pos : Pos} (A : Wh X N sc) (hc : X.calm = true) (hf : GlN sc "len") (hm : X.mg "len" = none) (hf2 : GlN sc "set") (hm2 : X.mg "set" = none) (ha : CE X Z a ta)
    (hs : ∀ env, starEach [a] env = (false, eval a env) :: starEach [] env := by intro _; rfl) : CE X Z (.Call (.Name "len" p) [.Call (.Name "set" p2) [a] [] q] [] pos) (rLenSet ta) := fun ex px => by
  refine pe_imp (pe_lenSetG (show X.env.scope.names.lookup _ = _ by rw [A.hs]; exact hf) hm (show X.env.scope.names.lookup _ = _ by rw [A.hs]; exact hf2) hm2 (ha ex px) hc (hs _)) ?_
  rintro σ H Q ⟨F, ρ, Q', rs, t, qq⟩
  refine ⟨F, ρ, _, rs, t, fun x v F1 H1 q1 e1 o1 => ?_⟩
  split at q1
  · rename_i ds hx
    obtain ⟨ns, rfl, hl, q1⟩ := q1
    obtain ⟨l, vs, rfl, hS, da⟩ := o1.lst e1.fh hx
    have e := dpa_ints_inv da
    subst e
    exact ⟨l, ns, rfl, hS, hl, qq _ _ F1 H1 q1 e1 (Dp.int _)⟩
  · exact q1.elim
/-- x in a tuple of whole numbers -/
def inT : CmpP := fun x y Q => match x, y with
  | .int i, .tuple ds => ∃ ns : List Int, ds = ns.map .int ∧ Q (ns.any (· == i))
  | _, _ => False
theorem inV_ints (i : Int) (ns : List Int) : inV (.int i) (ns.map V.int) = ns.any (· == i) := by
  unfold inV
  rw [List.any_map]
  rfl
theorem flat_intsV (ns : List Int) : (ns.map V.int).all flatV = true := by
  rw [List.all_eq_true]
  intro x m
  obtain ⟨n, _, rfl⟩ := List.mem_map.1 m
  rfl
theorem cmpg_inT : CmpG X (rIn X.K false) inT := by
  intro F H0 H x y v u Q' Q s ox oy h q
  unfold inT at h
  split at h
  · rename_i i ds hx hy
    obtain ⟨ns, rfl, h⟩ := h
    obtain ⟨p, vs, rfl, hS, da⟩ := oy.tup s hy
    have e := dpa_ints_inv da
    subst e
    have e2 := ox.int s hx
    subst e2
    exact ⟨p, _, rfl, .inr hS, rfl, flat_intsV ns, by rw [inV_ints]; exact q _ h⟩
  · exact h.elim
theorem ce_inT {a b : Expr} {ta tb : RE} (ha : CE X Z a ta) (hb : CE X Z b tb) (hm : behindInMarks .In b = false := by rfl) : CE X Z (.Compare a [.In] [b] pos) (rCmp inT ta tb) := ce_cmp op_in_seq cmpg_inT hm ha hb
theorem ct_inT {a b : Expr} {ta tb : RE} (ha : CE X Z a ta) (hb : CE X Z b tb) (hm : behindInMarks .In b = false := by rfl) : CT X Z (.Compare a [.In] [b] pos) (rCmpT inT ta tb) := ct_cmp op_in_seq cmpg_inT hm ha hb
/-- for a in xs: if c: return e; xs an owned list, which stays owned -/
def rForChk (i k : Nat) (tc : RT) (te : RE) : RC := fun D ρ => match ρ[i]? with
  | some (.ow (.ls ds)) => forL (Tgt.nm k).go (rIf tc (rRet te) rSkip) D ds ρ
  | _ => False
theorem cs_forChk {tg c e : Expr} {tc : RT} {te : RE} {p3 p4 : Pos} (A : Wh X N sc) (hc : X.calm = true) (i k : Nat) {x : Str} (hi : N[i]? = some x) (hvx : Vis sc x) (hd : (x == ("__debug__" : Str)) = false) (hcd : (x == ("__classdict__" : Str)) = false) (hk : k ≠ i)
    (hg : CG X tg (.nm k)) (hT : CT X Z c tc) (hR : CE X Z e te) (hs : ∀ env y, foldedSetIterable (.Name x p2) env y = pure y := by intro _ _; rfl) :
    CS X Z (.For tg (.Name x p2) [.If c [.Return (some e) p3] [] p4] [] pos) (rForChk i k tc te) := fun ex px => by
  have hb : PSs X [.If c [.Return (some e) p3] [] p4] (tIfS (lT X.K Z (tc ex)) (tRet (lE X.K Z (te ex))) tNext) := pss_one (ps_if (hT ex px) (pss_one (ps_ret (hR ex px))) pss_nil)
  refine ps_imp (ps_for px.po hc (pi_list (pe_var (i := i) (by rw [A.hN]; exact hi) (by rw [A.hs]; exact hvx) hd hcd)) hg hb (hs _)) ?_
  rintro D σ H ⟨F, ρ, D', rs, t, hx, n, b, kk, r⟩
  subst hx
  unfold rForChk at t
  split at t
  · rename_i ds hρ
    obtain ⟨p, vs0, ep, hp, a, _⟩ := rs.owned hρ
    refine ⟨.ref p, ep, p, rfl, ⟨_, SqL.of hp⟩, ?_⟩
    have q := forL_eq.mp t
    refine ⟨fun j m σ H => m = ds.length - j ∧ j ≤ ds.length ∧ ∃ F ρ, RSz X.K Z F ρ σ H ∧ ρ[i]? = some (.ow (.ls ds)) ∧ σ[i]? = some (some (.ref p)) ∧ forR (Tgt.nm k).go (rIf tc (rRet te) rSkip) D' (ds.drop j) ρ, ⟨_, rfl, Nat.zero_le _, F, ρ, rs, hρ, ep, q⟩, ?_⟩
    rintro j m σ H ⟨rfl, hj, F2, ρ2, rs2, hρ2, ep2, q2⟩
    obtain ⟨p', vs, ep', hp', a', _⟩ := rs2.owned hρ2
    have epp : p' = p := by
      rw [ep2] at ep'
      injection ep' with h1
      injection h1 with h1
      injection h1 with h1
      exact h1.symm
    subst epp
    obtain ⟨o1, o2, o3⟩ := itl_ok hp' a' F2 H (.refl rs2.ext.fh) j
    by_cases hlt : j < ds.length
    · rw [List.drop_eq_getElem_cons hlt] at q2
      refine .inr ⟨o1 hlt, fun σ' H' => ∃ F ρ, RSz X.K Z F ρ σ' H' ∧ ρ[i]? = some (.ow (.ls ds)) ∧ σ'[i]? = some (some (.ref p')) ∧ forR (Tgt.nm k).go (rIf tc (rRet te) rSkip) D' (ds.drop (j + 1)) ρ, fun σ' H' z => ⟨ds.length - (j + 1), by omega, rfl, hlt, z⟩, fun y H' hy => ?_⟩
      obtain ⟨F', e', dp⟩ := o2 _ y H' (List.getElem?_eq_getElem hlt) hy
      have rs3 := (rs2.grow e').setIm (i := k) dp
      refine ⟨F', _, _, rs3, q2, fun z F3 H3 q3 e3 => ?_⟩
      have rs4 := rs3.grow e3
      cases z with
      | true =>
        show if true = true then tRet (lE X.K Z (te D'.ex)) _ _ _ else tNext _ _ _
        rw [if_pos rfl]
        exact ⟨F3, _, _, rs4, q3.1 rfl, fun x v F' H' q e o => r x v F' _ _ H' q (rs4.grow e) (o.earlier rs4.ext.hh)⟩
      | false =>
        show if false = true then tRet (lE X.K Z (te D'.ex)) _ _ _ else tNext _ _ _
        rw [if_neg Bool.false_ne_true]
        exact ⟨F3, _, rs4, by rw [List.getElem?_set_ne hk]; exact hρ2, by rw [List.getElem?_set_ne hk]; exact ep2, q3.2 rfl⟩
    · rw [List.drop_eq_nil_of_le (by omega)] at q2
      exact .inl ⟨o3 (by omega), n F2 ρ2 σ H rs2 q2⟩
  · exact t.elim
/-- a dict display of whole numbers, as a thing of which the kind alone is known -/
def rOdd : RE := fun _ _ Q => Q (.im (.dict [(.none, .none)]))
theorem ce_dodd {keys : List (Option Expr)} {values : List Expr} {dpos : Pos} (kvs : List (Int × Int)) (h : PPs X dpos keys values (intTrs kvs)) (hall : keys.all (·.isSome) = true) (hl : keys.length = values.length) (h0 : keys ≠ []) (h15 : keys.length ≤ 15) (hn : kvs.length ≤ 15) : CE X Z (.Dict keys values dpos) rOdd := fun ex px => by
  refine pe_imp (pe_disp h hall hl h0 h15) ?_
  rintro σ H Q ⟨F, ρ, Q', rs, t, q⟩
  intro p hp
  refine tPairs_ints kvs ⟨upd_same, intKvs kvs, ?_, by simpa using hn, ?_⟩
  · simp only [List.map_map]; rfl
  have hF := rs.ext.fh.free hp
  have e0 : Ext F H (upd F p (.dK (mergeK [] (intKvs kvs)))) (upd (upd H p (.dK [])) p (.dK (mergeK [] (intKvs kvs)))) := by
    obtain ⟨_, hh, _, _⟩ := own2 (o := .dK []) (o' := .dK (mergeK [] (intKvs kvs))) rs.ext.fh hp
    refine ⟨same_upd hF, hh, fun b x e => ?_, fun a u e n => none_upd n (ne_of_none e hp)⟩
    by_cases h : b = p
    · subst h; rw [upd_same] at e ⊢; exact e
    · rw [upd_ne h] at e
      rw [upd_ne h, upd_ne h]
      exact rs.ext.fh b x e
  exact q _ _ _ _ t e0 (Dp.odd upd_same)
/-- is, is not of truths -/
def isBP : CmpP := fun x y Q => match x, y with
  | .bool a, .bool b => Q (decide (a = b))
  | _, _ => False
def isnBP : CmpP := fun x y Q => match x, y with
  | .bool a, .bool b => Q (!decide (a = b))
  | _, _ => False
theorem cmpg_isB : CmpG X rIsB isBP := by
  intro F H0 H x y v u Q' Q s ox oy h q
  unfold isBP at h
  split at h
  · rename_i a b hx hy
    exact ⟨a, b, ox.boo s hx, oy.boo s hy, q _ h⟩
  · exact h.elim
theorem cmpg_isnB : CmpG X rNotB isnBP := by
  intro F H0 H x y v u Q' Q s ox oy h q
  unfold isnBP at h
  split at h
  · rename_i a b hx hy
    exact ⟨a, b, ox.boo s hx, oy.boo s hy, q _ h⟩
  · exact h.elim
section
variable {a b : Expr} {ta tb : RE}
theorem ce_isB (ha : CE X Z a ta) (hb : CE X Z b tb) : CE X Z (.Compare a [.Is] [b] pos) (rCmp isBP ta tb) := ce_cmp op_isBl cmpg_isB (nomark _) ha hb
theorem ce_isnB (ha : CE X Z a ta) (hb : CE X Z b tb) : CE X Z (.Compare a [.IsNot] [b] pos) (rCmp isnBP ta tb) := ce_cmp op_notBl cmpg_isnB (nomark _) ha hb
theorem ct_isB (ha : CE X Z a ta) (hb : CE X Z b tb) : CT X Z (.Compare a [.Is] [b] pos) (rCmpT isBP ta tb) := ct_cmp op_isBl cmpg_isB (nomark _) ha hb
theorem ct_isnB (ha : CE X Z a ta) (hb : CE X Z b tb) : CT X Z (.Compare a [.IsNot] [b] pos) (rCmpT isnBP ta tb) := ct_cmp op_notBl cmpg_isnB (nomark _) ha hb
end
end
end Pz

namespace Pz
open PySem PySem.Spec PyProof.Rows L2
/-! ### texts: methods with one argument -/
def rM1 (g : Str → PV → (PV → Prop) → Prop) (to te : RE) : RE := fun ex ρ Q => to ex ρ fun x => match x.data with
  | .str a => te ex ρ fun y => g a y Q
  | _ => False
def FnM (X : Cx) (r : V → List V → Hp → VK → Prop) (g : Str → PV → (PV → Prop) → Prop) : Prop :=
  ∀ (F H0 H : Hp) (a : Str) (y : PV) (u : V) (Q' : PV → Prop) (Q : VK), Same F H → Out X.K F H0 H u y → g a y Q' → (∀ z w F' H', Q' z → Ext F H F' H' → Out X.K F' H H' w z → Q w H') → r (.str a) [u] H Q
section
variable {X : Cx} {Z : Zp} {o e : Expr} {to te : RE} {r : V → List V → Hp → VK → Prop} {g : Str → PV → (PV → Prop) → Prop}
theorem ce_m1 {id : String} {name : Str} {apos pos : Pos} (slot : Slot "str" name id) (ty : typeOf (.builtin id) = pure (.type "method_descriptor")) (rule : MtR X id r) (hg : FnM X r g) (ho : CE X Z o to) (he : CE X Z e te) (hline : (apos.endLine == pos.line) = true)
    (hs : ∀ env, starEach [e] env = [(false, eval e env)] := by intro _; rfl) (hbase : ∀ env, attributeBase o name env (eval o env) = eval o env := by intro _; rfl) :
    CE X Z (.Call (.Attribute o name apos) [e] [] pos) (rM1 g to te) := fun ex px => by
  refine pe_imp (pe_m1 slot ty rule (ho ex px) (he ex px) (hs _) (hbase _) hline) ?_
  rintro σ H Q ⟨F, ρ, Q', rs, t, q⟩
  refine ⟨F, ρ, _, rs, t, fun x v F1 H1 q1 e1 o1 => ?_⟩
  split at q1
  · rename_i a hx
    have ev := o1.str e1.fh hx
    subst ev
    refine ⟨⟨a, rfl⟩, F1, ρ, _, rs.grow e1, q1, fun y u F2 H2 q2 e2 o2 => ?_⟩
    exact hg F2 H1 H2 a y u Q' Q e2.fh o2 q2 fun z w F' H' qz e3 o3 => q z w F' H' qz ((e1.trans e2).trans e3) (o3.earlier (e1.hh.trans e2.hh))
  · exact q1.elim
def gSplit : Str → PV → (PV → Prop) → Prop := fun a y Q => match y.data with
  | .str b => (b.length == 0) = false ∧ a.length + 2 ≤ sizeLine ∧ Q (.ow (.ls ((Txt.split a b).map .str)))
  | _ => False
theorem dpa_strs {K : PySem.W.Frag} {H : Hp} : ∀ ys : List Str, DpAll K H (ys.map V.str) (ys.map PyData.str)
  | [] => .nil
  | y :: r => .cons (.str y) (dpa_strs r)
theorem dpa_strs_inv {K : PySem.W.Frag} {H : Hp} : ∀ {vs : List V} {ys : List Str}, DpAll K H vs (ys.map PyData.str) → vs = ys.map V.str
  | _, [], h => by cases h; rfl
  | _, n :: r, h => by
    rw [List.map_cons] at h
    cases h with
    | cons h t => cases h; rw [List.map_cons, ← dpa_strs_inv t]
theorem fn_split : FnM X (fun x xs H Q => ∃ a b, x = .str a ∧ xs = [.str b] ∧ (b.length == 0) = false ∧ a.length + 2 ≤ sizeLine ∧ rNewStrs (Txt.split a b) H Q) gSplit := by
  intro F H0 H a y u Q' Q s o h q
  unfold gSplit at h
  split at h
  · rename_i b hy
    exact ⟨a, b, rfl, by rw [o.str s hy], h.1, h.2.1, fun l hl => q _ _ F _ h.2.2 (.own s hl) (out_new hl s (dpa_strs _))⟩
  · exact h.elim
def gStartsW : Str → PV → (PV → Prop) → Prop := fun a y Q => match y.data with
  | .str b => Q (.im (.bool (Txt.startswith a b)))
  | _ => False
theorem fn_startsW : FnM X (fun x xs H Q => ∃ a b, x = .str a ∧ xs = [.str b] ∧ Q (.bl (Txt.startswith a b)) H) gStartsW := by
  intro F H0 H a y u Q' Q s o h q
  unfold gStartsW at h
  split at h
  · rename_i b hy
    exact ⟨a, b, rfl, by rw [o.str s hy], q _ _ F H h (.refl s) (Dp.bl _)⟩
  · exact h.elim
def gFind : Str → PV → (PV → Prop) → Prop := fun a y Q => match y.data with
  | .str b => Q (.im (.int (Txt.find a b)))
  | _ => False
theorem fn_find : FnM X (fun x xs H Q => ∃ a b, x = .str a ∧ xs = [.str b] ∧ Q (.int (Txt.find a b)) H) gFind := by
  intro F H0 H a y u Q' Q s o h q
  unfold gFind at h
  split at h
  · rename_i b hy
    exact ⟨a, b, rfl, by rw [o.str s hy], q _ _ F H h (.refl s) (Dp.int _)⟩
  · exact h.elim
def gJoin : Str → PV → (PV → Prop) → Prop := fun a y Q => match y.data with
  | .list ds => ∃ ys : List Str, ds = ys.map .str ∧ (ys.map (·.length)).sum + ys.length * a.length ≤ 16777216 ∧ Q (.im (.str (Txt.join a ys)))
  | _ => False
theorem fn_join : FnM X (fun x xs H Q => ∃ a p, ∃ ys : List Str, x = .str a ∧ xs = [.ref p] ∧ (SqL X.K H p (ys.map V.str) ∨ SqT X.K H p (ys.map V.str)) ∧
    (ys.map (·.length)).sum + ys.length * a.length ≤ 16777216 ∧ Q (.str (Txt.join a ys)) H) gJoin := by
  intro F H0 H a y u Q' Q s o h q
  unfold gJoin at h
  split at h
  · rename_i ds hy
    obtain ⟨ys, rfl, hz, h⟩ := h
    obtain ⟨p, vs, rfl, hS, da⟩ := o.lst s hy
    have e := dpa_strs_inv da
    subst e
    exact ⟨a, p, ys, rfl, rfl, .inl hS, hz, q _ _ F H h (.refl s) (Dp.str _)⟩
  · exact h.elim
/-! ### int(text), str(number) -/
def gIntS : PV → (PV → Prop) → Prop := fun x Q => match x.data with
  | .str a => ∃ n, PySem.intText? a = some n ∧ a.length ≤ 640 ∧ Q (.im (.int n))
  | _ => False
theorem fn_intS : Fn1 X (fun xs H Q => ∃ a n, xs = [.str a] ∧ PySem.intText? a = some n ∧ a.length ≤ 640 ∧ Q (.int n) H) gIntS := by
  intro F H0 H x v Q' Q s o h q
  unfold gIntS at h
  split at h
  · rename_i a hx
    obtain ⟨n, hn, hl, h⟩ := h
    exact ⟨a, n, by rw [o.str s hx], hn, hl, q _ _ F H h (.refl s) (Dp.int _)⟩
  · exact h.elim
def gStrI : PV → (PV → Prop) → Prop := fun x Q => match x.data with
  | .int i => i.natAbs.log2 < 1920 ∧ Q (.im (.str (toString i)))
  | _ => False
theorem fn_strI : Fn1 X (fun xs H Q => ∃ i, xs = [V.int i] ∧ i.natAbs.log2 < 1920 ∧ Q (.str (toString i)) H) gStrI := by
  intro F H0 H x v Q' Q s o h q
  unfold gStrI at h
  split at h
  · rename_i i hx
    exact ⟨i, by rw [o.int s hx], h.1, q _ _ F H h.2 (.refl s) (Dp.str _)⟩
  · exact h.elim
/-! ### for sign in text -/
def signs (a : Str) : List PyData := a.cps.toList.map fun c => .str ⟨#[c]⟩
theorem itok_str {K : PySem.W.Frag} {F1 : Hp} (a : Str) : ItOk K (Its a) (signs a) F1 := fun F2 H2 s2 h2 i => by
  have hl : (signs a).length = a.cps.size := by simp [signs]
  refine ⟨fun hi => by show i < a.cps.size; omega, fun d x H' hd hy => ?_, fun hi => by show a.cps.size ≤ i; omega⟩
  obtain ⟨rfl, c, hc, rfl⟩ := hy
  refine ⟨F2, .refl h2, ?_⟩
  unfold signs at hd
  rw [List.getElem?_map, Array.getElem?_toList, hc] at hd
  cases hd
  exact .str _
def rItS (te : RE) : RI := fun ex ρ Q => te ex ρ fun x => match x.data with
  | .str a => Q (signs a)
  | _ => False
theorem ci_str {tg a : Expr} {ta : RE} (ha : CE X Z a ta) : CI X Z tg a (rItS ta) := fun ex px => by
  refine pi_imp (pi_str (ha ex px)) ?_
  rintro σ H R ⟨F, ρ, Q', rs, t, q⟩
  refine ⟨F, ρ, _, rs, t, fun x v F1 H1 q1 e1 o1 => ?_⟩
  split at q1
  · rename_i a hx
    have ev := o1.str e1.fh hx
    subst ev
    exact ⟨a, rfl, q _ F1 H1 _ q1 e1 (itok_str a)⟩
  · exact q1.elim
/-! ### sign in text -/
def inSP : CmpP := fun x y Q => match x, y with
  | .str s, .str z => ∃ c, s = ⟨#[c]⟩ ∧ Q (decide (c ∈ z.cps.toList))
  | _, _ => False
def ninSP : CmpP := fun x y Q => match x, y with
  | .str s, .str z => ∃ c, s = ⟨#[c]⟩ ∧ Q (!decide (c ∈ z.cps.toList))
  | _, _ => False
theorem cmpg_inS : CmpG X (fun x y H Q => ∃ (c : Nat) (z : Str), x = .str ⟨#[c]⟩ ∧ y = .str z ∧ Q (.bl (decide (c ∈ z.cps.toList))) H) inSP := by
  intro F H0 H x y v u Q' Q s ox oy h q
  unfold inSP at h
  split at h
  · rename_i a z hx hy
    obtain ⟨c, rfl, h⟩ := h
    exact ⟨c, z, ox.str s hx, oy.str s hy, q _ h⟩
  · exact h.elim
theorem cmpg_ninS : CmpG X (fun x y H Q => ∃ (c : Nat) (z : Str), x = .str ⟨#[c]⟩ ∧ y = .str z ∧ Q (.bl (!decide (c ∈ z.cps.toList))) H) ninSP := by
  intro F H0 H x y v u Q' Q s ox oy h q
  unfold ninSP at h
  split at h
  · rename_i a z hx hy
    obtain ⟨c, rfl, h⟩ := h
    exact ⟨c, z, ox.str s hx, oy.str s hy, q _ h⟩
  · exact h.elim
section
variable {a b : Expr} {ta tb : RE} {pos : Pos}
theorem ct_inS (ha : CE X Z a ta) (hb : CE X Z b tb) (hm : behindInMarks .In b = false := by rfl) : CT X Z (.Compare a [.In] [b] pos) (rCmpT inSP ta tb) := ct_cmp op_in_sign cmpg_inS hm ha hb
theorem ct_ninS (ha : CE X Z a ta) (hb : CE X Z b tb) (hm : behindInMarks .NotIn b = false := by rfl) : CT X Z (.Compare a [.NotIn] [b] pos) (rCmpT ninSP ta tb) := ct_cmp op_notIn_sign cmpg_ninS hm ha hb
end
/-! ### text == text -/
def eqSP : CmpP := fun x y Q => match x, y with
  | .str i, .str j => Q (decide (i = j))
  | _, _ => False
def neSP : CmpP := fun x y Q => match x, y with
  | .str i, .str j => Q (!decide (i = j))
  | _, _ => False
theorem dec_strV {i j : Str} : decide (V.str i = V.str j) = decide (i = j) := decide_eq_decide.2 ⟨fun h => by injection h, fun h => by rw [h]⟩
theorem cmpg_eqS : CmpG X rEq eqSP := by
  intro F H0 H x y v u Q' Q s ox oy h q
  unfold eqSP at h
  split at h
  · rename_i i j hx hy
    rw [ox.str s hx, oy.str s hy]
    exact ⟨rfl, by rw [dec_strV]; exact q _ h⟩
  · exact h.elim
theorem cmpg_neS : CmpG X rNe neSP := by
  intro F H0 H x y v u Q' Q s ox oy h q
  unfold neSP at h
  split at h
  · rename_i i j hx hy
    rw [ox.str s hx, oy.str s hy]
    exact ⟨rfl, by rw [dec_strV]; exact q _ h⟩
  · exact h.elim
section
variable {a b : Expr} {ta tb : RE} {pos : Pos}
theorem ct_eqS (ha : CE X Z a ta) (hb : CE X Z b tb) (hm : behindInMarks .Eq b = false := by rfl) : CT X Z (.Compare a [.Eq] [b] pos) (rCmpT eqSP ta tb) := ct_cmp op_eq cmpg_eqS hm ha hb
theorem ct_neS (ha : CE X Z a ta) (hb : CE X Z b tb) (hm : behindInMarks .NotEq b = false := by rfl) : CT X Z (.Compare a [.NotEq] [b] pos) (rCmpT neSP ta tb) := ct_cmp op_ne cmpg_neS hm ha hb
theorem ce_eqS (ha : CE X Z a ta) (hb : CE X Z b tb) (hm : behindInMarks .Eq b = false := by rfl) : CE X Z (.Compare a [.Eq] [b] pos) (rCmp eqSP ta tb) := ce_cmp op_eq cmpg_eqS hm ha hb
theorem ce_neS (ha : CE X Z a ta) (hb : CE X Z b tb) (hm : behindInMarks .NotEq b = false := by rfl) : CE X Z (.Compare a [.NotEq] [b] pos) (rCmp neSP ta tb) := ce_cmp op_ne cmpg_neS hm ha hb
end
/-! ### slices of texts -/
def rSlX (ta : RE) (tl th : RO) : RE := fun ex ρ Q => ta ex ρ fun x => tl ex ρ fun lo => th ex ρ fun hi => match x.data with
  | .str z => z.length ≤ sizeLine ∧ Q (.im (.str (L2.cutS z lo hi)))
  | _ => False
theorem ce_sliceX {a : Expr} {ta : RE} {pos : Pos} {lo hi : Option Expr} {tl th : RO} {p2 : Pos} (ha : CE X Z a ta) (hl : CO X Z lo tl) (hh : CO X Z hi th) : CE X Z (.Subscript a (.Slice lo hi none p2) pos) (Pz.rSlX ta tl th) := fun ex px => by
  refine pe_imp (pe_slice sl_str (ha ex px) (hl ex px) (hh ex px)) ?_
  rintro σ H Q ⟨F, ρ, Q', rs, t, q⟩
  refine ⟨F, ρ, _, rs, t, fun x v F1 H1 q1 e1 o1 => ?_⟩
  refine ⟨F1, ρ, _, rs.grow e1, q1, fun l F2 H2 q2 e2 => ?_⟩
  refine ⟨F2, ρ, _, rs.grow (e1.trans e2), q2, fun u F3 H3 q3 e3 => ?_⟩
  split at q3
  · rename_i z hx
    have ev := (o1.keep (e2.trans e3)).str e3.fh hx
    subst ev
    exact ⟨z, rfl, q3.1, q _ _ F3 H3 q3.2 ((e1.trans e2).trans e3) (Dp.str _)⟩
  · exact q3.elim
end
end Pz

namespace Pz
open PySem PySem.Spec PyProof.Rows L2
/-! ### a call in a comprehension's element may raise -/
section
variable {X : Cx}
def CXb (X Y : Cx) (E : XK) : Value → Shared → Prop := fun u z => ∃ pn τ K1 y, Inv Y pn τ K1 y ∧ L2.CX X.prog X.w X.stack K1 y E u z
theorem frames_less {h B C : Heap} : ∀ {l : List Env}, h.FunFrames B l → (∀ b, B.get? b = none → C.get? b = none) → h.FunFrames C l := fun {l} hh hn =>
  L2.funFrames_none hh fun b hb => hn b (hh.mem hb).1
/-- what such a raise owes at the block's end -/
theorem raised_out {W : WX} {E : XK} {pn : List (Addr × Obj)} {τ : L2.St} {K3 : Hp} {y3 : Shared} {scope : Scope} {ce : Env} {fp : List Addr} (hst : X.stack = X.env :: X.outer) (hfr : X.env.frame = some X.env.locals)
    (tk : Takes X W) (hW : ∀ c d K', E c d K' → W c d τ K') (J3 : Inv X pn τ K3 y3) (f3 : ∀ b ∈ fp, FpOk X pn K3 b) (cL : ce.locals = y3.heap.objs.size) (cF : ce.frame = X.env.frame) {u : Value} {z : Shared}
    (hx : CXb X (X.blk y3 K3 scope ce fp) E u z) : notedBy (model X.prog X.w) X.A ce (CompFails (model X.prog X.w) X.A X.xe ce) u z := by
  obtain ⟨pb, τb, K1, y1, J1, hx⟩ := hx
  obtain ⟨a, B, K2, cls, d, eu, fl, hokB, ub, na, os2, bare2, hE⟩ := hx
  subst eu
  -- the block's own dict
  obtain ⟨m1, ⟨oC, es, ep, hoC, hrC⟩, _⟩ := id J1.loc
  have hoC : y1.heap.get? ce.locals = some oC := hoC
  have nC1 : K1 ce.locals = none := J1.free
  have low : ∀ b o, y3.heap.get? b = some o → b ≠ ce.locals := fun b o hb e => by
    have := Heap.lt_size hb
    rw [e, cL] at this
    exact Nat.lt_irrefl _ this
  have nCf : ce.locals ∉ frs X.stack := fun hb => by
    obtain ⟨_, o, ho, _⟩ := J1.ok.funs.mem hb
    exact low _ o ho rfl
  have BC : B.get? ce.locals = some oC := ub.keep _ _ hoC nC1 nCf
  have nC2 : K2 ce.locals = none := ub.free _ _ hoC nC1
  obtain ⟨B0, hB0⟩ : ∃ B0 : Heap, B0 = PySem.W.hideAll B [ce.locals] := ⟨_, rfl⟩
  have B0in : ∀ b o, B0.get? b = some o → B.get? b = some o := fun b o hb => PySem.W.of_hideAll [ce.locals] (hB0 ▸ hb)
  have B0C : B0.get? ce.locals = none := by rw [hB0]; exact PySem.W.hideAll_none [ce.locals] (List.mem_singleton.2 rfl)
  have B0of : ∀ b o, B.get? b = some o → b ≠ ce.locals → B0.get? b = some o := fun b o hb hn => by
    rw [hB0]; exact PySem.W.hideAll_get [ce.locals] hb (fun hm => hn (List.mem_singleton.1 hm))
  have B0no : ∀ b, B.get? b = none → B0.get? b = none := fun b hb => by
    cases q : B0.get? b with
    | none => rfl
    | some o => rw [B0in b o q] at hb; cases hb
  obtain ⟨stB, noB, ffB, oe, vs, T, oT, ts, g1, g2, g3, g4, g5, g6, g7, g8, g9⟩ := fl
  have fl0 : HandSPX.FlyingZ B0 (X.env :: X.outer) a (Zc cls d) z.heap := by
    rw [← hst]
    exact ⟨fun b o hb => stB b o (B0in b o hb), B0no _ noB, frames_less ffB B0no, oe, vs, T, oT, ts, g1, g2, g3, g4, B0no _ g5, g6, g7, g8, g9⟩
  have hfrs : X.A.frames = some (X.env :: X.outer) := by rw [J3.ok.frames, hst]
  show wpAny (model X.prog X.w) X.A (noteFrame (.ref a) ce) _ _ z
  rw [noteFrame_env _ cF]
  refine HandSPX.looks_onZ Zc.steady hfrs hfr fl0 fun h1 hh1 k1 => ?_
  obtain ⟨st1, no1, ff1, oe1, vs1, T1, oT1, ts1, r1, r2, r3, r4, r5, r6, r7, r8, r9⟩ := hh1
  -- the dict stands where it stood
  obtain ⟨sl1, h1C⟩ : ∃ sl, h1.get? ce.locals = some { oC with slots := sl } := k1 _ _ (stB _ _ BC) (fun vs0 q => by have := hrC.1; rw [q] at this; cases this)
  refine ⟨m1, ⟨_, es, ep, h1C, hrC⟩, fun h2 m2 hn2 sb2 => ?_⟩
  have noF : ∀ b o vv, h1.get? b = some o → o.data = .fields vv → b ≠ ce.locals := fun b o vv hb hd e => by
    rw [e, h1C] at hb
    have e1 := Option.some.inj hb
    have e2 : oC.data = .fields vv := by rw [← hd, ← e1]
    have := hrC.1
    rw [e2] at this; cases this
  have ca : a ≠ ce.locals := noF _ _ _ r1 r3
  have cT : T1 ≠ ce.locals := noF _ _ _ r7 r8
  have hh2 : HandSPX.HeldZ B0 (X.env :: X.outer) a (Zc cls d) X.env.locals h2 :=
    ⟨fun b o hb => (sb2.2 b fun e => by rw [e, B0C] at hb; cases hb).trans (st1 b o hb), no1, Heap.FunFrames.sameBut sb2 hn2 ff1, oe1, vs1, T1, oT1, ts1, (sb2.2 _ ca).trans r1, r2, r3, r4, r5, r6, (sb2.2 _ cT).trans r7, r8, r9⟩
  unfold PySem.passOn
  refine wpAny_bind (wpAny_field ((sb2.2 _ ca).trans r1) r3 r4 ?_)
  rw [if_neg (show ¬ ((Value.ref T1 == Value.none) = true) from by simp), cF, hfr]
  refine wpAny_bind (HandSPX.setFlight_onZ (s := { z with heap := h2 }) hh2 fun h3 hh3 k3 => ?_)
  refine wpAny_throw (tk _ _ ?_)
  obtain ⟨G, e1, e2⟩ := L2.restrict h3 fun b => (B0.get? b).isSome || decide (b ∈ frs X.stack)
  have Gin : ∀ b o, G.get? b = some o → h3.get? b = some o ∧ ((B0.get? b).isSome = true ∨ b ∈ frs X.stack) := fun b o hb => by
    cases q : ((B0.get? b).isSome || decide (b ∈ frs X.stack)) with
    | false => rw [e2 b q] at hb; cases hb
    | true => rw [e1 b q] at hb; exact ⟨hb, by simpa [Bool.or_eq_true] using q⟩
  have GB : ∀ b o, B0.get? b = some o → G.get? b = some o := fun b o hb => by
    rw [e1 b (by simp [hb])]
    exact hh3.1 b o hb
  have GF : ∀ b, b ∈ frs X.stack → G.get? b = h3.get? b := fun b hb => e1 b (by simp [hb])
  have hok2 : HOk X.prog X.w K2 G := fun b o q => (hokB b o q).stay (fun c v hc r => GB c v (B0of c v r fun hm => by
    rcases hc with hc | hc
    · rw [← hc, hm, nC2] at q; cases q
    · rw [hm, nC2] at hc; cases hc)) (fun _ r => r) fun _ _ r => r
  have slots : ∀ b o, y3.heap.get? b = some o → b ∈ frs X.stack → b ∉ fp → ∃ sl, G.get? b = some { o with slots := sl } := fun b o hb hm hp => by
    obtain ⟨_, o0, q0, hnf⟩ := J1.ok.funs.mem hm
    have q0 : y3.heap.get? b = some o0 := q0
    rw [hb] at q0; cases q0
    obtain ⟨s1, q1⟩ := J1.base.slot b o hb (J1.ok.frf b hm) hm hp
    obtain ⟨s2, q2⟩ := ub.slot b _ q1 hm
    obtain ⟨s3, q3⟩ := k1 b _ q2 hnf
    have q4 := (sb2.2 b (low b o hb)).trans q3
    obtain ⟨s4, q5⟩ := k3 b _ q4 hnf
    exact ⟨s4, by rw [GF b hm]; exact q5⟩
  have JJ : Inv X pn τ K2 { z with heap := G } := by
    refine J3.call' (ch := fp) (os2.trans J1.os) ⟨fun b o hb hn hm hp => ?_, fun b o hb hn hm hp => slots b o hb hm hp, fun b o hb hn hp => ?_, fun b o hb hp => ?_, fun b xs q => ub.tups _ _ (J1.base.tups _ _ q), fun b o q r => ub.frzs _ _ _ (J1.base.frzs _ _ _ r), fun b ps q => ?_⟩ hok2 bare2 fun b hb => ⟨(f3 b hb).2.2.2.1, (f3 b hb).2.1, (f3 b hb).2.2.2.2.1, (f3 b hb).2.2.2.2.2⟩
    · exact GB b o (B0of b o (ub.keep b o (J1.base.keep b o hb hn hm hp) (J1.base.free b o hb hn hp) hm) (low b o hb))
    · obtain ⟨o', q⟩ := J1.base.there b o hb hp
      exact ub.free b o' q (J1.base.free b o hb hn hp)
    · by_cases hm : b ∈ frs X.stack
      · obtain ⟨sl, q⟩ := slots b o hb hm hp
        exact ⟨_, q⟩
      · obtain ⟨o', q⟩ := J1.base.there b o hb hp
        obtain ⟨o2, q2⟩ := ub.there b o' q hm
        exact ⟨o2, GB b o2 (B0of b o2 q2 (low b o hb))⟩
    · obtain ⟨more, q1⟩ := J1.base.tbls b ps q
      obtain ⟨more2, q2⟩ := ub.tbls b _ q1
      exact ⟨more ++ more2, by rw [q2, Array.append_assoc]⟩
  refine ⟨a, B0, { z with heap := G }, pn, τ, K2, cls, d, rfl, JJ, fun b o hb hm => ?_, Heap.UpToSlots.of_keeps fun b o hb => (Gin b o hb).1, .inr (.inr (by rw [hst]; exact hh3)), na, rfl, bare2, hW _ _ _ hE⟩
  obtain ⟨q1, q2⟩ := Gin b o hb
  rcases q2 with q2 | q2
  · obtain ⟨o', q3⟩ := Option.isSome_iff_exists.mp q2
    have q4 := hh3.1 b o' q3
    rw [q1] at q4; cases q4
    exact q3
  · exact absurd q2 hm
/-- [elt for target in iter]: the element may raise by E -/
def tLcX (wi : TI) (g : TG) (te : TE) (vs : List Nat) : TE := fun σ H Q => wi σ H fun J H1 => ∀ D, H1 D = none → ∃ P : Nat → Nat → Hp → Prop, (∃ m, P 0 m (upd H1 D (.lst []))) ∧ ∀ i m H, P i m H →
  (J.stop i H ∧ Q (.ref D) H) ∨ (J.go i H ∧ ∃ N : Hp → Prop, (∀ H', N H' → ∃ m', m' < m ∧ P (i + 1) m' H') ∧ ∀ x H', J.yld i H x H' → g x (L2.wipe σ vs) H' fun σ2 H2 => L2.wipe σ2 vs = L2.wipe σ vs ∧
    te σ2 H2 fun y H4 => ∃ acc, H4 D = some (.lst acc) ∧ acc.length < sizeLine ∧ N (upd H4 D (.lst (acc ++ [y]))))
theorem pe_lcX {W : WX} {E : XK} {elt tg iter : Expr} {scope : Scope} {own : List (Str × Nat)} {pos : Pos} {wi : TI} {g : TG} {te : TE} (hst : X.stack = X.env :: X.outer) (hfr : X.env.frame = some X.env.locals) (tk : Takes X W)
    (hc : X.calm = true) (hN : X.N.Nodup) (hi : PI X tg iter wi) (ok : BlkOk X.N X.env.scope scope own)
    (hg : ∀ (y : Shared) (K : Hp) (C : Addr) (cl : List (Str × Addr)) (fp : List Addr), PG (X.blk y K scope (compEnvC scope cl C X.env) fp) tg g)
    (he : ∀ (y : Shared) (K : Hp) (C : Addr) (cl : List (Str × Addr)) (fp : List Addr) (Kx : Value → Shared → Prop), (∀ u z, CXb X (X.blk y K scope (compEnvC scope cl C X.env) fp) E u z → Kx u z) → PE ((X.blk y K scope (compEnvC scope cl C X.env) fp).wish Kx) elt te)
    (hs : ∀ x, foldedSetIterable iter X.env x = pure x) {pn : List (Addr × Obj)} {y : Shared} {τ : L2.St} {K : Hp} {Q : VK} (hW : ∀ c d K', E c d K' → W c d τ K') (J : Inv X pn τ K y) (h : tLcX wi g te (own.map (·.2)) τ K Q) :
    wpAny (model X.prog X.w) X.A (eval (.ListComp elt [⟨tg, iter, [], 0⟩] scope pos) X.env) (EP X pn τ Q) X.xe y := by
  rw [eval_ListComp]
  have clos : ∀ x ∈ scope.names, x.2 = .free → ∃ c, X.env.cells.lookup x.1 = some c := fun x hx e => (ok.free x hx e).elim (fun k => J.ok.has _ (.inl k)) (fun k => J.ok.has _ (.inr k))
  refine comprehension_at (use := none) rfl hs (closure_ok clos) ok.kind (fun x hx e => by rw [ok.uniq x hx, e]) (thn (hi.run pn y τ K _ J h) fun xv y1 hx => thn hx fun itv y2 h2 => ?_)
  obtain ⟨it, fp, tn, Jt, K2, rfl, J2, T, t2, f2, q⟩ := h2
  refine wpAny_newObj_type (newEnv_comp ?_) (Nat.zero_le _)
  obtain ⟨D, hD⟩ : ∃ D, D = y2.heap.objs.size := ⟨_, rfl⟩
  rw [← hD]
  obtain ⟨P, ⟨m0, p0⟩, turn⟩ := q D (J2.hok.fresh (Nat.le_of_eq hD.symm))
  obtain ⟨y3, hy3⟩ : ∃ y3 : Shared, y3 = { y2 with heap := y2.heap.push { cls := .type "list", data := .seq ([] : List Value).toArray } } := ⟨_, rfl⟩
  have hp3 : y3.heap = y2.heap.push { cls := .type "list", data := .seq ([] : List Value).toArray } := by rw [hy3]
  obtain ⟨K3, hK3⟩ : ∃ K3, K3 = upd K2 D (.lst []) := ⟨_, rfl⟩
  have J3 : Inv X pn τ K3 y3 := by
    rw [hy3, hK3]
    refine J2.laid (t' := y2.toks) (fun b o e => Heap.get?_push_of_some _ e) (Nat.le_of_eq hD.symm) ⟨Nat.zero_le _, [], 0, .nil, ?_⟩
    rw [hD]
    exact Heap.get?_push_size _ rfl
  have small : ∀ b ∈ fp, b < y2.heap.objs.size := fun b hb => let ⟨_, e, _⟩ := T.obj _ _ t2 b hb; Heap.lt_size e
  have f3 : ∀ b ∈ fp, FpOk X pn K3 b ∧ b < y3.heap.objs.size := fun b hb => by
    have hl := small b hb
    refine ⟨⟨?_, (f2 b hb).2⟩, by rw [hp3, Heap.size_push]; exact Nat.lt_succ_of_lt hl⟩
    rw [hK3, upd_ne (by rw [hD]; exact Nat.ne_of_lt hl)]
    exact (f2 b hb).1
  have t3 : tn 0 y3.heap := T.keep _ _ _ t2 fun b _ o e => by rw [hp3]; exact Heap.get?_push_of_some _ e
  have J4 := block_start J3 ok hN f3
  obtain ⟨cl, hcl⟩ : ∃ cl, cl = cellsFrom (y3.heap.objs.size + 1) scope.names (cloFrom X.env.cells scope.names []) := ⟨_, rfl⟩
  obtain ⟨C, hC⟩ : ∃ C, C = y3.heap.objs.size := ⟨_, rfl⟩
  rw [← hcl, ← hC] at J4
  have gg := hg y3 K3 C cl fp
  have ee := he y3 K3 C cl fp (CXb X (X.blk y3 K3 scope (compEnvC scope cl C X.env) fp) E) fun _ _ z => z
  rw [← hy3]
  let cx := compEnvC scope (cellsFrom (y3.heap.objs.size + 1) scope.names (cloFrom X.env.cells scope.names [])) y3.heap.objs.size X.env
  show codeAny _ _ (.compStart (.ListComp elt [⟨tg, iter, [], 0⟩] scope pos) 0 (.ref it) (.ref D) cx) (compEnds (model X.prog X.w) X.A X.xe none (EP X pn τ Q) (.ref D) cx) { y3 with heap := pushCells (y3.heap.push { cls := .type "dict", data := .dict #[] }) scope.names }
  have hcx : cx = compEnvC scope cl C X.env := by rw [hcl, hC]
  rw [hcx]
  obtain ⟨ce, hce⟩ : ∃ ce, ce = compEnvC scope cl C X.env := ⟨_, rfl⟩
  have cL : ce.locals = y3.heap.objs.size := by rw [hce, ← hC]; rfl
  have cF : ce.frame = X.env.frame := by rw [hce]; rfl
  rw [← hce] at J4 gg ee ⊢
  have out : ∀ {u z}, CXb X (X.blk y3 K3 scope ce fp) E u z → notedBy (model X.prog X.w) X.A ce (CompFails (model X.prog X.w) X.A X.xe ce) u z := fun hx => raised_out hst hfr tk hW J3 (fun b hb => (f3 b hb).1) cL cF hx
  have n3 : ∀ b ∈ fp, K3 b = none := fun b hb => (f3 b hb).1.1
  obtain ⟨y4, hy4⟩ : ∃ y4 : Shared, y4 = { y3 with heap := pushCells (y3.heap.push { cls := .type "dict", data := .dict #[] }) scope.names } := ⟨_, rfl⟩
  rw [← hy4] at J4 ⊢
  have t4 : tn 0 y4.heap := T.keep _ _ _ t3 fun b _ o e => by rw [hy4]; exact pushCells_keeps _ _ _ _ (Heap.get?_push_of_some _ e)
  have own1 : ∀ {τ' : L2.St} {K' : Hp} {z : Shared}, Inv (X.blk y3 K3 scope ce fp) [] τ' K' z → (∀ b ∈ fp, K' b = none) → ∀ b ∈ fp, FpOk (X.blk y3 K3 scope ce fp) [] K' b := fun {τ' K' z} Jz hn b hb =>
    ⟨hn b hb, (Jz.ok.exf b hb).1, Jz.ok.exfs b hb, .inl hb, fun x c e => (Jz.ok.exf b hb).2 x c e, fun p hp => (nomatch (show p ∈ ([] : List (Addr × Obj)) ++ [] from hp))⟩
  rw [← hK3] at p0
  have loop : codeAny (model X.prog X.w) X.A (.compLoop (.ListComp elt [⟨tg, iter, [], 0⟩] scope pos) 0 (.ref it) (.ref D) ce) (compEnds (model X.prog X.w) X.A X.xe none (EP X pn τ Q) (.ref D) ce) y4 := by
    refine compLoop_any (fun n z => ∃ i K', Inv (X.blk y3 K3 scope ce fp) [] (L2.wipe τ (own.map (·.2))) K' z ∧ tn i z.heap ∧ (∀ b ∈ fp, K' b = none) ∧ P i n K') ?_ m0 ⟨0, K3, J4, t4, n3, p0⟩
    rintro n z5 ⟨i, K5, J5, t5, n5, p5⟩
    rcases turn i n K5 p5 with ⟨stop, qq⟩ | ⟨go, N, hN', step⟩
    · refine thnF (T.done (X.blk y3 K3 scope ce fp) rfl rfl rfl hc i [] z5 _ K5 (fun _ _ => False) J5 (own1 J5 n5) t5 stop) fun r z6 hr => ?_
      obtain ⟨hr, J6⟩ := hr
      subst hr
      have J7 : Inv X pn τ K5 z6 := J3.call' (ch := fp) J6.os J6.base J6.hok J6.bare fun b hb => let f := (f3 b hb).1; ⟨f.2.2.2.1, f.2.1, f.2.2.2.2.1, f.2.2.2.2.2⟩
      have nC : K5 C = none := by
        have e : K5 ce.locals = none := J6.free
        rw [cL, ← hC] at e
        exact e
      obtain ⟨m, hm, _⟩ := J6.loc
      refine ⟨m, hm, fun h'' sb => ?_⟩
      obtain ⟨f0, f1, f2', f3', f4, f5⟩ := J3.fpOk (b := C) (H' := K5) (Nat.le_of_eq hC.symm) nC
      have sb : ∀ b, b ≠ C → h''.get? b = z6.heap.get? b := fun b hb => sb.2 b (by show b ≠ ce.locals; rw [cL, ← hC]; exact hb)
      exact ⟨.ref D, K5, J7.turned (t' := z6.toks) (fun b o hb e => (sb b hb).trans e) f0 f1 f3' f4 f5, rfl, qq⟩
    · refine thnF (T.item (X.blk y3 K3 scope ce fp) rfl rfl rfl hc i [] z5 _ K5 (fun _ _ => False) J5 (own1 J5 n5) t5 go) fun r z6 hr => ?_
      obtain ⟨u, hr, h6⟩ := hr
      subst hr
      refine thnF h6 fun _ z7 h7 => ?_
      obtain ⟨x, K7, J7, r7, y7, t7, n7⟩ := h7
      have J7' := J7.pinned (own1 J7 n7) (T.obj _ _ t7)
      refine thnF (gg.run _ z7 _ K7 x u _ J7' r7 (step x K7 y7)) fun _ z8 h8 => ?_
      obtain ⟨τ8, K8, J8, w8, q8⟩ := h8
      refine wpAny_pure ?_
      rw [if_pos rfl]
      refine wpAny_mono (ee.run _ z8 τ8 K8 _ (J8.wish _) q8) (fun v z9 h9 => ?_) (fun u' z' hx => out hx)
      obtain ⟨yv, K9, J9, r9, acc, hD9, hz9, nx⟩ := h9
      have J9 := J9.unwish
      refine app_ok (X := X.blk y3 K3 scope ce fp) J9 hD9 hz9 r9 fun z11 J11 => ?_
      obtain ⟨m', hm, p'⟩ := hN' _ nx
      have pin' : ∀ b ∈ fp, ∀ o, z7.heap.get? b = some o → z11.heap.get? b = some o ∧ (upd K9 D (.lst (acc ++ [yv]))) b = none := fun b hb o e =>
        let k := J11.pin (b, o) (List.mem_append_right _ (List.mem_append_right _ (mem_pinsAt hb e)))
        ⟨k.1, k.2.1⟩
      refine ⟨m', hm, i + 1, _, (J11.unpinned (pins := [])).weak (by rw [← w8, wipe_length]) (fun j v e => ?_), T.keep _ _ _ t7 fun b hb o e => (pin' b hb o e).1, fun b hb => ?_, p'⟩
      · rw [← w8] at e
        exact (wipe_some e).1
      · obtain ⟨o, e, _⟩ := T.obj _ _ t7 b hb
        exact (pin' b hb o e).2
  exact codeAny_compStart_list loop (T.self X.A 0 _ _ _ t4 loop)
/-! ### the same, as readings -/
abbrev REc := (Xn → Prop) → Rho → (PV → Prop) → Prop
def lEc (K : PySem.W.Frag) (Z : Zp) (E : XK) (te : REc) : TE := fun σ H Q => ∃ F ρ Q' xq, RSz K Z F ρ σ H ∧ te xq ρ Q' ∧ (∀ c H', xq c → Same H H' → E (.ref (Z.cl c)) none H') ∧ ∀ x v F' H', Q' x → Ext F H F' H' → Out K F' H H' v x → Q v H'
def CEc (X Y : Cx) (Z : Zp) (e : Expr) (te : REc) : Prop := ∀ (E : XK) (Kx : Value → Shared → Prop), (∀ u z, CXb X Y E u z → Kx u z) → PE (Y.wish Kx) e (lEc X.K Z E te)
theorem pa_wish {Y : Cx} {es : List Expr} {t : TA} (h : PA Y es t) (hx : Y.xe = fun _ _ => False) (Kx : Value → Shared → Prop) : PA (Y.wish Kx) es t := ⟨fun pos pn s τ H Q J q =>
  wpAny_mono (h.run pos pn s τ H Q J.unwish q) (fun _ _ ⟨vs, H', J', r, k⟩ => ⟨vs, H', J'.wish _, r, k⟩) fun _ _ k => by rw [hx] at k; exact k.elim⟩
def rCallC (sp : PSp) (ta : RA) : REc := fun xq ρ Q => ta (fun _ _ => False) ρ fun ds => sp ds Q xq
def lcXR (g : PyData → Rho → (Rho → Prop) → Prop) (te : REc) (xq : Xn → Prop) (ρ : Rho) : List PyData → List PyData → (PV → Prop) → Prop
  | [], acc, Q => Q (.ow (.ls acc))
  | d :: r, acc, Q => g d ρ fun ρ1 => te xq ρ1 fun x => x.frz fun y => lcXR g te xq ρ r (acc ++ [y]) Q
@[irreducible] def lcX (g : PyData → Rho → (Rho → Prop) → Prop) (te : REc) (xq : Xn → Prop) (ρ : Rho) (ds acc : List PyData) (Q : PV → Prop) : Prop := lcXR g te xq ρ ds acc Q
theorem lcX_eq {g : PyData → Rho → (Rho → Prop) → Prop} {te : REc} {xq : Xn → Prop} {ρ : Rho} {ds acc : List PyData} {Q : PV → Prop} : lcX g te xq ρ ds acc Q = lcXR g te xq ρ ds acc Q := by unfold lcX; rfl
def rLcX (it : RI) (tg : Tgt) (te : REc) (vs : List Nat) : RE := fun ex ρ Q => it ex ρ fun ds => ds.length ≤ sizeLine ∧ lcX tg.go te (fun c => ex c ρ) (wipeP ρ vs) ds [] Q
end
section
variable {X Y : Cx} {Z : Zp} {N : List Str} {sc : Scope} {e : Expr} {es : List Expr} {ta : RA} {pos p : Pos} {x : Str} {k : Nat} {ps : List Str} {sp : PSp}
theorem cec_call {y : Shared} {K3 : Hp} {scope : Scope} {ce : Env} {fp : List Addr} (hY : Y = X.blk y K3 scope ce fp) (G : FnAt Y.prog Y.w Y.K Y.mg Y.base Z.cl k x ps sp) (A : Wh Y N sc) (hr : Room k Y.A) (hg : GlN sc x) (ha : CA Y Z (e :: es) ta) (hdb : (x == ("__debug__" : Str)) = false)
    (he : ∀ env, starEach (e :: es) env = (false, eval e env) :: starEach es env := by intro _; rfl) (hpl : ∀ env, (backTo pos (starEach es env)).any (·.1) = false := by intro _; rfl) : CEc X Y Z (.Call (.Name x p) (e :: es) [] pos) (rCallC sp ta) := fun E Kx hK => by
  obtain ⟨f, fd, hm, hk, hb, G⟩ := G
  have hxe : Y.xe = fun _ _ => False := by rw [hY]
  have hq : Y.K = X.K ∧ Y.prog = X.prog ∧ Y.w = X.w ∧ Y.stack = X.stack := by rw [hY]; exact ⟨rfl, rfl, rfl, rfl⟩
  refine pe_imp (pe_callS (X := Y.wish Kx) (E := fun _ => E) G hr (show Y.env.scope.names.lookup x = _ by rw [A.hs]; exact hg) hm hk hb (fun τ pn H s u z J c => hK u z ⟨pn, τ, H, s, J.unwish, ?_⟩) (pa_wish (ha _ (px_no hxe)) hxe Kx) hdb (he _) (hpl _)) ?_
  · have c : L2.CX Y.prog Y.w Y.stack H s E u z := c
    rw [hq.2.1, hq.2.2.1, hq.2.2.2] at c
    exact c
  rintro σ H Q ⟨F, ρ, Q', xq, rs, t, hE, q⟩
  rw [← hq.1] at rs q
  refine ⟨F, ρ, _, rs, t, fun ds vs F1 H1 q1 l1 e1 a1 => ?_⟩
  exact ⟨F1, ds, Q', _, e1.fh, a1, q1, fun y v F' H' qy e2 o2 => q y v F' H' qy (e1.trans e2) (o2.earlier e1.hh), fun c H' hc s => hE c H' hc (e1.hh.trans s)⟩
end
section
variable {X : Cx} {Z : Zp} {N : List Str} {sc : Scope} {elt tg it : Expr} {scope : Scope} {own : List (Str × Nat)} {pos : Pos} {ti : RI} {g : Tgt} {te : REc}
theorem lcX_ok {ex : XW} {σ : L2.St} {H : Hp} {Q : VK} {F : Hp} {ρ : Rho} {Q' : PV → Prop} (hv : ∀ i ∈ g.slots, i ∈ own.map (·.2)) (rs : RSz X.K Z F ρ σ H) (t : rLcX ti g te (own.map (·.2)) ex ρ Q') (q : ∀ x v F' H', Q' x → Ext F H F' H' → Out X.K F' H H' v x → Q v H') :
    tLcX (lI X.K Z (ti ex)) (tgV X.K g) (lEc X.K Z (fun cls d H' => ∃ c F', cls = .ref (Z.cl c) ∧ d = none ∧ RSz X.K Z F' ρ σ H' ∧ ex c ρ) te) (own.map (·.2)) σ H Q := by
  refine ⟨F, ρ, _, rs, t, fun ds F1 H1 J q1 e1 ok D hD => ?_⟩
  have e2 : Ext F1 H1 F1 (upd H1 D (.lst [])) := .own e1.fh hD
  have q2 := q1.2
  rw [lcX_eq] at q2
  refine ⟨fun i m H => m = ds.length - i ∧ i ≤ ds.length ∧ ∃ F acc vs, Ext F1 H1 F H ∧ F D = none ∧ H D = some (.lst vs) ∧ DpAll X.K F vs acc ∧ acc.length ≤ i ∧ lcXR g.go te (fun c => ex c ρ) (wipeP ρ (own.map (·.2))) (ds.drop i) acc Q',
    ⟨_, rfl, Nat.zero_le _, F1, [], [], e2, e1.fh.free hD, upd_same, .nil, Nat.le_refl _, q2⟩, ?_⟩
  rintro i m H2 ⟨rfl, hi, F2, acc, vs, e3, nD, hvs, da, hacc, q3⟩
  obtain ⟨o1, o2, o3⟩ := ok F2 H2 e3.ff e3.fh i
  by_cases hlt : i < ds.length
  · rw [List.drop_eq_getElem_cons hlt] at q3
    refine .inr ⟨o1 hlt, fun H' => ∃ F acc vs, Ext F1 H1 F H' ∧ F D = none ∧ H' D = some (.lst vs) ∧ DpAll X.K F vs acc ∧ acc.length ≤ i + 1 ∧ lcXR g.go te (fun c => ex c ρ) (wipeP ρ (own.map (·.2))) (ds.drop (i + 1)) acc Q', fun H' z => ⟨ds.length - (i + 1), by omega, rfl, hlt, z⟩, fun x H' hy => ?_⟩
    obtain ⟨F', e', dp⟩ := o2 _ x H' (List.getElem?_eq_getElem hlt) hy
    have e4 := e3.trans e'
    refine tgt_ok ((rs.grow (e1.trans e4)).wipe (own.map (·.2))) dp q3 fun ρ' σ' rs' q' hw => ⟨(hw _ hv).trans wipe_wipe, F', ρ', _, _, rs', q', fun c H5 hc s5 => ⟨c, F', rfl, rfl, (rs.grow (e1.trans e4)).grow (ext_same e4.fh s5), hc⟩, fun y v F4 H4 q4 e6 o4 => ?_⟩
    obtain ⟨d, F5, q5, e7, d5⟩ := o4.frz e6 q4
    have hv4 : H4 D = some (.lst vs) := e7.hh _ _ (e'.hh _ _ hvs)
    have hn4 : F5 D = none := e7.nw _ _ (e'.hh _ _ hvs) (e'.nw _ _ hvs nD)
    have e9 := e4.trans e7
    exact ⟨vs, hv4, by rw [dpa_len da]; have := q1.1; omega, F5, acc ++ [d], vs ++ [v], ⟨e9.ff, same_upd2 e9.hh hD, same_upd2 e9.fh hn4, e9.nw⟩, hn4, upd_same, dpa_app (dpAll_mono (e'.ff.trans e7.ff) da) (.cons d5 .nil), by rw [List.length_append, List.length_singleton]; omega, q5⟩
  · rw [List.drop_eq_nil_of_le (by omega)] at q3
    refine .inl ⟨o3 (by omega), q _ _ F2 H2 q3 (e1.trans e3) ⟨D, [D], rfl, ⟨rfl, vs, hvs, da⟩, fun a ha => ?_⟩⟩
    cases List.mem_singleton.1 ha
    exact ⟨e1.hh.free hD, nD, _, hvs⟩
theorem ce_lcX (A : WhD X N sc) (hc : X.calm = true) (hi : CI X Z tg it ti) (ok : BlkOk N sc scope own) (hv : ∀ i ∈ g.slots, i ∈ own.map (·.2))
    (hg : ∀ (s : Shared) (H : Hp) (C : Addr) (cl : List (Str × Addr)) (fp : List Addr), CG (X.blk s H scope (compEnvC scope cl C X.env) fp) tg g)
    (he : ∀ (s : Shared) (H : Hp) (C : Addr) (cl : List (Str × Addr)) (fp : List Addr), CEc X (X.blk s H scope (compEnvC scope cl C X.env) fp) Z elt te)
    (hs : ∀ env x, foldedSetIterable it env x = pure x := by intro _ _; rfl) : CE X Z (.ListComp elt [⟨tg, it, [], 0⟩] scope pos) (rLcX ti g te (own.map (·.2))) := fun ex px => by
  refine ⟨fun pn y τ K Q J h => ?_⟩
  obtain ⟨F, ρ, Q', rs, t, q⟩ := h
  exact pe_lcX (g := tgV X.K g) (W := fun cls d σ H => ∃ c F ρ, cls = .ref (Z.cl c) ∧ d = none ∧ RSz X.K Z F ρ σ H ∧ ex c ρ) A.stk A.frm px.tk hc (by rw [A.hN]; exact A.nd) (hi ex px) (by rw [A.hN, A.hs]; exact ok) hg (fun s H C cl fp Kx hK => he s H C cl fp _ Kx hK) (hs _)
    (fun c d K' ⟨cx, F', h1, h2, h3, h4⟩ => ⟨cx, F', ρ, h1, h2, h3, h4⟩) J (lcX_ok hv rs t q)
end
end Pz

namespace Pz
open PySem PySem.Spec PyProof.Rows L2
/-! ### what a text of figures tells -/
def figB (c : Nat) : Bool := decide (48 ≤ c ∧ c ≤ 57)
def valF (l : List Nat) : Nat := l.foldl (fun a c => 10 * a + (c - 48)) 0
def cutM : List Nat → List Nat
  | 45 :: r => r
  | w => w
def numOk (w : List Nat) : Prop := cutM w ≠ [] ∧ (cutM w).length ≤ 60 ∧ (∀ c ∈ cutM w, figB c = true) ∧ ((cutM w).head? = some 48 → w = [48])
instance (w : List Nat) : Decidable (numOk w) := by unfold numOk; infer_instance
def numL (w : List Nat) : Option Int := if numOk w then some (if cutM w = w then (valF (cutM w) : Int) else -(valF (cutM w) : Int)) else none
theorem fig_le {c : Nat} (h : figB c = true) : 48 ≤ c ∧ c ≤ 57 := of_decide_eq_true h
theorem cutM_minus (r : List Nat) : cutM (45 :: r) = r := rfl
theorem cutM_plain {w : List Nat} (h : w.head? ≠ some 45) : cutM w = w := by
  unfold cutM
  split
  · exact (h rfl).elim
  · rfl
theorem cutM_or (w : List Nat) : (w = 45 :: cutM w) ∨ (cutM w = w ∧ w.head? ≠ some 45) := by
  cases w with
  | nil => exact .inr ⟨rfl, by simp⟩
  | cons c r =>
    by_cases h : c = 45
    · subst h; exact .inl rfl
    · exact .inr ⟨cutM_plain (by simpa using h), by simpa using h⟩
theorem cutM_len (w : List Nat) : (cutM w).length ≤ w.length := by
  rcases cutM_or w with h | h
  · conv => rhs; rw [h]
    simp
  · rw [h.1] <;> exact Nat.le_refl _
theorem cutM_ge (w : List Nat) : w.length ≤ (cutM w).length + 1 := by
  rcases cutM_or w with h | h
  · conv => lhs; rw [h]
    simp
  · rw [h.1] <;> omega
theorem cutM_ne {w : List Nat} (h : w = 45 :: cutM w) : cutM w ≠ w := fun e => by
  have := congrArg List.length h
  rw [e] at this
  simp at this
theorem valF_snoc (g : List Nat) (c : Nat) : valF (g ++ [c]) = 10 * valF g + (c - 48) := by
  unfold valF; rw [List.foldl_append]; rfl
theorem foldF_ge : ∀ (l : List Nat) (a : Nat), a ≤ l.foldl (fun a c => 10 * a + (c - 48)) a
  | [], a => Nat.le_refl _
  | c :: r, a => by
    rw [List.foldl_cons]
    exact Nat.le_trans (by omega) (foldF_ge r _)
theorem valF_pos {c : Nat} {r : List Nat} (h : 49 ≤ c) : 0 < valF (c :: r) := by
  unfold valF
  rw [List.foldl_cons]
  exact Nat.lt_of_lt_of_le (by omega : 0 < 10 * 0 + (c - 48)) (foldF_ge _ _)
theorem foldF_lt : ∀ (l : List Nat) (a : Nat), (∀ c ∈ l, figB c = true) → l.foldl (fun a c => 10 * a + (c - 48)) a < (a + 1) * 10 ^ l.length
  | [], a, _ => by simp
  | c :: r, a, h => by
    rw [List.foldl_cons, List.length_cons]
    have h1 := fig_le (h c List.mem_cons_self)
    have ih := foldF_lt r (10 * a + (c - 48)) fun x m => h x (List.mem_cons_of_mem _ m)
    refine Nat.lt_of_lt_of_le ih ?_
    rw [Nat.pow_succ, Nat.mul_comm (10 ^ r.length) 10, ← Nat.mul_assoc]
    exact Nat.mul_le_mul_right _ (by omega)
theorem valF_lt {l : List Nat} (h : ∀ c ∈ l, figB c = true) : valF l < 10 ^ l.length := by
  have := foldF_lt l 0 h
  unfold valF
  omega
theorem snoc_ind {P : List Nat → Prop} (h0 : P []) (h1 : ∀ g c, P g → P (g ++ [c])) (l : List Nat) : P l := by
  have : ∀ n (l : List Nat), l.length = n → P l := fun n => by
    induction n with
    | zero => intro l hl; rw [List.length_eq_zero_iff.1 hl]; exact h0
    | succ n ih =>
      intro l hl
      have hne : l ≠ [] := by rintro rfl; simp at hl
      rw [← List.dropLast_concat_getLast hne]
      exact h1 _ _ (ih _ (by rw [List.length_dropLast, hl]; rfl))
  exact this _ l rfl
theorem digitChar_fig {c : Nat} (h : figB c = true) : Nat.digitChar (c - 48) = Char.ofNat c := by
  have := fig_le h
  have : c = 48 ∨ c = 49 ∨ c = 50 ∨ c = 51 ∨ c = 52 ∨ c = 53 ∨ c = 54 ∨ c = 55 ∨ c = 56 ∨ c = 57 := by omega
  rcases this with h | h | h | h | h | h | h | h | h | h <;> subst h <;> decide
theorem digs_figs (l : List Nat) : l ≠ [] → (∀ c ∈ l, figB c = true) → (l.head? = some 48 → l = [48]) → Nat.toDigits 10 (valF l) = l.map Char.ofNat := by
  refine snoc_ind (P := fun l => l ≠ [] → (∀ c ∈ l, figB c = true) → (l.head? = some 48 → l = [48]) → Nat.toDigits 10 (valF l) = l.map Char.ofNat) (fun h => (h rfl).elim) (fun g c ih => ?_) l
  intro _ hf hz
  have hc := hf c (by simp)
  have hc1 := fig_le hc
  by_cases hg : g = []
  · subst hg
    show Nat.toDigits 10 (10 * 0 + (c - 48)) = [Char.ofNat c]
    rw [Nat.mul_zero, Nat.zero_add, Nat.toDigits_of_lt_base (by omega), digitChar_fig hc]
  · cases g with
    | nil => exact (hg rfl).elim
    | cons d r =>
      have hd : d ≠ 48 := fun e => by
        have := hz (by rw [e]; rfl)
        have := congrArg List.length this
        simp at this
      have hd1 := fig_le (hf d (by simp))
      have h1 := ih hg (fun x m => hf x (List.mem_append_left _ m)) (fun e => absurd (by simpa using e) hd)
      rw [valF_snoc, ← Nat.toDigits_append_toDigits (by decide) (valF_pos (r := r) (by omega : 49 ≤ d)) (by omega), h1, Nat.toDigits_of_lt_base (by omega), digitChar_fig hc, List.map_append]
      rfl
theorem chars_back {l : List Nat} (h : ∀ c ∈ l, figB c = true) : (l.map Char.ofNat).map Char.toNat = l := by
  rw [List.map_map]
  conv => rhs; rw [← List.map_id l]
  refine List.map_congr_left fun c m => ?_
  have := fig_le (h c m)
  have : c = 48 ∨ c = 49 ∨ c = 50 ∨ c = 51 ∨ c = 52 ∨ c = 53 ∨ c = 54 ∨ c = 55 ∨ c = 56 ∨ c = 57 := by omega
  rcases this with h | h | h | h | h | h | h | h | h | h <;> subst h <;> decide
theorem nat_shown {l : List Nat} (h0 : l ≠ []) (h1 : ∀ c ∈ l, figB c = true) (h2 : l.head? = some 48 → l = [48]) : (Nat.repr (valF l)).toList.map Char.toNat = l := by
  rw [Nat.toList_repr, digs_figs l h0 h1 h2, chars_back h1]
theorem num_shown {w : List Nat} {n : Int} (h : numL w = some n) : (Str.ofString (toString n)) = ⟨w.toArray⟩ := by
  unfold numL at h
  split at h
  · rename_i ok
    obtain ⟨h0, h1, h2, h3⟩ := ok
    injection h with h
    rw [Str.ofString_eq_toList]
    congr 1
    congr 1
    rcases cutM_or w with e | e
    · rw [if_neg (cutM_ne e)] at h
      have hz : (cutM w).head? ≠ some 48 := fun z => by
        have := h3 z
        rw [this] at e
        simp [cutM] at e
      have hp : 0 < valF (cutM w) := by
        cases hl : cutM w with
        | nil => exact (h0 hl).elim
        | cons c r =>
          rw [hl] at hz h2
          have hc := fig_le (h2 c List.mem_cons_self)
          have : c ≠ 48 := fun z => hz (by rw [z]; rfl)
          exact valF_pos (by omega)
      obtain ⟨k, hk⟩ : ∃ k, valF (cutM w) = k + 1 := ⟨valF (cutM w) - 1, by omega⟩
      have hn : n = Int.negSucc k := by rw [← h, hk]; rfl
      subst hn
      show (("-" : String) ++ Nat.repr (k + 1)).toList.map Char.toNat = w
      rw [← hk, String.toList_append, List.map_append, nat_shown h0 h2 (fun z => (hz z).elim), show ("-" : String).toList.map Char.toNat = [45] from by decide]
      exact e.symm
    · rw [if_pos e.1] at h
      have hn : n = Int.ofNat (valF (cutM w)) := h.symm
      subst hn
      show (Nat.repr (valF (cutM w))).toList.map Char.toNat = w
      rw [nat_shown h0 h2 (fun z => by rw [e.1]; exact h3 z), e.1]
  · cases h
theorem num_small {w : List Nat} {n : Int} (h : numL w = some n) : n.natAbs < 10 ^ 60 := by
  unfold numL at h
  split at h
  · rename_i ok
    obtain ⟨h0, h1, h2, h3⟩ := ok
    injection h with h
    have h4 := valF_lt h2
    have h5 : 10 ^ (cutM w).length ≤ 10 ^ 60 := Nat.pow_le_pow_right (by decide) h1
    have : n.natAbs = valF (cutM w) := by rw [← h]; split <;> omega
    omega
  · cases h
theorem log_small {n : Int} (h : n.natAbs < 10 ^ 60) : n.natAbs.log2 < 1920 := by
  by_cases h0 : n.natAbs = 0
  · rw [h0]; decide
  · rw [Nat.log2_lt h0]
    exact Nat.lt_trans h (by decide)
/-! ### int(text) -/
section
open PySem.NumText
theorem foldS : ∀ (l : List Nat) (b : Array Nat) (k : Bool), (∀ c ∈ l, figB c = true) → l.foldlM (NumText.step 10) (b, k) = some (b ++ (l.map (· - 48)).toArray, k || !l.isEmpty)
  | [], b, k, _ => by simp
  | c :: r, b, k, h => by
    have hc := fig_le (h c List.mem_cons_self)
    rw [List.foldlM_cons]
    have e : NumText.step 10 (b, k) c = some (b.push (c - 48), true) := by
      unfold NumText.step NumText.digit?
      have e1 : (c == 95) = false := beq_eq_false_iff_ne.2 (by omega)
      have e2 : (decide (48 ≤ c) && decide (c ≤ 57)) = true := by rw [decide_eq_true hc.1, decide_eq_true hc.2]; rfl
      rw [e1, e2]
      simp only [Bool.false_eq_true, if_false, if_true]
      rw [if_pos (by omega)]
    rw [e]
    show r.foldlM (NumText.step 10) (b.push (c - 48), true) = _
    rw [foldS r _ _ fun x m => h x (List.mem_cons_of_mem _ m)]
    simp
theorem worthF : ∀ (l : List Nat) (a : Nat), ((l.map (· - 48)).foldl (fun acc d => acc * 10 + d) a) = l.foldl (fun a c => 10 * a + (c - 48)) a
  | [], _ => rfl
  | c :: r, a => by
    rw [List.map_cons, List.foldl_cons, List.foldl_cons, worthF r, Nat.mul_comm a 10]
theorem dw_all {p : Nat → Bool} {l : List Nat} (h : ∀ c ∈ l, p c = false) : l.dropWhile p = l := by
  cases l with
  | nil => rfl
  | cons c r => rw [List.dropWhile_cons, h c List.mem_cons_self]; simp
theorem tw_all {p : Nat → Bool} : ∀ {l : List Nat}, (∀ c ∈ l, p c = true) → l.takeWhile p = l
  | [], _ => rfl
  | c :: r, h => by rw [List.takeWhile_cons, h c List.mem_cons_self, tw_all fun x m => h x (List.mem_cons_of_mem _ m)]; simp
theorem num_int {a : Str} {n : Int} (h : numL a.cps.toList = some n) : PySem.intText? a = some n := by
  unfold numL at h
  split at h
  · rename_i ok
    obtain ⟨h0, h1, h2, h3⟩ := ok
    injection h with h
    generalize hw : a.cps.toList = w at h h0 h1 h2 h3
    have hall : ∀ c ∈ w, c = 45 ∨ (48 ≤ c ∧ c ≤ 57) := fun c m => by
      rcases cutM_or w with e | e
      · rw [e] at m
        rcases List.mem_cons.1 m with r | r
        · exact .inl r
        · exact .inr (fig_le (h2 c r))
      · rw [← e.1] at m; exact .inr (fig_le (h2 c m))
    have hasc : a.cps.all (· < 128) = true := by
      rw [← Array.all_toList, hw, List.all_eq_true]
      intro c m
      have := hall c m
      exact decide_eq_true (by omega)
    have e1 : numTextOf a = w := by unfold numTextOf; rw [if_pos hasc, hw]
    have e2 : numSeenOf a = w := by
      unfold numSeenOf
      rw [e1]
      exact tw_all fun c m => by have := hall c m; exact bne_iff_ne.2 (by omega)
    have hbl : ∀ c, (c = 45 ∨ (48 ≤ c ∧ c ≤ 57)) → NumText.blank c = false := fun c hc => by
      unfold NumText.blank
      have b1 : (c == 32) = false := beq_eq_false_iff_ne.2 (by omega)
      have b2 : decide (c ≤ 13) = false := decide_eq_false (by omega)
      rw [b1, b2]; simp
    have e3 : w.dropWhile NumText.blank = w := dw_all fun c m => hbl c (hall c m)
    have hs : NumText.sign w = (decide (cutM w ≠ w), cutM w) := by
      rcases cutM_or w with e | e
      · rw [decide_eq_true (cutM_ne e)]
        generalize cutM w = r at e
        subst e; rfl
      · have : decide (cutM w ≠ w) = false := decide_eq_false (fun z => z e.1)
        rw [this, e.1]
        have hn43 : w.head? ≠ some 43 := fun z => by
          cases w with
          | nil => cases z
          | cons c r => have := hall c List.mem_cons_self; simp at z; omega
        have hn45 := e.2
        unfold NumText.sign
        split
        · exact (hn45 rfl).elim
        · exact (hn43 rfl).elim
        · rfl
    have hc : NumText.core w = cutM w := by
      unfold NumText.core
      rw [e3, hs]
      show ((cutM w).reverse.dropWhile NumText.blank).reverse = cutM w
      rw [dw_all fun c m => hbl c (.inr (fig_le (h2 c (List.mem_reverse.1 m)))), List.reverse_reverse]
    have hd : NumText.digits? 10 (cutM w) = some ((cutM w).map (· - 48)).toArray := by
      unfold NumText.digits?
      rw [foldS _ _ _ h2]
      have : (cutM w).isEmpty = false := by simpa using h0
      simp [this]
    unfold PySem.intText?
    rw [e1, e2, hc, hd, e3, hs]
    simp only [beq_self_eq_true, if_true]
    rw [if_pos (by simp; omega)]
    unfold NumText.worth
    have e5 : ((cutM w).map (· - 48)).toArray.foldl (fun acc d => acc * 10 + d) 0 = valF (cutM w) := by
      rw [List.foldl_toArray']
      · exact worthF _ _
      · rfl
    rw [e5, ← h]
    by_cases hm : cutM w = w
    · simp [hm]
    · simp [hm]
  · cases h
end
/-! ### signs, slices, find, startswith -/
theorem cut_first (z : Str) : (L2.cutS z none (some 1)).cps.toList = z.cps.toList.take 1 := by
  unfold L2.cutS
  cases h : z.cps.toList with
  | nil => simp [h]
  | cons c r =>
    have hl : z.length = r.length + 1 := by show z.cps.size = _; rw [← Array.length_toList, h]; rfl
    have e1 : HT.sIx z.length 0 none = 0 := rfl
    have e2 : HT.sIx z.length z.length (some 1) = 1 := by rw [hl]; simp [HT.sIx]
    rw [e1, e2]
    simp [h]
theorem cut_rest (z : Str) : (L2.cutS z (some 1) none).cps.toList = z.cps.toList.drop 1 := by
  unfold L2.cutS
  have hz : z.length = z.cps.toList.length := by rw [Array.length_toList]; rfl
  cases h : z.cps.toList with
  | nil => simp [h]
  | cons c r =>
    have hl : z.length = r.length + 1 := by rw [hz, h]; rfl
    have e1 : HT.sIx z.length 0 (some 1) = 1 := by rw [hl]; simp [HT.sIx]
    have e2 : HT.sIx z.length z.length none = z.length := rfl
    rw [e1, e2, hl]
    simp [h]
theorem ten_cps : (Str.ofString "0123456789").cps.toList = [48, 49, 50, 51, 52, 53, 54, 55, 56, 57] := by decide +kernel
theorem ten_at {i c : Nat} : ([48, 49, 50, 51, 52, 53, 54, 55, 56, 57] : List Nat)[i]? = some c ↔ i < 10 ∧ c = 48 + i := by
  constructor
  · intro h
    have hi : i < 10 := by
      rcases Nat.lt_or_ge i 10 with h1 | h1
      · exact h1
      · rw [List.getElem?_eq_none (by simpa using h1)] at h; cases h
    refine ⟨hi, ?_⟩
    have : i = 0 ∨ i = 1 ∨ i = 2 ∨ i = 3 ∨ i = 4 ∨ i = 5 ∨ i = 6 ∨ i = 7 ∨ i = 8 ∨ i = 9 := by omega
    rcases this with e | e | e | e | e | e | e | e | e | e <;> subst e <;> simp at h <;> omega
  · rintro ⟨hi, rfl⟩
    have : i = 0 ∨ i = 1 ∨ i = 2 ∨ i = 3 ∨ i = 4 ∨ i = 5 ∨ i = 6 ∨ i = 7 ∨ i = 8 ∨ i = 9 := by omega
    rcases this with e | e | e | e | e | e | e | e | e | e <;> subst e <;> rfl
theorem fig_mem {c : Nat} : decide (c ∈ (Str.ofString "0123456789").cps.toList) = figB c := by
  rw [ten_cps]
  unfold figB
  refine decide_eq_decide.2 ?_
  simp
  omega
theorem find_fig (c : Nat) : Txt.find (Str.ofString "0123456789") ⟨#[c]⟩ = if figB c then (c : Int) - 48 else -1 := by
  unfold Txt.find
  have hat : ∀ i, StrLaws.At (Str.ofString "0123456789") ⟨#[c]⟩ (Str.ofString "0123456789").length i ↔ i < 10 ∧ c = 48 + i := fun i => by
    have := StrLaws.subAt_one (Str.ofString "0123456789") c i
    rw [ten_cps, ten_at] at this
    exact this
  rcases StrLaws.occ_head (Str.ofString "0123456789") ⟨#[c]⟩ 1 (by decide) with ⟨h, hn⟩ | ⟨i, r, h, hi, _⟩
  · rw [h]
    have : figB c = false := decide_eq_false fun ⟨h1, h2⟩ => hn (c - 48) ((hat _).2 (by omega))
    rw [this]; rfl
  · rw [h]
    have h1 := (hat i).1 hi
    have : figB c = true := decide_eq_true (by omega)
    rw [this]
    show (i : Int) = c - 48
    omega
theorem starts_minus (a : Str) : Txt.startswith a (Str.ofString "-") = decide (a.cps.toList.head? = some 45) := by
  unfold Txt.startswith
  have e : (Str.ofString "-") = ⟨#[45]⟩ := by decide +kernel
  have := StrLaws.subAt_one a 45 0
  rw [e]
  rw [Bool.eq_iff_iff, Bool.and_eq_true, decide_eq_true_iff, decide_eq_true_iff, this]
  cases a.cps.toList <;> simp
/-! ### a text's polynomial -/
def numS (a : Str) : Option Int := numL a.cps.toList
theorem numS_shown {a : Str} {n : Int} (h : numS a = some n) : (Str.ofString (toString n)) = a := by
  rw [num_shown h]
theorem numS_len {a : Str} {n : Int} (h : numS a = some n) : a.length ≤ 61 := by
  have e : a.length = a.cps.toList.length := by rw [Array.length_toList]; rfl
  unfold numS numL at h
  split at h
  · rename_i ok
    have := cutM_ge a.cps.toList
    have := ok.2.1
    omega
  · cases h
theorem eqv_str (a b : Str) : PyData.eqv (.str a) (.str b) = decide (a = b) := by unfold PyData.eqv; rw [Bool.beq_eq_decide_eq]
theorem str_ext {a b : Str} (h : a.cps.toList = b.cps.toList) : a = b := Str.ext' (Array.toList_inj.1 h)
theorem str_len (a : Str) : a.length = a.cps.toList.length := by rw [Array.length_toList]; rfl
theorem minus_one : (Str.ofString "-") = ⟨#[45]⟩ := by decide +kernel
theorem nought_one : (Str.ofString "0") = ⟨#[48]⟩ := by decide +kernel
theorem empty_cps : (Str.ofString "") = ⟨#[]⟩ := by decide +kernel
def rdN : PyData → Option Int
  | .str a => numS a | _ => none
def optD : Option Int → PyData
  | some n => .int n | none => .none
/-- what a text's words tell, all of them -/
def allN : List Str → Option (List Int)
  | [] => some []
  | w :: r => match numS w, allN r with | some n, some l => some (n :: l) | _, _ => none
def rdP : PyData → Option (List Int)
  | .str a => if (Txt.split a (Str.ofString ",")).length ≤ 13 then allN (Txt.split a (Str.ofString ",")) else none
  | _ => none
theorem split_joined (a : Str) : Str.join (Str.ofString ",") (Txt.split a (Str.ofString ",")) = a := StrLaws.join_split a _
theorem split_mem {a w : Str} (h : w ∈ Txt.split a (Str.ofString ",")) : w.length ≤ a.length := by
  have := PySem.join_mem_le (Str.ofString ",") _ _ h
  rwa [split_joined] at this
theorem join_many (sep : Str) (hs : 1 ≤ sep.length) : ∀ ts : List Str, ts.length ≤ (Str.join sep ts).length + 1
  | [] => by simp
  | [x] => by simp
  | x :: y :: r => by
    have ih := join_many sep hs (y :: r)
    show _ ≤ (x ++ sep ++ Str.join sep (y :: r)).length + 1
    rw [Str.length_append, Str.length_append]
    simp only [List.length_cons] at *
    omega
theorem split_many (a : Str) : (Txt.split a (Str.ofString ",")).length ≤ a.length + 1 := by
  have := join_many (Str.ofString ",") (by decide +kernel) (Txt.split a (Str.ofString ","))
  rwa [split_joined] at this
def okT (m : Nat) (d : PyData) : Prop := d ≠ .dict [] ∧ ∀ a, d = .str a → a.length ≤ m
def okTB (m : Nat) : PyData → Bool
  | .dict [] => false | .str a => decide (a.length ≤ m) | _ => true
theorem okT_of {m : Nat} {d : PyData} (h : okTB m d = true) : okT m d := by
  constructor
  · rintro rfl; cases h
  · rintro a rfl; exact of_decide_eq_true h
theorem allN_map : ∀ {ws : List Str} {l : List Int}, allN ws = some l → ws.map numS = l.map some
  | [], l, h => by cases h; rfl
  | w :: r, l, h => by
    unfold allN at h
    split at h
    · rename_i n l' h1 h2
      cases h
      rw [List.map_cons, List.map_cons, h1, allN_map h2]
    · cases h
theorem allN_none : ∀ {ws : List Str}, allN ws = none → none ∈ ws.map numS
  | [], h => by cases h
  | w :: r, h => by
    unfold allN at h
    cases h1 : numS w with
    | none => rw [List.map_cons, h1]; exact List.mem_cons_self
    | some n =>
      cases h2 : allN r with
      | none => exact List.mem_cons_of_mem _ (allN_none h2)
      | some l => rw [h1, h2] at h; cases h
theorem allN_small : ∀ {ws : List Str} {l : List Int}, allN ws = some l → ∀ n ∈ l, n.natAbs < 10 ^ 60
  | [], l, h => by cases h; intro n m; cases m
  | w :: r, l, h => by
    unfold allN at h
    split at h
    · rename_i n l' h1 h2
      cases h
      intro z m
      rcases List.mem_cons.1 m with rfl | m
      · exact num_small h1
      · exact allN_small h2 z m
    · cases h
theorem allN_shown : ∀ {ws : List Str} {l : List Int}, allN ws = some l → l.map (fun n => Str.ofString (toString n)) = ws
  | [], l, h => by cases h; rfl
  | w :: r, l, h => by
    unfold allN at h
    split at h
    · rename_i n l' h1 h2
      cases h
      rw [List.map_cons, numS_shown h1, allN_shown h2]
    · cases h
theorem allN_len {ws : List Str} {l : List Int} (h : allN ws = some l) : l.length = ws.length := by
  have := congrArg List.length (allN_map h)
  simpa using this.symm
theorem shown_len {n : Int} (h : n.natAbs < 10 ^ 60) : (Str.ofString (toString n)).length ≤ 61 := by
  have key : ∀ m : Nat, m < 10 ^ 60 → (Nat.repr m).toList.length ≤ 60 := fun m hm => by
    rw [Nat.toList_repr]
    exact (Nat.length_toDigits_le_iff (by decide) (by decide)).2 hm
  rw [str_len, Str.ofString_eq_toList]
  show ((toString n).toList.map Char.toNat).length ≤ 61
  rw [List.length_map]
  cases n with
  | ofNat m =>
    have := key m h
    show (Nat.repr m).toList.length ≤ 61
    omega
  | negSucc m =>
    have := key (m + 1) h
    show (("-" : String) ++ Nat.repr (m + 1)).toList.length ≤ 61
    rw [String.toList_append, List.length_append]
    show 1 + _ ≤ 61
    omega
theorem join_len {sep : Str} {m : Nat} (hs : sep.length ≤ 1) : ∀ {ts : List Str}, (∀ t ∈ ts, t.length ≤ m) → (Str.join sep ts).length ≤ ts.length * (m + 1)
  | [], _ => by simp [Str.join, Str.empty, Str.length]
  | [x], h => by
    have := h x List.mem_cons_self
    show x.length ≤ 1 * (m + 1)
    omega
  | x :: y :: r, h => by
    have ih := join_len hs (ts := y :: r) fun t k => h t (List.mem_cons_of_mem _ k)
    have := h x List.mem_cons_self
    show (x ++ sep ++ Str.join sep (y :: r)).length ≤ _
    rw [Str.length_append, Str.length_append]
    simp only [List.length_cons, Nat.succ_mul] at *
    omega
theorem atI_head {α : Type} (c : α) (r : List α) : L2.atI (c :: r) 0 = some c := by unfold L2.atI L2.ixN; simp
theorem numL_none {w : List Nat} (h : ¬ numOk w) : numL w = none := if_neg h
theorem numL_some {w : List Nat} (h : numOk w) : numL w = some (if cutM w = w then (valF (cutM w) : Int) else -(valF (cutM w) : Int)) := if_pos h
theorem is_nought {c : Nat} : (⟨#[c]⟩ : Str) = Str.ofString "0" ↔ c = 48 := by
  rw [nought_one]
  constructor
  · intro h; injection h with h; injection h with h; injection h
  · rintro rfl; rfl
theorem text_nought {a : Str} : a = Str.ofString "0" ↔ a.cps.toList = [48] := by
  rw [nought_one]
  exact ⟨fun h => by rw [h], fun h => str_ext h⟩
theorem text_empty {a : Str} : a = Str.ofString "" ↔ a.cps.toList = [] := by
  rw [empty_cps]
  exact ⟨fun h => by rw [h], fun h => str_ext h⟩
theorem cutM_tail {w : List Nat} (h : w.head? = some 45) : w.drop 1 = cutM w := by
  cases w with
  | nil => cases h
  | cons c r => simp at h; subst h; rfl
theorem rdP_str {a : Str} : rdP (.str a) = if (Txt.split a (Str.ofString ",")).length ≤ 13 then allN (Txt.split a (Str.ofString ",")) else none := rfl
theorem sIx_mid {n d : Nat} {k : Int} (h0 : 0 ≤ k) (h1 : k ≤ n) : HT.sIx n d (some k) = k.toNat := by
  simp only [HT.sIx]
  split <;> omega
theorem cut_to (z : Str) {k : Int} (h0 : 0 ≤ k) (h1 : k ≤ z.length) : (L2.cutS z none (some k)).length ≤ k.toNat := by
  unfold L2.cutS
  rw [sIx_mid h0 h1, show HT.sIx z.length 0 none = 0 from rfl]
  show ((List.take _ _).toArray).size ≤ _
  rw [List.size_toArray, List.length_take]
  omega
theorem cut_from (z : Str) {k : Int} (h0 : 0 ≤ k) (h1 : k ≤ z.length) : (L2.cutS z (some k) none).length ≤ z.length - k.toNat := by
  unfold L2.cutS
  rw [sIx_mid h0 h1, show HT.sIx z.length z.length none = z.length from rfl]
  show ((List.take _ _).toArray).size ≤ _
  rw [List.size_toArray, List.length_take]
  omega
theorem allN_cons (w : Str) (r : List Str) : allN (w :: r) = match numS w, allN r with | some n, some l => some (n :: l) | _, _ => none := rfl
theorem any_opts : ∀ ws : List Str, ((ws.map fun w => optD (numS w)).any fun z => PyData.eqv z .none) = decide (allN ws = none)
  | [] => rfl
  | w :: r => by
    rw [List.map_cons, List.any_cons, any_opts r, allN_cons]
    cases numS w with
    | none => simp [optD, PyData.eqv]
    | some n =>
      have e : PyData.eqv (optD (some n)) .none = false := by simp [optD, PyData.eqv]
      rw [e]
      cases allN r <;> simp
theorem canLay_opts : ∀ ns : List (Option Int), PyData.canLayAll0 (ns.map optD) = true
  | [] => by simp [PyData.canLayAll0]
  | n :: r => by
    rw [List.map_cons, PyData.canLayAll0, canLay_opts r]
    cases n <;> simp [PyData.canLay0, optD]
theorem depth_opts : ∀ ns : List (Option Int), PyData.depthAll (ns.map optD) ≤ 1
  | [] => by simp [PyData.depthAll]
  | n :: r => by
    have := depth_opts r
    rw [List.map_cons, PyData.depthAll]
    have : (optD n).depth ≤ 1 := by cases n <;> simp [PyData.depth, optD]
    omega
theorem shaped_opts (ws : List Str) : SeqAt.shaped (.list (ws.map fun w => optD (numS w))) = true := by
  have e : (ws.map fun w => optD (numS w)) = (ws.map numS).map optD := by rw [List.map_map]; rfl
  have := depth_opts (ws.map numS)
  have h2 := canLay_opts (ws.map numS)
  rw [e]
  simp only [SeqAt.shaped, PyData.canLay0, h2, PyData.depth, Bool.true_and]
  exact decide_eq_true (by omega)
end Pz

namespace Pz
open PySem PySem.Spec PyProof.Rows L2
theorem pow_dvd {p : Int} {a b : Nat} (h : a ≤ b) : p ^ a ∣ p ^ b := ⟨p ^ (b - a), by rw [← Int.pow_add]; congr 1; omega⟩
theorem ball_has {x a w : Int} : (x - a % w) % w = (x - a) % w := by rw [Int.sub_emod, Int.emod_emod, ← Int.sub_emod]
theorem ball_has1 {x a w : Int} : (x % w - a) % w = (x - a) % w := by rw [Int.sub_emod, Int.emod_emod, ← Int.sub_emod]
theorem ball_has2 {x y : Int} {p : Int} {e f : Nat} (h : f ≤ e) : (x % p ^ e - y % p ^ f) % p ^ f = (x - y) % p ^ f := by
  rw [ball_has, Int.sub_emod, Int.emod_emod_of_dvd _ (pow_dvd h), ← Int.sub_emod]
/-! ### steps -/
theorem ifB1 {z : Bool} {A B : Prop} (h : z = true) (a : A) : (z = true → A) ∧ (z = false → B) := ⟨fun _ => a, fun e => absurd (h.symm.trans e) (by decide)⟩
theorem ifB0 {z : Bool} {A B : Prop} (h : z = false) (b : B) : (z = true → A) ∧ (z = false → B) := ⟨fun e => absurd (h.symm.trans e) (by decide), fun _ => b⟩
theorem ifS {z : Bool} {A B : Prop} (h : (z = true → A) ∧ (z = false → B)) : (z = true → A) ∧ (z = false → B) := h
theorem ifD {p : Prop} [Decidable p] {A B : Prop} (a : p → A) (b : ¬ p → B) : (decide p = true → A) ∧ (decide p = false → B) := ⟨fun z => a (of_decide_eq_true z), fun z => b (of_decide_eq_false z)⟩
theorem ifN {p : Prop} [Decidable p] {A B : Prop} (a : ¬ p → A) (b : p → B) : ((!decide p) = true → A) ∧ ((!decide p) = false → B) := ⟨fun z => a (by simpa using z), fun z => b (by simpa using z)⟩
/-- what stands behind an if, once -/
theorem if_rest {z : Bool} {t u : RC} {D : PEnds} {ρ : Rho} (P : Rho → Prop) (k : ∀ N : Rho → Prop, (∀ ρ', P ρ' → N ρ') → (z = true → t { D with nx := N } ρ) ∧ (z = false → u { D with nx := N } ρ)) (rest : ∀ ρ', P ρ' → D.nx ρ') :
    (z = true → t D ρ) ∧ (z = false → u D ρ) := k D.nx rest
theorem res_lt {p : Int} (hp : 0 < p) (x : Int) (e : Nat) : 0 ≤ x % p ^ e ∧ x % p ^ e < p ^ e := ⟨Int.emod_nonneg _ (Int.ne_of_gt (Int.pow_pos hp)), Int.emod_lt_of_pos _ (Int.pow_pos hp)⟩
theorem ifPS {P A B : Prop} (h : (P → A) ∧ (¬ P → B)) : (P → A) ∧ (¬ P → B) := h
theorem ifP1 {P A B : Prop} (h : P) (a : A) : (P → A) ∧ (¬ P → B) := ⟨fun _ => a, fun z => absurd h z⟩
theorem ifP0 {P A B : Prop} (h : ¬ P) (b : B) : (P → A) ∧ (¬ P → B) := ⟨fun z => absurd z h, fun _ => b⟩
theorem qT {Q : PV → Prop} {b : Bool} (q : Q (.im (.bool true))) (h : b = true) : Q (.im (.bool b)) := by rw [h]; exact q
theorem not_t {z : Bool} (h : z = true) : (!z) = false := by rw [h]; rfl
theorem not_f {z : Bool} (h : z = false) : (!z) = true := by rw [h]; rfl
theorem Bt.add2 {a b : Nat} {x y : Int} (h : Bt a x) (k : Bt b y) : Bt (max a b + 1) (x + y) := (h.mono (Nat.le_max_left _ _)).add (k.mono (Nat.le_max_right _ _))
theorem Bt.sub2 {a b : Nat} {x y : Int} (h : Bt a x) (k : Bt b y) : Bt (max a b + 1) (x - y) := (h.mono (Nat.le_max_left _ _)).sub (k.mono (Nat.le_max_right _ _))
theorem Bt.powK {p : Int} {a e k : Nat} (h : Bt (a + 1) p) (he : e ≤ k) : Bt ((a + 1) * k + 1) (p ^ e) := (h.pow (Nat.succ_pos _) e).mono (Nat.add_le_add_right (Nat.mul_le_mul_left _ he) 1)
theorem RgC.up {i j c : Int} (hc : 0 < c) (hc' : c < 1000000) (ha : -(2 ^ 61) ≤ i) (ha' : i < 2 ^ 61) (hb : -(2 ^ 61) ≤ j) (hb' : j < 2 ^ 61) : L2.RgC i j c ((j - i + c - 1) / c).toNat := by
  have e : Builtin.Range.rangeSize i j c = (((j - i + c - 1) / c).toNat : Int) := by
    unfold Builtin.Range.rangeSize
    rw [if_pos (show c > 0 from hc)]
    by_cases h : i < j
    · rw [if_pos h]
      have e1 : (j - i + c - 1) / c = (j - i - 1) / c + 1 := by
        rw [show j - i + c - 1 = (j - i - 1) + 1 * c by omega, Int.add_mul_ediv_right _ _ (by omega)]
      have h0 : 0 ≤ (j - i - 1) / c := Int.ediv_nonneg (by omega) (by omega)
      omega
    · rw [if_neg h]
      have h0 : (j - i + c - 1) / c ≤ 0 := by
        have := Int.ediv_le_ediv (a := j - i + c - 1) (b := c - 1) hc (by omega)
        rw [show (c - 1) / c = 0 from Int.ediv_eq_zero_of_lt (by omega) (by omega)] at this
        exact this
      omega
  refine ⟨by omega, by omega, ?_, e⟩
  have h1 : ((j - i + c - 1) / c).toNat ≤ (j - i + c - 1).toNat + 1 := by
    by_cases h : 0 ≤ j - i + c - 1
    · have := Int.ediv_le_self c h
      omega
    · have : (j - i + c - 1) / c < 0 := Int.ediv_neg_of_neg_of_pos (by omega) hc
      omega
  unfold Builtin.Range.small
  rw [e]
  unfold Builtin.Range.rangeFitsLong
  rw [if_pos (show c > 0 from hc)]
  simp only [Bool.and_eq_true, decide_eq_true_eq, Bool.or_eq_true, beq_iff_eq]
  omega
theorem atc0 {a : PyData} {l : List PyData} {Q : PyData → Prop} (q : Q a) : ∃ d, atI (a :: l) 0 = some d ∧ Q d := at0.2 q
theorem atc1 {a b : PyData} {l : List PyData} {Q : PyData → Prop} (q : Q b) : ∃ d, atI (a :: b :: l) 1 = some d ∧ Q d := at1.2 q
theorem atc2 {a b c : PyData} {l : List PyData} {Q : PyData → Prop} (q : Q c) : ∃ d, atI (a :: b :: c :: l) 2 = some d ∧ Q d :=
  ⟨c, by unfold atI ixN; rw [if_pos (by decide), if_pos (by simp only [List.length_cons]; omega)]; rfl, q⟩
theorem atc3 {a b c e : PyData} {l : List PyData} {Q : PyData → Prop} (q : Q e) : ∃ d, atI (a :: b :: c :: e :: l) 3 = some d ∧ Q d :=
  ⟨e, by unfold atI ixN; rw [if_pos (by decide), if_pos (by simp only [List.length_cons]; omega)]; rfl, q⟩
theorem Bt.cpow {i j : Int} (a : 0 ≤ j) (b : j ≤ 1000000) (c : i.natAbs < 2 ^ 64) : L2.CPow i j := ⟨a, b, c⟩
def rgM (m c L : Int) : Int := if (if m < L then m else L) > c then (if m < L then m else L) else c
theorem rgM_le {m c L : Int} (h0 : 0 ≤ c) (h : c ≤ m) : 0 ≤ rgM m c L ∧ rgM m c L ≤ m := by
  unfold rgM
  split <;> split <;> omega
theorem rg_ok {m c L : Int} (h0 : 0 < c) (h : c ≤ m) (h2 : m ≤ 1000) : L2.RgC 0 (if (if m < L then m else L) > c then (if m < L then m else L) else c) c ((rgM m c L - 0 + c - 1) / c).toNat := by
  have := rgM_le (L := L) (Int.le_of_lt h0) h
  exact RgC.up h0 (by omega) (by decide) (by decide) (by show _ ≤ rgM m c L; omega) (by show rgM m c L < _; omega)
theorem rg_mem {m c L : Int} (h0 : 0 < c) (h : c ≤ m) {d : PyData} (hd : d ∈ upto ((rgM m c L - 0 + c - 1) / c).toNat fun k => .int (0 + (k : Nat) * c)) : ∃ k : Int, d = .int k ∧ 0 ≤ k ∧ k ≤ m := by
  obtain ⟨i, hi, rfl⟩ := upto_mem hd
  have := rgM_le (L := L) (Int.le_of_lt h0) h
  refine ⟨_, rfl, by have := Int.mul_nonneg (show (0 : Int) ≤ (i : Nat) by omega) (Int.le_of_lt h0); omega, ?_⟩
  have h3 : (i : Int) + 1 ≤ (rgM m c L - 0 + c - 1) / c := by omega
  have h4 := (Int.le_ediv_iff_mul_le h0).1 h3
  rw [Int.add_mul] at h4
  omega
theorem Bt.le {n : Nat} {x y : Int} (h : Bt n y) (h0 : 0 ≤ x) (h1 : x ≤ y) : Bt n x := h.of_le (by omega)
theorem Bt.pp {p : Int} {e : Nat} (n : Nat) (h : p.natAbs ≤ 127) (he : 7 * e + 1 ≤ n) : Bt n (p ^ e) := (Bt.pow (Bt.num (n := 7) (by omega)) (by decide) e).mono he
theorem lt_line {n : Nat} (h : n ≤ 1000) : n < sizeLine := small1000 h
theorem le_line {n : Nat} (h : n ≤ 1000) : n ≤ sizeLine := Nat.le_of_lt (small1000 h)
end Pz
namespace Pz
open PySem PySem.Spec PyProof.Rows L2
theorem cutD_take (ns : List Int) {k : Int} (h0 : 0 ≤ k) : cutD (ns.map PyData.int) none (some k) = (ns.take k.toNat).map PyData.int := by
  unfold cutD HT.sIx
  simp only [List.drop_zero, Nat.sub_zero, List.length_map]
  rw [if_neg (by omega), List.map_take]
  by_cases h : k.toNat ≤ ns.length
  · rw [Nat.min_eq_left h]
  · rw [Nat.min_eq_right (by omega), List.take_of_length_le (by simp), List.take_of_length_le (by simp; omega)]
theorem cutD_take2 {α : Type} (xs : List α) {k : Int} (h0 : 0 ≤ k) : cutD xs none (some k) = xs.take k.toNat := by
  unfold cutD HT.sIx
  simp only [List.drop_zero, Nat.sub_zero]
  rw [if_neg (by omega)]
  by_cases h : k.toNat ≤ xs.length
  · rw [Nat.min_eq_left h]
  · rw [Nat.min_eq_right (by omega), List.take_of_length_le (Nat.le_refl _), List.take_of_length_le (by omega)]
theorem cutD_drop {α : Type} (xs : List α) {k : Int} (h0 : 0 ≤ k) : cutD xs (some k) none = xs.drop k.toNat := by
  unfold cutD HT.sIx
  dsimp only
  rw [if_neg (by omega)]
  by_cases h : k.toNat ≤ xs.length
  · rw [Nat.min_eq_left h, List.take_of_length_le (by rw [List.length_drop]; exact Nat.le_refl _)]
  · rw [Nat.min_eq_right (by omega), List.drop_of_length_le (Nat.le_refl _), List.drop_of_length_le (by omega), List.take_nil]
/-- the law's cells: the script's first ones, or one nought -/
theorem cells_ok {ns : List Int} {m : Nat} (hb : ∀ z ∈ ns, Bt 1048576 z) (hm : 1 ≤ m) (h : ¬ ((cutD (ns.map PyData.int) none (some (m : Int))).length : Int) = 0) : ∃ cs : List Int, cutD (ns.map PyData.int) none (some (m : Int)) = cs.map PyData.int ∧ 1 ≤ cs.length ∧ cs.length ≤ m ∧ ∀ z ∈ cs, Bt 1048576 z := by
  rw [cutD_take2 _ (by omega), Int.toNat_natCast, ← List.map_take] at h ⊢
  rw [List.length_map] at h
  exact ⟨ns.take m, rfl, by omega, List.length_take_le _ _, fun z hz => hb z (List.mem_of_mem_take hz)⟩
theorem cells_no {m : Nat} (hm : 1 ≤ m) : ∃ cs : List Int, [PyData.int 0] = cs.map PyData.int ∧ 1 ≤ cs.length ∧ cs.length ≤ m ∧ ∀ z ∈ cs, Bt 1048576 z :=
  ⟨[0], rfl, by simp, by simp; omega, fun z hz => by rw [List.mem_singleton.1 hz]; exact (Bt.num (n := 1) (by decide)).mono (by decide)⟩
theorem rng_mem {n : Nat} {d : PyData} (h : d ∈ upto n fun i => .int i) : ∃ k : Int, d = .int k ∧ 0 ≤ k ∧ k < n := by
  obtain ⟨i, hi, rfl⟩ := upto_mem h
  exact ⟨i, rfl, by omega, by omega⟩
end Pz
namespace Pz
open PySem PySem.Spec PyProof.Rows L2
/-- what stands behind an if of two tests, once -/
theorem if_restA {z : Bool} {tb : RT} {ex : XW} {t u : RC} {D : PEnds} {ρ : Rho} (P : Rho → Prop)
    (k : ∀ N : Rho → Prop, (∀ ρ', P ρ' → N ρ') → (z = true → tb ex ρ fun b => (b = true → t { D with nx := N } ρ) ∧ (b = false → u { D with nx := N } ρ)) ∧ (z = false → (fun b => (b = true → t { D with nx := N } ρ) ∧ (b = false → u { D with nx := N } ρ)) false)) (rest : ∀ ρ', P ρ' → D.nx ρ') :
    (z = true → tb ex ρ fun b => (b = true → t D ρ) ∧ (b = false → u D ρ)) ∧ (z = false → (fun b => (b = true → t D ρ) ∧ (b = false → u D ρ)) false) := k D.nx rest
theorem if_restO {z : Bool} {tb : RT} {ex : XW} {t u : RC} {D : PEnds} {ρ : Rho} (P : Rho → Prop)
    (k : ∀ N : Rho → Prop, (∀ ρ', P ρ' → N ρ') → (z = true → (fun b => (b = true → t { D with nx := N } ρ) ∧ (b = false → u { D with nx := N } ρ)) true) ∧ (z = false → tb ex ρ fun b => (b = true → t { D with nx := N } ρ) ∧ (b = false → u { D with nx := N } ρ))) (rest : ∀ ρ', P ρ' → D.nx ρ') :
    (z = true → (fun b => (b = true → t D ρ) ∧ (b = false → u D ρ)) true) ∧ (z = false → tb ex ρ fun b => (b = true → t D ρ) ∧ (b = false → u D ρ)) := k D.nx rest
theorem seq_rest {t u : RC} {D : PEnds} {ρ : Rho} (P : Rho → Prop) (k : ∀ N : Rho → Prop, (∀ ρ', P ρ' → N ρ') → t { D with nx := N } ρ) (rest : ∀ ρ', P ρ' → u D ρ') : rSeq t u D ρ := k _ rest
theorem int_bool {p : Prop} [Decidable p] : (0 : Int) ≤ (if decide p = true then 1 else 0) ∧ (if decide p = true then (1 : Int) else 0) ≤ 1 := by split <;> omega
end Pz
namespace Pz
open PySem PySem.Spec PyProof.Rows L2
/-- == and != of lists of ints -/
theorem eq_li {xs ys : List PyData} (as bs : List Int) {Q : Bool → Prop} (h1 : xs = as.map .int) (h2 : ys = bs.map .int) (q : Q (decide (as = bs))) :
    SeqAt.shaped (.list xs) = true ∧ SeqAt.shaped (.list ys) = true ∧ Q (PyData.eqv (.list xs) (.list ys)) := by
  subst h1 h2
  refine ⟨shaped_lints as, shaped_lints bs, ?_⟩
  rw [eqv_lints]
  exact q
theorem ne_li {xs ys : List PyData} (as bs : List Int) {Q : Bool → Prop} (h1 : xs = as.map .int) (h2 : ys = bs.map .int) (q : Q (!decide (as = bs))) :
    SeqAt.shaped (.list xs) = true ∧ SeqAt.shaped (.list ys) = true ∧ Q (!PyData.eqv (.list xs) (.list ys)) := by
  subst h1 h2
  refine ⟨shaped_lints as, shaped_lints bs, ?_⟩
  rw [eqv_lints]
  exact q
end Pz

namespace Pz
open PySem PySem.Spec PyProof.Rows L2
/-! ### the depth of a number: how often p goes into it -/
/-- by fuel -/
def depF (p : Int) : Nat → Int → Nat
  | 0, _ => 0
  | n + 1, x => if x % p = 0 then depF p n (x / p) + 1 else 0
def dep (p x : Int) : Nat := depF p x.natAbs x
theorem div_lt {p x : Int} (hp : 2 ≤ p) (hx : x ≠ 0) (h : x % p = 0) : (x / p).natAbs < x.natAbs ∧ x / p ≠ 0 := by
  obtain ⟨c, rfl⟩ := Int.dvd_of_emod_eq_zero h
  rw [Int.mul_ediv_cancel_left _ (by omega)]
  have hc : c ≠ 0 := by rintro rfl; simp at hx
  refine ⟨?_, hc⟩
  rw [Int.natAbs_mul]
  have h1 : 1 ≤ c.natAbs := by omega
  have h2 : 2 ≤ p.natAbs := by omega
  calc c.natAbs < 2 * c.natAbs := by omega
    _ ≤ p.natAbs * c.natAbs := Nat.mul_le_mul_right _ h2
theorem depF_eq {p : Int} (hp : 2 ≤ p) : ∀ (n m : Nat) (x : Int), x ≠ 0 → x.natAbs ≤ n → x.natAbs ≤ m → depF p n x = depF p m x
  | 0, _, x, h, h1, _ => absurd h1 (by omega)
  | _ + 1, 0, x, h, _, h1 => absurd h1 (by omega)
  | n + 1, m + 1, x, h, h1, h2 => by
    unfold depF
    by_cases e : x % p = 0
    · rw [if_pos e, if_pos e]
      obtain ⟨d1, d2⟩ := div_lt hp h e
      rw [depF_eq hp n m (x / p) d2 (by omega) (by omega)]
    · rw [if_neg e, if_neg e]
theorem dep_div {p x : Int} (hp : 2 ≤ p) (h : x ≠ 0) (e : x % p = 0) : dep p x = dep p (x / p) + 1 := by
  obtain ⟨d1, d2⟩ := div_lt hp h e
  show depF p x.natAbs x = _
  obtain ⟨n, hn⟩ : ∃ n, x.natAbs = n + 1 := ⟨x.natAbs - 1, by omega⟩
  rw [hn]
  conv => lhs; unfold depF
  rw [if_pos e]
  congr 1
  exact depF_eq hp _ _ _ d2 (by omega) (by omega)
theorem dep_no {p x : Int} (h : x ≠ 0) (e : x % p ≠ 0) : dep p x = 0 := by
  show depF p x.natAbs x = _
  obtain ⟨n, hn⟩ : ∃ n, x.natAbs = n + 1 := ⟨x.natAbs - 1, by omega⟩
  rw [hn]
  unfold depF
  rw [if_neg e]
/-- what is left -/
def unt (p x : Int) : Int := x / p ^ dep p x
theorem dep_dvd {p : Int} (hp : 2 ≤ p) : ∀ (n : Nat) (x : Int), x.natAbs ≤ n → x ≠ 0 → p ^ dep p x ∣ x
  | 0, x, h, hx => absurd h (by omega)
  | n + 1, x, h, hx => by
    by_cases e : x % p = 0
    · obtain ⟨d1, d2⟩ := div_lt hp hx e
      rw [dep_div hp hx e, Int.pow_succ, Int.mul_comm]
      obtain ⟨c, hc⟩ := dep_dvd hp n (x / p) (by omega) d2
      refine ⟨c, ?_⟩
      rw [Int.mul_assoc, ← hc, Int.mul_ediv_cancel' (Int.dvd_of_emod_eq_zero e)]
    · rw [dep_no hx e]; simp
theorem dep_pow_dvd {p x : Int} (hp : 2 ≤ p) (hx : x ≠ 0) : p ^ dep p x ∣ x := dep_dvd hp _ x (Nat.le_refl _) hx
theorem dep_ge {p : Int} (hp : 2 ≤ p) : ∀ (k : Nat) (x : Int), x ≠ 0 → p ^ k ∣ x → k ≤ dep p x
  | 0, x, hx, _ => Nat.zero_le _
  | k + 1, x, hx, h => by
    have e : x % p = 0 := Int.emod_eq_zero_of_dvd (Int.dvd_trans ⟨p ^ k, by rw [Int.pow_succ, Int.mul_comm]⟩ h)
    obtain ⟨d1, d2⟩ := div_lt hp hx e
    rw [dep_div hp hx e]
    refine Nat.succ_le_succ (dep_ge hp k _ d2 ?_)
    obtain ⟨c, hc⟩ := h
    refine ⟨c, ?_⟩
    rw [hc, Int.pow_succ, Int.mul_comm (p ^ k) p, Int.mul_assoc, Int.mul_ediv_cancel_left _ (by omega)]
/-- the depth, told by divisibility -/
theorem dvd_iff_dep {p x : Int} (hp : 2 ≤ p) (hx : x ≠ 0) (k : Nat) : p ^ k ∣ x ↔ k ≤ dep p x :=
  ⟨dep_ge hp k x hx, fun h => Int.dvd_trans (pow_dvd h) (dep_pow_dvd hp hx)⟩
theorem unt_mul {p x : Int} (hp : 2 ≤ p) (hx : x ≠ 0) : p ^ dep p x * unt p x = x := Int.mul_ediv_cancel' (dep_pow_dvd hp hx)
theorem unt_ne {p x : Int} (hp : 2 ≤ p) (hx : x ≠ 0) : unt p x ≠ 0 := fun h => hx (by rw [← unt_mul hp hx, h, Int.mul_zero])
theorem unt_not {p x : Int} (hp : 2 ≤ p) (hx : x ≠ 0) : unt p x % p ≠ 0 := fun h => by
  obtain ⟨c, hc⟩ := Int.dvd_of_emod_eq_zero h
  have h1 : p ^ (dep p x + 1) ∣ x := ⟨c, by rw [Int.pow_succ, Int.mul_assoc, ← hc, unt_mul hp hx]⟩
  have := dep_ge hp _ x hx h1
  omega
/-- the depth and the unit are the only ones -/
theorem dep_unt {p x u : Int} {d : Nat} (hp : 2 ≤ p) (h : x = p ^ d * u) (hu : u % p ≠ 0) : dep p x = d ∧ unt p x = u := by
  have hu0 : u ≠ 0 := by rintro rfl; simp at hu
  have hpd : p ^ d ≠ 0 := Int.ne_of_gt (Int.pow_pos (by omega))
  have hx : x ≠ 0 := by rw [h]; exact Int.mul_ne_zero hpd hu0
  have h1 : d ≤ dep p x := dep_ge hp d x hx ⟨u, h⟩
  have h2 : dep p x = d := by
    rcases Nat.lt_or_ge d (dep p x) with h3 | h3
    · exfalso
      obtain ⟨c, hc⟩ := (dvd_iff_dep hp hx (d + 1)).2 h3
      apply hu
      rw [h, Int.pow_succ, Int.mul_assoc] at hc
      rw [Int.eq_of_mul_eq_mul_left hpd hc]
      exact Int.mul_emod_right _ _
    · omega
  refine ⟨h2, ?_⟩
  unfold unt
  rw [h2, h, Int.mul_ediv_cancel_left _ hpd]
theorem dep_neg {p x : Int} (hp : 2 ≤ p) (hx : x ≠ 0) : dep p (-x) = dep p x := by
  have h1 := dep_ge hp _ (-x) (by omega) (Int.dvd_neg.2 (dep_pow_dvd hp hx))
  have h2 := dep_ge hp _ x hx (by have := dep_pow_dvd (p := p) (x := -x) hp (by omega); rwa [Int.dvd_neg] at this)
  omega
/-- how deep a number can be -/
theorem dep_lt {p x : Int} (hp : 2 ≤ p) (hx : x ≠ 0) : 2 ^ dep p x ≤ x.natAbs := by
  have h1 := dep_pow_dvd hp hx
  have h2 : (p ^ dep p x).natAbs ≤ x.natAbs := Nat.le_of_dvd (by omega) (Int.natAbs_dvd_natAbs.2 h1)
  rw [Int.natAbs_pow] at h2
  exact Nat.le_trans (Nat.pow_le_pow_left (by omega) _) h2
theorem dep_bt {p x : Int} {n : Nat} (hp : 2 ≤ p) (hx : x ≠ 0) (h : Bt n x) : dep p x < n := by
  have h1 := dep_lt hp hx
  have h2 := h.out
  exact (Nat.pow_lt_pow_iff_right (by decide)).1 (Nat.lt_of_le_of_lt h1 h2)
/-- depth up to a bound, of any number -/
def depB (p x : Int) (n : Nat) : Nat := if x = 0 then n else min n (dep p x)
theorem dvd_iff_depB {p x : Int} (hp : 2 ≤ p) {n k : Nat} (hk : k ≤ n) : p ^ k ∣ x ↔ k ≤ depB p x n := by
  unfold depB
  by_cases h : x = 0
  · subst h; simp [hk]
  · rw [if_neg h, dvd_iff_dep hp h]; omega
end Pz

namespace Pz
open PySem PySem.Spec PyProof.Rows L2
/-- one more number: how deep it agrees with the first one, as far as e -/
def lst1 (p c e x : Int) : Int := if x - c = 0 then e else if e < (dep p (x - c) : Int) then e else (dep p (x - c) : Int)
def lstE (p c : Int) (xs : List Int) (e : Int) : Int := xs.foldl (lst1 p c) e
theorem lst1_iff {p c e x : Int} (hp : 2 ≤ p) (he : 0 ≤ e) (k : Nat) : (k : Int) ≤ lst1 p c e x ↔ (k : Int) ≤ e ∧ p ^ k ∣ x - c := by
  unfold lst1
  by_cases h : x - c = 0
  · rw [if_pos h, h]
    exact ⟨fun z => ⟨z, Int.dvd_zero _⟩, fun z => z.1⟩
  · rw [if_neg h, dvd_iff_dep hp h]
    split <;> omega
theorem lst1_nn {p c e x : Int} (he : 0 ≤ e) : 0 ≤ lst1 p c e x ∧ lst1 p c e x ≤ e := by
  unfold lst1
  split
  · omega
  · split <;> omega
theorem lstE_nn {p c : Int} : ∀ (xs : List Int) (e : Int), 0 ≤ e → 0 ≤ lstE p c xs e ∧ lstE p c xs e ≤ e
  | [], e, he => ⟨he, Int.le_refl _⟩
  | x :: xs, e, he => by
    obtain ⟨h1, h2⟩ := lst1_nn (p := p) (c := c) (x := x) he
    obtain ⟨h3, h4⟩ := lstE_nn (p := p) (c := c) xs _ h1
    exact ⟨h3, Int.le_trans h4 h2⟩
theorem lstE_iff {p c : Int} (hp : 2 ≤ p) : ∀ (xs : List Int) (e : Int), 0 ≤ e → ∀ k : Nat, (k : Int) ≤ lstE p c xs e ↔ (k : Int) ≤ e ∧ ∀ x ∈ xs, p ^ k ∣ x - c
  | [], e, he, k => ⟨fun h => ⟨h, fun _ z => nomatch z⟩, fun h => h.1⟩
  | x :: xs, e, he, k => by
    obtain ⟨h1, h2⟩ := lst1_nn (p := p) (c := c) (x := x) he
    rw [show lstE p c (x :: xs) e = lstE p c xs (lst1 p c e x) from rfl, lstE_iff hp xs _ h1 k, lst1_iff hp he]
    simp only [List.mem_cons, forall_eq_or_imp, and_assoc]
theorem lstE_eq {p c : Int} (hp : 2 ≤ p) {xs : List Int} {e m : Int} (he : 0 ≤ e) (hm : 0 ≤ m) (h : ∀ k : Nat, (k : Int) ≤ m ↔ (k : Int) ≤ e ∧ ∀ x ∈ xs, p ^ k ∣ x - c) : lstE p c xs e = m := by
  obtain ⟨h1, _⟩ := lstE_nn (p := p) (c := c) xs e he
  have a := (lstE_iff (c := c) hp xs e he (lstE p c xs e).toNat).1 (by omega)
  have b := (h _).2 a
  have a2 := (h m.toNat).1 (by omega)
  have b2 := (lstE_iff (c := c) hp xs e he _).2 a2
  omega
end Pz
namespace Pz
open PySem PySem.Spec PyProof.Rows L2
theorem atI0 {c : Int} {xs : List Int} {L : List PyData} (h : (c :: xs).map PyData.int = L) {Q : PyData → Prop} (q : Q (.int c)) : ∃ d, atI L 0 = some d ∧ Q d := by subst h; exact at0.2 q
end Pz
namespace Pz
open PySem PySem.Spec PyProof.Rows L2
theorem lst4 {p c x1 x2 x3 m : Int} (hp : 2 ≤ p) (hm : 0 ≤ m) (h : ∀ k : Nat, (k : Int) ≤ m ↔ (k : Int) ≤ 60 ∧ p ^ k ∣ x1 - c ∧ p ^ k ∣ x2 - c ∧ p ^ k ∣ x3 - c) : lstE p c [c, x1, x2, x3] 60 = m := by
  refine lstE_eq hp (by decide) hm fun k => ?_
  rw [h k]
  simp [Int.sub_self, Int.dvd_zero]
theorem dvd_pow_iff {p : Int} (hp : 2 ≤ p) {k e : Nat} : p ^ k ∣ p ^ e ↔ k ≤ e := by
  have h1 : dep p (p ^ e) = e := (dep_unt hp (u := 1) (by rw [Int.mul_one]) (by rw [Int.emod_eq_of_lt (by decide) (by omega)]; decide)).1
  rw [dvd_iff_dep hp (Int.ne_of_gt (Int.pow_pos (by omega))), h1]
theorem dvd_pmul_iff {p b : Int} (hp : 2 ≤ p) {k e : Nat} : p ^ k ∣ p ^ e * b ↔ (b ≠ 0 → k ≤ e + dep p b) := by
  by_cases hb : b = 0
  · subst hb; simp [Int.dvd_zero]
  · have hpe : p ^ e ≠ 0 := Int.ne_of_gt (Int.pow_pos (by omega))
    have h1 : dep p (p ^ e * b) = e + dep p b := by
      refine (dep_unt hp (u := unt p b) ?_ (unt_not hp hb)).1
      rw [Int.pow_add, Int.mul_assoc, unt_mul hp hb]
    rw [dvd_iff_dep hp (Int.mul_ne_zero hpe hb), h1]
    exact ⟨fun h _ => h, fun h => h hb⟩
theorem dep_lt_of_lt {p b : Int} {f : Nat} (hp : 2 ≤ p) (h0 : 0 ≤ b) (h1 : b < p ^ f) (hb : b ≠ 0) : dep p b < f := by
  have h2 := Int.le_of_dvd (by omega) (dep_pow_dvd hp hb)
  have h3 : p ^ dep p b < p ^ f := by omega
  rcases Nat.lt_or_ge (dep p b) f with h | h
  · exact h
  · have := Int.le_of_dvd (Int.pow_pos (by omega)) (pow_dvd (p := p) h)
    omega
def cdep (p a e : Int) : Int := if a = 0 then e else (dep p a : Int)
def pdep (p a e b f : Int) : Int := if f + cdep p a e < e + cdep p b f then f + cdep p a e else e + cdep p b f
theorem least_sum {p a b x1 x2 x3 e f : Int} (hp : 2 ≤ p) (he : 0 ≤ e ∧ e ≤ 60) (hf : 0 ≤ f ∧ f ≤ 60) {c : Int} (h1 : x1 - c = p ^ e.toNat) (h2 : x2 - c = p ^ f.toNat ∨ x2 - c = - p ^ f.toNat) (h3 : x3 - c = (x1 - c) + (x2 - c)) :
    lstE p c [c, x1, x2, x3] 60 = if f < e then f else e := by
  refine lst4 hp (by split <;> omega) fun k => ?_
  have e2 : p ^ k ∣ x2 - c ↔ k ≤ f.toNat := by
    rcases h2 with h2 | h2
    · rw [h2, dvd_pow_iff hp]
    · rw [h2, Int.dvd_neg, dvd_pow_iff hp]
  have e1 : p ^ k ∣ x1 - c ↔ k ≤ e.toNat := by rw [h1, dvd_pow_iff hp]
  constructor
  · intro h
    have k1 : k ≤ e.toNat := by split at h <;> omega
    have k2 : k ≤ f.toNat := by split at h <;> omega
    exact ⟨by omega, e1.2 k1, e2.2 k2, by rw [h3]; exact Int.dvd_add (e1.2 k1) (e2.2 k2)⟩
  · rintro ⟨h, k1, k2, _⟩
    have := e1.1 k1
    have := e2.1 k2
    split <;> omega
theorem least_mul {p a b e f : Int} (hp : 2 ≤ p) (he : 0 ≤ e ∧ e ≤ 60) (hf : 0 ≤ f ∧ f ≤ 60) (ha : 0 ≤ a ∧ a < p ^ e.toNat) (hb : 0 ≤ b ∧ b < p ^ f.toNat) :
    lstE p (a * b) [a * b, (a + p ^ e.toNat) * b, a * (b + p ^ f.toNat), (a + p ^ e.toNat) * (b + p ^ f.toNat)] 60 = if (60 : Int) < pdep p a e b f then 60 else pdep p a e b f := by
  have ca : 0 ≤ cdep p a e := by unfold cdep; split <;> omega
  have cb : 0 ≤ cdep p b f := by unfold cdep; split <;> omega
  have hd : 0 ≤ pdep p a e b f := by unfold pdep; split <;> omega
  refine lst4 hp (by split <;> omega) fun k => ?_
  have e1 : p ^ k ∣ (a + p ^ e.toNat) * b - a * b ↔ (b ≠ 0 → k ≤ e.toNat + dep p b) := by
    rw [show (a + p ^ e.toNat) * b - a * b = p ^ e.toNat * b by grind, dvd_pmul_iff hp]
  have e2 : p ^ k ∣ a * (b + p ^ f.toNat) - a * b ↔ (a ≠ 0 → k ≤ f.toNat + dep p a) := by
    rw [show a * (b + p ^ f.toNat) - a * b = p ^ f.toNat * a by grind, dvd_pmul_iff hp]
  have e3 : p ^ k ∣ p ^ (e.toNat + f.toNat) ↔ k ≤ e.toNat + f.toNat := dvd_pow_iff hp
  have e4 : (a + p ^ e.toNat) * (b + p ^ f.toNat) - a * b = ((a + p ^ e.toNat) * b - a * b) + (a * (b + p ^ f.toNat) - a * b) + p ^ (e.toNat + f.toNat) := by rw [Int.pow_add]; grind
  have l1 : b ≠ 0 → dep p b < f.toNat := dep_lt_of_lt hp hb.1 hb.2
  have l2 : a ≠ 0 → dep p a < e.toNat := dep_lt_of_lt hp ha.1 ha.2
  have key : (k : Int) ≤ pdep p a e b f ↔ (b ≠ 0 → k ≤ e.toNat + dep p b) ∧ (a ≠ 0 → k ≤ f.toNat + dep p a) ∧ k ≤ e.toNat + f.toNat := by
    unfold pdep cdep
    by_cases za : a = 0
    · by_cases zb : b = 0
      · simp only [za, zb, if_true, ne_eq, not_true_eq_false, false_implies, true_and]; split <;> omega
      · have := l1 zb
        simp only [za, zb, if_true, if_false, ne_eq, not_true_eq_false, not_false_eq_true, true_implies, false_implies, true_and]; split <;> omega
    · have := l2 za
      by_cases zb : b = 0
      · simp only [za, zb, if_true, if_false, ne_eq, not_true_eq_false, not_false_eq_true, true_implies, false_implies, true_and]; split <;> omega
      · have := l1 zb
        simp only [za, zb, if_false, ne_eq, not_false_eq_true, true_implies]; split <;> omega
  constructor
  · intro h
    have h6 : (k : Int) ≤ pdep p a e b f := by split at h <;> omega
    obtain ⟨k1, k2, k3⟩ := key.1 h6
    refine ⟨by split at h <;> omega, e1.2 k1, e2.2 k2, ?_⟩
    rw [e4]
    exact Int.dvd_add (Int.dvd_add (e1.2 k1) (e2.2 k2)) (e3.2 k3)
  · rintro ⟨h, k1, k2, k3⟩
    rw [e4] at k3
    have k4 := (Int.dvd_add_right (Int.dvd_add k1 k2)).1 k3
    have := key.2 ⟨e1.1 k1, e2.1 k2, e3.1 k4⟩
    split <;> omega
end Pz
namespace Pz
open PySem PySem.Spec PyProof.Rows L2
theorem pdep_comm (p a e b f : Int) : pdep p b f a e = pdep p a e b f := by
  unfold pdep
  split <;> split <;> omega
end Pz

namespace Pz
open PySem PySem.Spec PyProof.Rows L2
/-! ### [k for k in range(len(some)) if some[k]] -/
def tIdx (i : Nat) : List Bool → List PyData
  | [] => []
  | b :: r => if b = true then .int (i : Nat) :: tIdx (i + 1) r else tIdx (i + 1) r
theorem atI_mid {pre r : List PyData} {x : PyData} : L2.atI (pre ++ x :: r) (pre.length : Nat) = some x := by
  unfold L2.atI L2.ixN
  rw [if_pos (by omega), if_pos (by simp; omega)]
  simp
theorem lc_kinds {s v : Nat} {bs : List Bool} {ρ : Rho} {Q : PV → Prop} (hs : ρ[s]? = some (.im (.list (bs.map .bool)))) (hv : v ≠ s) (hl : v < ρ.length) :
    ∀ (suf pre : List Bool) (acc : List PyData), bs = pre ++ suf → Q (.ow (.ls (acc ++ tIdx pre.length suf))) → lcR (Tgt.nm v).go (rTV (rOp gIx (rVar s) (rVar v))) (rVar v) ρ ((List.range' pre.length suf.length).map fun i => .int (i : Nat)) acc Q
  | [], pre, acc, e, q => by
    simp only [tIdx, List.append_nil] at q
    exact q
  | b :: r, pre, acc, e, q => by
    have ih := lc_kinds (Q := Q) hs hv hl r (pre ++ [b])
    simp only [List.length_append, List.length_singleton] at ih
    show (Tgt.nm v).go (.int (pre.length : Nat)) ρ _
    show rTV (rOp gIx (rVar s) (rVar v)) _ (ρ.set v (.im (.int (pre.length : Nat)))) _
    have h1 : (ρ.set v (PV.im (.int (pre.length : Nat))))[s]? = some (.im (.list (bs.map .bool))) := by rw [List.getElem?_set_ne hv]; exact hs
    have h2 : (ρ.set v (PV.im (.int (pre.length : Nat))))[v]? = some (.im (.int (pre.length : Nat))) := List.getElem?_set_self hl
    unfold rTV rOp rVar
    rw [h1, h2]
    refine ⟨.bool b, ?_, ?_⟩
    · rw [e, List.map_append, List.map_cons]
      have := atI_mid (pre := pre.map PyData.bool) (r := r.map .bool) (x := .bool b)
      rwa [List.length_map] at this
    · show (b = true → _) ∧ (b = false → _)
      refine ⟨fun z => ?_, fun z => ?_⟩
      · subst z
        refine ih _ (by rw [e]; simp) ?_
        simpa [tIdx, List.append_assoc] using q
      · subst z
        refine ih _ (by rw [e]; simp) ?_
        simpa [tIdx] using q
theorem rLc_kinds {s v : Nat} {bs : List Bool} {ex : XW} {ρ : Rho} {Q : PV → Prop} (hs : ρ[s]? = some (.im (.list (bs.map .bool)))) (hv : v ≠ s) (hl : v < ρ.length) (hb : bs.length ≤ 1000) (q : Q (.ow (.ls (tIdx 0 bs)))) :
    rLc (rRng1 (rFn1 gLen (rVar s))) (.nm v) (rTV (rOp gIx (rVar s) (rVar v))) (rVar v) [v] ex ρ Q := by
  unfold rLc rRng1 rFn1 rVar
  rw [hs]
  show (_ ∧ _) ∧ _
  rw [List.length_map]
  refine ⟨⟨by omega, by omega⟩, ?_⟩
  refine ⟨by rw [upto_len]; exact le_line (by omega), ?_⟩
  rw [lcL_eq]
  have hs' : (wipeP ρ [v])[s]? = some (.im (.list (bs.map .bool))) := by show (ρ.set v .un)[s]? = _; rw [List.getElem?_set_ne hv]; exact hs
  have := lc_kinds (Q := Q) hs' hv (by show v < (ρ.set v .un).length; rw [List.length_set]; exact hl) bs [] [] rfl (by simpa using q)
  rw [Int.toNat_natCast]
  unfold upto
  rw [List.range_eq_range']
  exact this
end Pz
namespace Pz
open PySem PySem.Spec PyProof.Rows L2
theorem seq2_rest {a t u : RC} {D : PEnds} {ρ : Rho} (P : Rho → Prop) (k : ∀ N : Rho → Prop, (∀ ρ', P ρ' → N ρ') → rSeq a t { D with nx := N } ρ) (rest : ∀ ρ', P ρ' → u D ρ') : rSeq a (rSeq t u) D ρ := k (fun ρ' => u D ρ') rest
theorem seq3_rest {a b t u : RC} {D : PEnds} {ρ : Rho} (P : Rho → Prop) (k : ∀ N : Rho → Prop, (∀ ρ', P ρ' → N ρ') → rSeq a (rSeq b t) { D with nx := N } ρ) (rest : ∀ ρ', P ρ' → u D ρ') : rSeq a (rSeq b (rSeq t u)) D ρ := k (fun ρ' => u D ρ') rest
theorem seq4_rest {a b c t u : RC} {D : PEnds} {ρ : Rho} (P : Rho → Prop) (k : ∀ N : Rho → Prop, (∀ ρ', P ρ' → N ρ') → rSeq a (rSeq b (rSeq c t)) { D with nx := N } ρ) (rest : ∀ ρ', P ρ' → u D ρ') : rSeq a (rSeq b (rSeq c (rSeq t u))) D ρ := k (fun ρ' => u D ρ') rest
end Pz

namespace Pz
open PySem PySem.Spec PyProof.Rows L2
/-! ### marks, ways and sides -/
abbrev Pt := Int × Int
def ptD (a : Pt) : PyData := .tuple [.int a.1, .int a.2]
def marksF (p : Int) : Nat → List Int → List Pt
  | _, [] => []
  | k, x :: r => if x = 0 then marksF p (k + 1) r else ((k : Int), (dep p x : Int)) :: marksF p (k + 1) r
def bends (a b c : Pt) : Bool := decide ((b.2 - a.2) * (c.1 - b.1) < (c.2 - b.2) * (b.1 - a.1))
/-- the way, its last mark first -/
def popW (m : Pt) : List Pt → List Pt
  | a :: b :: r => if bends b a m = true then a :: b :: r else popW m (b :: r)
  | s => s
def hull (ms : List Pt) : List Pt := ms.foldl (fun st m => m :: popW m st) []
def sides : List Pt → List Pt
  | a :: b :: r => (b.1 - a.1, b.2 - a.2) :: sides (b :: r)
  | _ => []
def border (p : Int) (f : List Int) : List Pt := sides (hull (marksF p 0 f)).reverse
/-! ### == of lists of pairs -/
theorem eqvAll_pts : ∀ xs ys : List Pt, PyData.eqvAll (xs.map ptD) (ys.map ptD) = decide (xs = ys)
  | [], [] => by simp [PyData.eqvAll]
  | [], _ :: _ => by simp [PyData.eqvAll]
  | _ :: _, [] => by simp [PyData.eqvAll]
  | x :: xs, y :: ys => by
    rw [List.map_cons, List.map_cons]
    unfold PyData.eqvAll
    rw [show ptD x = .tuple [.int x.1, .int x.2] from rfl, show ptD y = .tuple [.int y.1, .int y.2] from rfl, eqv_pair, eqvAll_pts xs ys]
    obtain ⟨a, b⟩ := x
    obtain ⟨c, d⟩ := y
    simp only [List.cons.injEq, Prod.mk.injEq, Bool.decide_and]
theorem eqv_lpts (xs ys : List Pt) : PyData.eqv (.list (xs.map ptD)) (.list (ys.map ptD)) = decide (xs = ys) := by unfold PyData.eqv; exact eqvAll_pts xs ys
theorem canLayAll_pts : ∀ xs : List Pt, PyData.canLayAll0 (xs.map ptD) = true
  | [] => by simp [PyData.canLayAll0]
  | x :: xs => by
    have := canLayAll_pts xs
    simp [PyData.canLayAll0, PyData.canLay0, ptD]
    exact this
theorem depthAll_pts : ∀ xs : List Pt, PyData.depthAll (xs.map ptD) ≤ 3
  | [] => by simp [PyData.depthAll]
  | x :: xs => by
    have := depthAll_pts xs
    simp only [List.map_cons, PyData.depthAll, PyData.depth, ptD]
    omega
theorem shaped_lpts (xs : List Pt) : SeqAt.shaped (.list (xs.map ptD)) = true := by
  have := depthAll_pts xs
  have h2 := canLayAll_pts xs
  simp only [SeqAt.shaped, PyData.canLay0, h2, PyData.depth, Bool.true_and]
  exact decide_eq_true (by omega)
/-! ### places -/
theorem at_back1 {α : Type} {xs : List α} {a : α} : L2.atI (xs ++ [a]) (-1) = some a := by
  unfold L2.atI L2.ixN
  rw [if_neg (by decide), if_pos (by simp; omega)]
  simp only [List.length_append, List.length_cons, List.length_nil]
  show (xs ++ [a])[(-1 + ((xs.length + (0 + 1) : Nat) : Int)).toNat]? = _
  rw [show (-1 + ((xs.length + (0 + 1) : Nat) : Int)).toNat = xs.length by omega]
  simp
theorem at_back2 {α : Type} {xs : List α} {a b : α} : L2.atI (xs ++ [b, a]) (-2) = some b := by
  unfold L2.atI L2.ixN
  rw [if_neg (by decide), if_pos (by simp; omega)]
  simp only [List.length_append, List.length_cons, List.length_nil]
  show (xs ++ [b, a])[(-2 + ((xs.length + (0 + 1 + 1) : Nat) : Int)).toNat]? = _
  rw [show (-2 + ((xs.length + (0 + 1 + 1) : Nat) : Int)).toNat = xs.length by omega]
  simp
theorem at_back1' {α : Type} {xs : List α} {a b : α} : L2.atI (xs ++ [b, a]) (-1) = some a := by
  have := at_back1 (xs := xs ++ [b]) (a := a)
  simpa using this
theorem atI_mid' {α : Type} {pre r : List α} {x : α} {k : Int} (h : k = pre.length) : L2.atI (pre ++ x :: r) k = some x := by
  subst h
  unfold L2.atI L2.ixN
  rw [if_pos (by omega), if_pos (by simp; omega)]
  simp
/-- a range, as what is left of it -/
def rgD (i n : Nat) : List PyData := (List.range' i n).map fun k => .int (k : Nat)
theorem upto_rgD (n : Nat) : (upto n fun i => .int (i : Nat)) = rgD 0 n := by unfold upto rgD; rw [List.range_eq_range']
theorem rgD_cons {d : PyData} {r : List PyData} {i n : Nat} (h : d :: r = rgD i n) : ∃ m, n = m + 1 ∧ d = .int (i : Nat) ∧ r = rgD (i + 1) m := by
  cases n with
  | zero => simp [rgD] at h
  | succ m =>
    unfold rgD at h ⊢
    rw [List.range'_succ, List.map_cons] at h
    obtain ⟨h1, h2⟩ := List.cons.inj h
    exact ⟨m, rfl, h1, h2⟩
theorem rgD_nil {i n : Nat} (h : [] = rgD i n) : n = 0 := by
  cases n with
  | zero => rfl
  | succ m => unfold rgD at h; rw [List.range'_succ] at h; cases h
theorem marksF_cons (p : Int) (k : Nat) (x : Int) (r : List Int) : marksF p k (x :: r) = if x = 0 then marksF p (k + 1) r else ((k : Int), (dep p x : Int)) :: marksF p (k + 1) r := rfl
theorem marksF_app (p : Int) : ∀ (xs ys : List Int) (k : Nat), marksF p k (xs ++ ys) = marksF p k xs ++ marksF p (k + xs.length) ys
  | [], ys, k => by simp [marksF]
  | x :: xs, ys, k => by
    rw [List.cons_append, marksF_cons, marksF_cons, marksF_app p xs ys (k + 1), List.length_cons, show k + (xs.length + 1) = k + 1 + xs.length by omega]
    split <;> simp
end Pz
namespace Pz
open PySem PySem.Spec PyProof.Rows L2
theorem rgD_len (i n : Nat) : (rgD i n).length = n := by simp [rgD]
theorem snoc_eq {α : Type} {pre : List α} {x : α} {suf : List α} : pre ++ x :: suf = (pre ++ [x]) ++ suf := by simp
end Pz
namespace Pz
open PySem PySem.Spec PyProof.Rows L2
theorem popW_sub (m : Pt) : ∀ st : List Pt, ∀ x ∈ popW m st, x ∈ st
  | [], _, h => h
  | [_], _, h => h
  | a :: b :: r, x, h => by
    unfold popW at h
    split at h
    · exact h
    · exact List.mem_cons_of_mem _ (popW_sub m (b :: r) x h)
theorem hull_snoc (ms : List Pt) (m : Pt) : hull (ms ++ [m]) = m :: popW m (hull ms) := by unfold hull; rw [List.foldl_append]; rfl
theorem hull_sub (ms : List Pt) : ∀ x ∈ hull ms, x ∈ ms := by
  suffices h : ∀ (ms : List Pt) (st : List Pt), ∀ x ∈ ms.foldl (fun st m => m :: popW m st) st, x ∈ st ∨ x ∈ ms by
    intro x hx
    rcases h ms [] x hx with h | h
    · cases h
    · exact h
  intro ms
  induction ms with
  | nil => intro st x hx; exact .inl hx
  | cons m r ih =>
    intro st x hx
    rcases ih _ x hx with h | h
    · rcases List.mem_cons.1 h with h | h
      · exact .inr (by rw [h]; exact List.mem_cons_self)
      · exact .inl (popW_sub m st x h)
    · exact .inr (List.mem_cons_of_mem _ h)
theorem hull_nil (ms : List Pt) : hull ms = [] ↔ ms = [] := by
  constructor
  · intro h
    rcases List.eq_nil_or_concat ms with h1 | ⟨r, m, h1⟩
    · exact h1
    · rw [h1, List.concat_eq_append, hull_snoc] at h; cases h
  · rintro rfl; rfl
theorem marksF_bt {p : Int} (hp : 2 ≤ p) {n : Nat} : ∀ (f : List Int) (k : Nat), (∀ x ∈ f, Bt n x) → ∀ m ∈ marksF p k f, (k : Int) ≤ m.1 ∧ m.1 < k + f.length ∧ 0 ≤ m.2 ∧ m.2 < n
  | [], _, _, _, h => nomatch h
  | x :: r, k, hb, m, h => by
    have ih := fun h => marksF_bt hp (n := n) r (k + 1) (fun x hx => hb x (List.mem_cons_of_mem _ hx)) m h
    rw [marksF_cons] at h
    rw [List.length_cons]
    by_cases z : x = 0
    · rw [if_pos z] at h
      have := ih h
      omega
    · rw [if_neg z] at h
      rcases List.mem_cons.1 h with h | h
      · subst h
        have := dep_bt hp z (hb x List.mem_cons_self)
        refine ⟨?_, ?_, ?_, ?_⟩ <;> dsimp only <;> omega
      · have := ih h
        omega
theorem sides_snoc : ∀ (pre : List Pt) (a b : Pt), sides (pre ++ [a, b]) = sides (pre ++ [a]) ++ [(b.1 - a.1, b.2 - a.2)]
  | [], a, b => rfl
  | [x], a, b => rfl
  | x :: y :: r, a, b => by
    have ih := sides_snoc (y :: r) a b
    simp only [List.cons_append] at ih ⊢
    show _ :: sides (y :: (r ++ [a, b])) = _ :: sides (y :: (r ++ [a])) ++ _
    rw [ih]
    rfl
end Pz
namespace Pz
open PySem PySem.Spec PyProof.Rows L2
theorem popW_len (m : Pt) : ∀ st : List Pt, (popW m st).length ≤ st.length
  | [] => Nat.le_refl _
  | [_] => Nat.le_refl _
  | a :: b :: r => by
    unfold popW
    split
    · exact Nat.le_refl _
    · have := popW_len m (b :: r)
      simp only [List.length_cons] at this ⊢
      omega
theorem hull_len (ms : List Pt) : (hull ms).length ≤ ms.length := by
  suffices h : ∀ (ms : List Pt) (st : List Pt), (ms.foldl (fun st m => m :: popW m st) st).length ≤ st.length + ms.length by
    unfold hull
    simpa using h ms []
  intro ms
  induction ms with
  | nil => intro st; simp
  | cons m r ih =>
    intro st
    have h1 := ih (m :: popW m st)
    have h2 := popW_len m st
    simp only [List.length_cons, List.foldl_cons] at h1 ⊢
    omega
theorem marksF_len (p : Int) : ∀ (f : List Int) (k : Nat), (marksF p k f).length ≤ f.length
  | [], _ => Nat.le_refl _
  | x :: r, k => by
    have := marksF_len p r (k + 1)
    rw [marksF_cons]
    split <;> simp only [List.length_cons] <;> omega
theorem dropLast_two {α : Type} (xs : List α) (b a : α) : (xs ++ [b, a]).dropLast = xs ++ [b] := by
  rw [show xs ++ [b, a] = (xs ++ [b]) ++ [a] by simp, List.dropLast_concat]
end Pz
namespace Pz
open PySem PySem.Spec PyProof.Rows L2
theorem marksF_noughts (p : Int) : ∀ (n k : Nat), marksF p k (List.replicate n 0) = []
  | 0, _ => rfl
  | n + 1, k => by rw [List.replicate_succ, marksF_cons, if_pos rfl]; exact marksF_noughts p n (k + 1)
theorem marksF_one (p x : Int) (hx : x ≠ 0) : ∀ (n j k : Nat), j < n → marksF p k ((List.replicate n 0).set j x) = [(((k + j : Nat) : Int), (dep p x : Int))]
  | 0, _, _, h => absurd h (Nat.not_lt_zero _)
  | n + 1, 0, k, _ => by rw [List.replicate_succ, List.set_cons_zero, marksF_cons, if_neg hx, marksF_noughts]; rfl
  | n + 1, j + 1, k, h => by
    rw [List.replicate_succ, List.set_cons_succ, marksF_cons, if_pos rfl, marksF_one p x hx n j (k + 1) (by omega), show k + 1 + j = k + (j + 1) by omega]
theorem flat_rep (n : Nat) (x : Int) : (List.replicate n [PyData.int x]).flatten = (List.replicate n x).map .int := by
  induction n with
  | zero => rfl
  | succ n ih => rw [List.replicate_succ, List.flatten_cons, ih, List.replicate_succ, List.map_cons]; rfl
end Pz
namespace Pz
open PySem PySem.Spec PyProof.Rows L2
theorem ixN_some {n : Nat} {k : Int} (h0 : 0 ≤ k) (h1 : k < n) : L2.ixN n k = some k.toNat := by unfold L2.ixN; rw [if_pos h0, if_pos h1]
theorem map_set_int (L : List Int) (j : Nat) (v : Int) : (L.map PyData.int).set j (.int v) = (L.set j v).map .int := by rw [List.map_set]
end Pz

namespace Pz
open PySem PySem.Spec PyProof.Rows L2
/-! ### polynomials: the first number is the one without x -/
def pe (x : Int) : List Int → Int | [] => 0 | a :: f => a + pe x f * x
theorem pe_cons (x a : Int) (f : List Int) : pe x (a :: f) = a + pe x f * x := rfl
theorem pe_app (x : Int) : ∀ f g : List Int, pe x (f ++ g) = pe x f + x ^ f.length * pe x g
  | [], g => by simp [pe]
  | a :: f, g => by
    show a + pe x (f ++ g) * x = a + pe x f * x + x ^ (f.length + 1) * pe x g
    rw [pe_app x f g, Int.pow_succ]
    grind
theorem pe_noughts (x : Int) : ∀ n : Nat, pe x (List.replicate n 0) = 0
  | 0 => rfl
  | n + 1 => by rw [List.replicate_succ, pe_cons, pe_noughts x n]; simp
theorem pe_bt {x : Int} {b c : Nat} (hx : Bt c x) : ∀ f : List Int, (∀ a ∈ f, Bt b a) → Bt (b + f.length * (c + 1)) (pe x f)
  | [], _ => Bt.mono (a := b) ⟨Nat.two_pow_pos b⟩ (by omega)
  | a :: f, h => by
    have h1 := pe_bt hx f fun y m => h y (List.mem_cons_of_mem _ m)
    have h2 := (h a List.mem_cons_self).add2 (h1.mul hx)
    refine Bt.mono h2 ?_
    rw [List.length_cons, Nat.add_mul]
    omega
/-- pairs of places and numbers -/
def enmD (i : Nat) : List Int → List PyData
  | [] => []
  | a :: r => .tuple [.int (i : Nat), .int a] :: enmD (i + 1) r
theorem enm_eq : ∀ (ns : List Int) (i : Nat), (((ns.map PyData.int).zipIdx i).map fun p => PyData.tuple [.int (p.2 : Nat), p.1]) = enmD i ns
  | [], _ => rfl
  | a :: r, i => by
    show _ :: (((r.map PyData.int).zipIdx (i + 1)).map _) = _
    rw [enm_eq r (i + 1)]
    rfl
theorem enm_cons {d : PyData} {r : List PyData} {i : Nat} {ns : List Int} (h : d :: r = enmD i ns) : ∃ a s, ns = a :: s ∧ d = .tuple [.int (i : Nat), .int a] ∧ r = enmD (i + 1) s := by
  cases ns with
  | nil => cases h
  | cons a s => cases h; exact ⟨a, s, rfl, rfl, rfl⟩
theorem enm_nil {i : Nat} {ns : List Int} (h : [] = enmD i ns) : ns = [] := by
  cases ns with
  | nil => rfl
  | cons a s => cases h
/-- the place of the last number other than 0 -/
def dgr (f : List Int) : Int := dgrG 0 f (-1) where
  dgrG : Nat → List Int → Int → Int
  | _, [], m => m
  | i, a :: r, m => dgrG (i + 1) r (if a ≠ 0 then (i : Int) else m)
/-- a number put to one place -/
theorem pe_set (x : Int) : ∀ (L : List Int) (i : Nat) (v w : Int), L[i]? = some v → pe x (L.set i w) = pe x L + (w - v) * x ^ i
  | [], i, v, w, h => by cases h
  | a :: L, 0, v, w, h => by
    obtain rfl : a = v := by simpa using h
    show w + pe x L * x = a + pe x L * x + (w - a) * x ^ 0
    rw [Int.pow_zero]
    omega
  | a :: L, i + 1, v, w, h => by
    show a + pe x (L.set i w) * x = a + pe x L * x + (w - v) * x ^ (i + 1)
    rw [pe_set x L i v w h, Int.pow_succ]
    grind
/-- what has the same worth at all great places is the same -/
theorem pe_zero : ∀ (D : List Int) (N : Int), (∀ x, N ≤ x → pe x D = 0) → ∀ a ∈ D, a = 0
  | [], _, _, a, h => by cases h
  | b :: D, N, h, a, m => by
    have hb : b = 0 := by
      by_cases hb : b = 0
      · exact hb
      have e := h ((N.natAbs : Int) + b.natAbs + 1) (by omega)
      rw [pe_cons] at e
      have hd : ((N.natAbs : Int) + b.natAbs + 1) ∣ b := ⟨-pe ((N.natAbs : Int) + b.natAbs + 1) D, by rw [Int.mul_neg, Int.mul_comm]; omega⟩
      have := Int.natAbs_dvd_natAbs.2 hd
      have := Nat.le_of_dvd (by omega) this
      omega
    subst hb
    rcases List.mem_cons.1 m with rfl | m
    · rfl
    refine pe_zero D ((N.natAbs : Int) + 1) (fun x hx => ?_) a m
    have e := h x (by omega)
    rw [pe_cons, Int.zero_add] at e
    rcases Int.mul_eq_zero.1 e with z | z
    · exact z
    · omega
def pminus : List Int → List Int → List Int
  | a :: f, b :: g => (a - b) :: pminus f g
  | _, _ => []
theorem pe_minus (x : Int) : ∀ f g : List Int, f.length = g.length → pe x (pminus f g) = pe x f - pe x g
  | [], [], _ => rfl
  | a :: f, b :: g, h => by
    show (a - b) + pe x (pminus f g) * x = a + pe x f * x - (b + pe x g * x)
    rw [pe_minus x f g (by simpa using h)]
    grind
theorem minus_eq : ∀ f g : List Int, f.length = g.length → (∀ a ∈ pminus f g, a = 0) → f = g
  | [], [], _, _ => rfl
  | a :: f, b :: g, h, z => by
    have := z (a - b) List.mem_cons_self
    rw [minus_eq f g (by simpa using h) fun y m => z y (List.mem_cons_of_mem _ m), show a = b by omega]
theorem pe_uniq {f g : List Int} (h : f.length = g.length) (e : ∀ x, 1 ≤ x → pe x f = pe x g) : f = g :=
  minus_eq f g h (pe_zero _ 1 fun x hx => by rw [pe_minus x f g h, e x hx]; omega)
/-! ### products, by the first one's numbers -/
def padd : List Int → List Int → List Int
  | a :: f, b :: g => (a + b) :: padd f g
  | [], g => g
  | f, [] => f
theorem pe_padd (x : Int) : ∀ f g : List Int, pe x (padd f g) = pe x f + pe x g
  | [], g => by show pe x (padd [] g) = 0 + pe x g; rw [padd]; omega
  | a :: f, [] => by show pe x (a :: f) = pe x (a :: f) + 0; omega
  | a :: f, b :: g => by
    show (a + b) + pe x (padd f g) * x = a + pe x f * x + (b + pe x g * x)
    rw [pe_padd x f g]
    grind
theorem padd_len : ∀ f g : List Int, (padd f g).length = max f.length g.length
  | [], g => by rw [padd]; simp
  | a :: f, [] => by show (a :: f).length = _; simp
  | a :: f, b :: g => by
    show (padd f g).length + 1 = _
    rw [padd_len f g, List.length_cons, List.length_cons]
    omega
def pscale (c : Int) (f : List Int) : List Int := f.map (c * ·)
theorem pe_scale (x c : Int) : ∀ f : List Int, pe x (pscale c f) = c * pe x f
  | [] => by simp [pscale, pe]
  | a :: f => by
    show c * a + pe x (pscale c f) * x = c * (a + pe x f * x)
    rw [pe_scale x c f]
    grind
theorem scale_len (c : Int) (f : List Int) : (pscale c f).length = f.length := List.length_map _
def pmul : List Int → List Int → List Int
  | [], _ => []
  | [a], g => pscale a g
  | a :: f, g => padd (pscale a g) (0 :: pmul f g)
theorem pe_mul (x : Int) : ∀ f g : List Int, pe x (pmul f g) = pe x f * pe x g
  | [], g => by simp [pmul, pe]
  | [a], g => by
    show pe x (pscale a g) = (a + 0 * x) * pe x g
    rw [pe_scale]
    simp
  | a :: b :: f, g => by
    show pe x (padd (pscale a g) (0 :: pmul (b :: f) g)) = (a + pe x (b :: f) * x) * pe x g
    rw [pe_padd, pe_scale, pe_cons, pe_mul x (b :: f) g]
    grind
theorem pmul_len : ∀ f g : List Int, f ≠ [] → g ≠ [] → (pmul f g).length = f.length + g.length - 1
  | [], g, h, _ => absurd rfl h
  | [a], g, _, hg => by
    show (pscale a g).length = _
    rw [scale_len]
    simp
  | a :: b :: f, g, _, hg => by
    have h0 : 0 < g.length := List.length_pos_iff.2 hg
    show (padd (pscale a g) (0 :: pmul (b :: f) g)).length = _
    rw [padd_len, scale_len, List.length_cons, pmul_len (b :: f) g (by simp) hg]
    simp only [List.length_cons]
    omega
theorem pmul_comm {f g : List Int} (hf : f ≠ []) (hg : g ≠ []) : pmul f g = pmul g f :=
  pe_uniq (by rw [pmul_len _ _ hf hg, pmul_len _ _ hg hf]; omega) fun x _ => by rw [pe_mul, pe_mul, Int.mul_comm]
theorem pmul_of {f g R : List Int} (hf : f ≠ []) (hg : g ≠ []) (hl : R.length = f.length + g.length - 1) (h : ∀ x, pe x R = pe x f * pe x g) : R = pmul f g :=
  pe_uniq (by rw [pmul_len _ _ hf hg, hl]) fun x _ => by rw [pe_mul, h]
/-! ### slopes -/
def pd (x : Int) : List Int → Int | [] => 0 | _ :: f => pe x f + x * pd x f
theorem pd_padd (x : Int) : ∀ f g : List Int, pd x (padd f g) = pd x f + pd x g
  | [], g => by show pd x (padd [] g) = 0 + pd x g; rw [padd]; omega
  | a :: f, [] => by show pd x (a :: f) = pd x (a :: f) + 0; omega
  | a :: f, b :: g => by
    show pe x (padd f g) + x * pd x (padd f g) = pe x f + x * pd x f + (pe x g + x * pd x g)
    rw [pe_padd, pd_padd x f g]
    grind
theorem pd_scale (x c : Int) : ∀ f : List Int, pd x (pscale c f) = c * pd x f
  | [] => by simp [pscale, pd]
  | a :: f => by
    show pe x (pscale c f) + x * pd x (pscale c f) = c * (pe x f + x * pd x f)
    rw [pd_scale x c f, pe_scale]
    grind
theorem pd_mul (x : Int) : ∀ f g : List Int, pd x (pmul f g) = pd x f * pe x g + pe x f * pd x g
  | [], g => by simp [pmul, pd, pe]
  | [a], g => by
    show pd x (pscale a g) = (0 + x * 0) * pe x g + (a + 0 * x) * pd x g
    rw [pd_scale]
    simp
  | a :: b :: f, g => by
    show pd x (padd (pscale a g) (0 :: pmul (b :: f) g)) = (pe x (b :: f) + x * pd x (b :: f)) * pe x g + (a + pe x (b :: f) * x) * pd x g
    rw [pd_padd, pd_scale]
    show a * pd x g + (pe x (pmul (b :: f) g) + x * pd x (pmul (b :: f) g)) = _
    rw [pe_mul, pd_mul x (b :: f) g]
    grind
/-- each number times its place -/
def slpG (i : Nat) : List Int → List Int | [] => [] | a :: f => (i : Int) * a :: slpG (i + 1) f
def slp : List Int → List Int | [] => [] | [_] => [0] | _ :: f => slpG 1 f
theorem slpG_len : ∀ (f : List Int) (i : Nat), (slpG i f).length = f.length
  | [], _ => rfl
  | a :: f, i => by show (slpG (i + 1) f).length + 1 = _; rw [slpG_len f (i + 1)]; rfl
theorem pe_slpG (x : Int) : ∀ (f : List Int) (i : Nat), pe x (slpG i f) = i * pe x f + x * pd x f
  | [], i => by simp [slpG, pe, pd]
  | a :: f, i => by
    show (i : Int) * a + pe x (slpG (i + 1) f) * x = i * (a + pe x f * x) + x * (pe x f + x * pd x f)
    rw [pe_slpG x f (i + 1)]
    push_cast
    grind
theorem pe_slp (x : Int) : ∀ f : List Int, pe x (slp f) = pd x f
  | [] => rfl
  | [a] => by simp [slp, pe, pd]
  | a :: b :: f => by
    show pe x (slpG 1 (b :: f)) = pe x (b :: f) + x * pd x (b :: f)
    rw [pe_slpG]
    simp
theorem slp_len : ∀ f : List Int, (slp f).length = if f.length = 1 then 1 else f.length - 1
  | [] => rfl
  | [a] => rfl
  | a :: b :: f => by
    show (slpG 1 (b :: f)).length = _
    rw [slpG_len, if_neg (by simp)]
    simp
/-! ### seen from a rest: f at a + s y -/
/-- one more number in front, seen: times (a + s y), and the number -/
def seenS (a s c : Int) (h : List Int) : List Int := padd (pscale a h) (0 :: pscale s h)
def pseen (a s : Int) : List Int → List Int
  | [] => []
  | c :: f => padd [c] (padd (pscale a (pseen a s f)) (0 :: pscale s (pseen a s f)))
theorem pe_seen (y a s : Int) : ∀ f : List Int, pe y (pseen a s f) = pe (a + s * y) f
  | [] => rfl
  | c :: f => by
    show pe y (padd [c] (padd (pscale a (pseen a s f)) (0 :: pscale s (pseen a s f)))) = c + pe (a + s * y) f * (a + s * y)
    rw [pe_padd, pe_padd, pe_scale, pe_cons, pe_cons, pe_scale, pe_seen y a s f]
    show c + 0 * y + _ = _
    grind
end Pz
namespace Pz
open PySem PySem.Spec PyProof.Rows L2
theorem cutD_ints (ns : List Int) (lo hi : Option Int) : cutD (ns.map PyData.int) lo hi = (cutD ns lo hi).map .int := by
  unfold cutD
  simp only [List.length_map, List.map_drop, List.map_take]
theorem cutD_mem {α : Type} {xs : List α} {lo hi : Option Int} {x : α} (h : x ∈ cutD xs lo hi) : x ∈ xs := by
  unfold cutD at h
  exact List.mem_of_mem_drop (List.mem_of_mem_take h)
theorem cutD_len {α : Type} (xs : List α) (lo hi : Option Int) : (cutD xs lo hi).length ≤ xs.length := by
  unfold cutD
  exact Nat.le_trans (List.length_take_le' _ _) (by rw [List.length_drop]; omega)
/-- an index of a list, by what stands there -/
theorem dgr_end {ps : List Int} {m : Int} (h : ∃ ys, (-1 : Int) :: ps = ys ++ [m]) : L2.atI (((-1 : Int) :: ps).map PyData.int) (-1) = some (.int m) := by
  obtain ⟨ys, e⟩ := h
  rw [e, List.map_append]
  exact at_back1
end Pz
namespace Pz
open PySem PySem.Spec PyProof.Rows L2
theorem padd_bt {b : Nat} : ∀ f g : List Int, (∀ z ∈ f, Bt b z) → (∀ z ∈ g, Bt b z) → ∀ z ∈ padd f g, Bt (b + 1) z
  | [], g, _, h, z, m => by rw [padd] at m; exact (h z m).mono (by omega)
  | a :: f, [], h, _, z, m => (h z m).mono (by omega)
  | a :: f, c :: g, h, k, z, m => by
    rcases List.mem_cons.1 (show z ∈ (a + c) :: padd f g from m) with rfl | m
    · exact (h a List.mem_cons_self).add (k c List.mem_cons_self)
    · exact padd_bt f g (fun y n => h y (List.mem_cons_of_mem _ n)) (fun y n => k y (List.mem_cons_of_mem _ n)) z m
theorem pscale_bt {a b : Nat} {c : Int} (hc : Bt a c) {f : List Int} (h : ∀ z ∈ f, Bt b z) : ∀ z ∈ pscale c f, Bt (a + b) z := fun z m => by
  obtain ⟨y, hy, rfl⟩ := List.mem_map.1 m
  exact hc.mul (h y hy)
theorem bt0 (n : Nat) : Bt n 0 := ⟨Nat.two_pow_pos n⟩
theorem pmul_bt {a b : Nat} {g : List Int} (hg : ∀ z ∈ g, Bt b z) : ∀ f : List Int, (∀ z ∈ f, Bt a z) → ∀ z ∈ pmul f g, Bt (a + b + f.length) z
  | [], _, z, m => by cases m
  | [c], h, z, m => (pscale_bt (h c List.mem_cons_self) hg z m).mono (by omega)
  | c :: d :: f, h, z, m => by
    have ih := pmul_bt hg (d :: f) fun y n => h y (List.mem_cons_of_mem _ n)
    refine padd_bt (b := a + b + (d :: f).length) _ _ (fun y n => (pscale_bt (h c List.mem_cons_self) hg y n).mono (by omega)) (fun y n => ?_) z m
    rcases List.mem_cons.1 n with rfl | n
    · exact bt0 _
    · exact ih y n
theorem slpG_bt {b : Nat} : ∀ (f : List Int) (i : Nat), i + f.length ≤ 1000 → (∀ z ∈ f, Bt b z) → ∀ z ∈ slpG i f, Bt (10 + b) z
  | [], _, _, _, z, m => by cases m
  | a :: f, i, hi, h, z, m => by
    rw [List.length_cons] at hi
    rcases List.mem_cons.1 (show z ∈ (i : Int) * a :: slpG (i + 1) f from m) with rfl | m
    · exact (Bt.num (n := 10) (by omega)).mul (h a List.mem_cons_self)
    · exact slpG_bt f (i + 1) (by omega) (fun y n => h y (List.mem_cons_of_mem _ n)) z m
theorem slp_bt {b : Nat} : ∀ f : List Int, f.length ≤ 900 → (∀ z ∈ f, Bt b z) → ∀ z ∈ slp f, Bt (10 + b) z
  | [], _, _, z, m => by cases m
  | [a], _, _, z, m => by rw [List.mem_singleton.1 (show z ∈ [0] from m)]; exact bt0 _
  | a :: c :: f, hl, h, z, m => slpG_bt (c :: f) 1 (by simp at hl ⊢; omega) (fun y n => h y (List.mem_cons_of_mem _ n)) z m
theorem all_map {α : Type} {xs : List Int} {d : PyData} (h : d ∈ xs.map PyData.int) : ∃ x ∈ xs, d = .int x := by
  obtain ⟨x, m, rfl⟩ := List.mem_map.1 h
  exact ⟨x, m, rfl⟩
end Pz

namespace Pz
open PySem PySem.Spec PyProof.Rows L2
/-! ### loops over known lists, by what has been passed -/
section
variable {α : Type} {g : PyData → Rho → (Rho → Prop) → Prop}
theorem for_pre {b : RC} {D : PEnds} {ρ : Rho} (xs : List α) (emb : α → PyData) (P : List α → Rho → Prop) (h0 : P [] ρ)
    (st : ∀ (pre : List α) (x : α) (suf : List α) (ρ : Rho) (K : Rho → Prop), xs = pre ++ x :: suf → P pre ρ → (∀ ρ', P (pre ++ [x]) ρ' → K ρ') → g (emb x) ρ fun ρ1 => b { D with nx := K, ct := K, bk := D.nx } ρ1)
    (en : ∀ ρ, P xs ρ → D.nx ρ) : forL g b D (xs.map emb) ρ := by
  refine forL_st (fun r ρ => ∃ pre suf, xs = pre ++ suf ∧ r = suf.map emb ∧ P pre ρ) ⟨[], xs, rfl, rfl, h0⟩ ?_ ?_
  · rintro d r ρ K ⟨pre, suf, hp, hr, h⟩ hK
    cases suf with
    | nil => cases hr
    | cons a suf =>
    cases hr
    exact st pre a suf ρ K hp h fun ρ' h' => hK ρ' ⟨pre ++ [a], suf, by rw [hp]; simp, rfl, h'⟩
  · rintro ρ ⟨pre, suf, hp, hr, h⟩
    have : suf = [] := by cases suf with
      | nil => rfl
      | cons _ _ => cases hr
    subst this
    rw [List.append_nil] at hp
    subst hp
    exact en ρ h
/-- the same from the back -/
theorem for_rev {b : RC} {D : PEnds} {ρ : Rho} (xs : List α) (emb : α → PyData) (P : List α → Rho → Prop) (h0 : P [] ρ)
    (st : ∀ (pre : List α) (x : α) (suf : List α) (ρ : Rho) (K : Rho → Prop), xs = pre ++ x :: suf → P suf ρ → (∀ ρ', P (x :: suf) ρ' → K ρ') → g (emb x) ρ fun ρ1 => b { D with nx := K, ct := K, bk := D.nx } ρ1)
    (en : ∀ ρ, P xs ρ → D.nx ρ) : forL g b D (xs.map emb).reverse ρ := by
  rw [← List.map_reverse]
  refine for_pre xs.reverse emb (fun pre ρ => P pre.reverse ρ) h0 (fun pre x suf ρ K he h hK => ?_) (fun ρ h => en ρ (by rwa [List.reverse_reverse] at h))
  refine st suf.reverse x pre.reverse ρ K ?_ h fun ρ' h' => hK ρ' (by simpa using h')
  have := congrArg List.reverse he
  simpa using this
theorem for_upto {b : RC} {D : PEnds} {ρ : Rho} (n : Nat) (f : Nat → PyData) (P : Nat → Rho → Prop) (h0 : P 0 ρ)
    (st : ∀ (i : Nat) (ρ : Rho) (K : Rho → Prop), i < n → P i ρ → (∀ ρ', P (i + 1) ρ' → K ρ') → g (f i) ρ fun ρ1 => b { D with nx := K, ct := K, bk := D.nx } ρ1)
    (en : ∀ ρ, P n ρ → D.nx ρ) : forL g b D (upto n f) ρ := by
  unfold upto
  refine for_pre (List.range n) f (fun pre ρ => P pre.length ρ) h0 (fun pre x suf ρ K he h hK => ?_) (fun ρ h => en ρ (by simpa using h))
  have hx : x = pre.length := by
    have h1 : (List.range n)[pre.length]? = some x := by rw [he]; simp
    have h2 : pre.length < n := by
      have := congrArg List.length he
      simp at this
      omega
    rw [List.getElem?_range h2] at h1
    exact (Option.some.inj h1).symm
  have hn : pre.length < n := by
    have := congrArg List.length he
    simp at this
    omega
  subst hx
  exact st pre.length ρ K hn h fun ρ' h' => hK ρ' (by simpa using h')
variable {tt : RT} {te : RE} {ρ : Rho} {Q : PV → Prop}
/-- a list comprehension, item by item -/
theorem lc_gen (xs : List α) (emb : α → PyData) (f : α → Option PyData)
    (st : ∀ x ∈ xs, ∀ (acc : List PyData) (K : List PyData → Prop), (∀ y, f x = some y → K (acc ++ [y])) → (f x = none → K acc) → g (emb x) ρ fun ρ1 => tt (fun _ _ => False) ρ1 fun b => (b = true → te (fun _ _ => False) ρ1 fun x => x.frz fun y => K (acc ++ [y])) ∧ (b = false → K acc))
    (q : Q (.ow (.ls (xs.filterMap f)))) : lcL g tt te ρ (xs.map emb) [] Q := by
  refine lcL_st (fun r acc => ∃ pre suf, xs = pre ++ suf ∧ r = suf.map emb ∧ acc = pre.filterMap f) ⟨[], xs, rfl, rfl, rfl⟩ ?_ ?_
  · rintro d r acc K ⟨pre, suf, hp, hr, rfl⟩ hK
    cases suf with
    | nil => cases hr
    | cons a suf =>
    cases hr
    refine st a (by rw [hp]; simp) _ K (fun y hy => hK _ ⟨pre ++ [a], suf, by rw [hp]; simp, rfl, ?_⟩) (fun hn => hK _ ⟨pre ++ [a], suf, by rw [hp]; simp, rfl, ?_⟩)
    · rw [List.filterMap_append, List.filterMap_cons_some hy]; rfl
    · rw [List.filterMap_append, List.filterMap_cons_none hn]; simp
  · rintro acc ⟨pre, suf, hp, hr, rfl⟩
    have : suf = [] := by cases suf with
      | nil => rfl
      | cons _ _ => cases hr
    subst this
    rw [List.append_nil] at hp
    subst hp
    exact q
/-- each item told -/
theorem lc_map (xs : List α) (emb : α → PyData) (f : α → PyData)
    (st : ∀ x ∈ xs, ∀ (acc : List PyData) (K : List PyData → Prop), K (acc ++ [f x]) → g (emb x) ρ fun ρ1 => tt (fun _ _ => False) ρ1 fun b => (b = true → te (fun _ _ => False) ρ1 fun x => x.frz fun y => K (acc ++ [y])) ∧ (b = false → K acc))
    (q : Q (.ow (.ls (xs.map f)))) : lcL g tt te ρ (xs.map emb) [] Q :=
  lc_gen xs emb (fun x => some (f x)) (fun x hx acc K k _ => st x hx acc K (k _ rfl)) (by rw [List.filterMap_eq_map']; exact q)
theorem lc_mapI (xs : List Int) (f : Int → Int)
    (st : ∀ x ∈ xs, ∀ (acc : List PyData) (K : List PyData → Prop), K (acc ++ [.int (f x)]) → g (.int x) ρ fun ρ1 => tt (fun _ _ => False) ρ1 fun b => (b = true → te (fun _ _ => False) ρ1 fun x => x.frz fun y => K (acc ++ [y])) ∧ (b = false → K acc))
    (q : Q (.ow (.ls ((xs.map f).map .int)))) : lcL g tt te ρ (xs.map PyData.int) [] Q :=
  lc_map xs PyData.int (fun x => .int (f x)) st (by rw [List.map_map] at q; exact q)
/-- those of a kind told -/
theorem lc_filt (xs : List α) (emb : α → PyData) (P : α → Bool) (f : α → PyData)
    (st : ∀ x ∈ xs, ∀ (acc : List PyData) (K : List PyData → Prop), (P x = true → K (acc ++ [f x])) → (P x = false → K acc) → g (emb x) ρ fun ρ1 => tt (fun _ _ => False) ρ1 fun b => (b = true → te (fun _ _ => False) ρ1 fun x => x.frz fun y => K (acc ++ [y])) ∧ (b = false → K acc))
    (q : Q (.ow (.ls ((xs.filter P).map f)))) : lcL g tt te ρ (xs.map emb) [] Q := by
  refine lc_gen xs emb (fun x => if P x = true then some (f x) else none) (fun x hx acc K k1 k2 => st x hx acc K (fun h => k1 _ (if_pos h)) (fun h => k2 (if_neg (by rw [h]; decide)))) ?_
  have e : ∀ l : List α, l.filterMap (fun x => if P x = true then some (f x) else none) = (l.filter P).map f := by
    intro l
    induction l with
    | nil => rfl
    | cons a l ih =>
      by_cases h : P a = true
      · rw [List.filterMap_cons, List.filter_cons_of_pos h, List.map_cons]; simp only [h, if_true, ih]
      · rw [List.filterMap_cons, List.filter_cons_of_neg h]; simp only [h, if_false, ih]; simpa using ih
  rw [e]
  exact q
theorem lc_upto (n : Nat) (e : Nat → PyData) (f : Nat → Option PyData)
    (st : ∀ i, i < n → ∀ (acc : List PyData) (K : List PyData → Prop), (∀ y, f i = some y → K (acc ++ [y])) → (f i = none → K acc) → g (e i) ρ fun ρ1 => tt (fun _ _ => False) ρ1 fun b => (b = true → te (fun _ _ => False) ρ1 fun x => x.frz fun y => K (acc ++ [y])) ∧ (b = false → K acc))
    (q : Q (.ow (.ls ((List.range n).filterMap f)))) : lcL g tt te ρ (upto n e) [] Q :=
  lc_gen (List.range n) e f (fun i hi acc K k1 k2 => st i (List.mem_range.1 hi) acc K k1 k2) q
theorem lc_uptoM (n : Nat) (e : Nat → PyData) (f : Nat → PyData)
    (st : ∀ i, i < n → ∀ (acc : List PyData) (K : List PyData → Prop), K (acc ++ [f i]) → g (e i) ρ fun ρ1 => tt (fun _ _ => False) ρ1 fun b => (b = true → te (fun _ _ => False) ρ1 fun x => x.frz fun y => K (acc ++ [y])) ∧ (b = false → K acc))
    (q : Q (.ow (.ls ((List.range n).map f)))) : lcL g tt te ρ (upto n e) [] Q :=
  lc_map (List.range n) e f (fun i hi acc K k => st i (List.mem_range.1 hi) acc K k) q
end
theorem cutD_dropLast {α : Type} (xs : List α) : cutD xs none (some (-1)) = xs.dropLast := by
  unfold cutD HT.sIx
  simp only [List.drop_zero, Nat.sub_zero]
  rw [List.dropLast_eq_take, if_pos (by decide)]
  congr 1
  omega
theorem map_dropLast' {α β : Type} (f : α → β) (xs : List α) : (xs.map f).dropLast = xs.dropLast.map f := by rw [List.map_dropLast]
/-! ### sizes and lengths of what is seen -/
theorem pseen_len (a s : Int) : ∀ f : List Int, (pseen a s f).length = f.length
  | [] => rfl
  | c :: f => by
    have ih := pseen_len a s f
    show (padd [c] (padd (pscale a (pseen a s f)) (0 :: pscale s (pseen a s f)))).length = _
    rw [padd_len, padd_len, scale_len, ih]
    simp only [List.length_cons, scale_len, ih]
    simp
theorem pseen_bt {a s : Int} {b c : Nat} (ha : Bt c a) (hs : Bt c s) : ∀ f : List Int, (∀ z ∈ f, Bt b z) → ∀ z ∈ pseen a s f, Bt (b + f.length * (c + 2)) z
  | [], _, z, m => nomatch m
  | k :: f, h, z, m => by
    have ih := pseen_bt ha hs f fun y n => h y (List.mem_cons_of_mem _ n)
    have hz : ∀ z ∈ padd (pscale a (pseen a s f)) (0 :: pscale s (pseen a s f)), Bt (c + (b + f.length * (c + 2)) + 1) z :=
      padd_bt _ _ (pscale_bt ha ih) fun y n => by
        rcases List.mem_cons.1 n with rfl | n
        · exact bt0 _
        · exact pscale_bt hs ih y n
    have h2 := padd_bt (b := c + (b + f.length * (c + 2)) + 1) [k] _ (fun y n => by rw [List.mem_singleton.1 n]; exact (h k List.mem_cons_self).mono (by omega)) hz z m
    refine h2.mono ?_
    rw [List.length_cons, Nat.add_mul]
    omega
theorem pe_pad (x : Int) (f : List Int) (n : Nat) : pe x (f ++ List.replicate n 0) = pe x f := by rw [pe_app, pe_noughts]; simp
end Pz
namespace Pz
open PySem PySem.Spec PyProof.Rows L2
theorem pickL_map {α β : Type} (f : α → β) (xs : List α) (lo hi st : Option Int) : pickL (xs.map f) lo hi st = (pickL xs lo hi st).map f := by
  unfold pickL
  rw [List.length_map, List.map_filterMap]
  congr 1
  funext i
  rw [List.getElem?_map]
end Pz
namespace Pz
open PySem PySem.Spec PyProof.Rows L2
theorem eq_q {xs ys : List PyData} (as bs : List Int) {Q : Bool → Prop} (h1 : xs = as.map .int) (h2 : ys = bs.map .int) (q : Q (decide (as = bs))) : Q (PyData.eqv (.list xs) (.list ys)) := by
  subst h1 h2
  rw [eqv_lints]
  exact q
theorem ne_q {xs ys : List PyData} (as bs : List Int) {Q : Bool → Prop} (h1 : xs = as.map .int) (h2 : ys = bs.map .int) (q : Q (!decide (as = bs))) : Q (!PyData.eqv (.list xs) (.list ys)) := by
  subst h1 h2
  rw [eqv_lints]
  exact q
theorem eqv_use {x y : PyData} {b : Bool} {Q : Bool → Prop} (h : PyData.eqv x y = b) (q : Q b) : Q (PyData.eqv x y) := by rw [h]; exact q
theorem nev_use {x y : PyData} {b : Bool} {Q : Bool → Prop} (h : PyData.eqv x y = b) (q : Q (!b)) : Q (!PyData.eqv x y) := by rw [h]; exact q
theorem if_eqv {x y : PyData} {b : Bool} {A B : Prop} (h : PyData.eqv x y = b) (q : (b = true → A) ∧ (b = false → B)) : (PyData.eqv x y = true → A) ∧ (PyData.eqv x y = false → B) := by rw [h]; exact q
theorem if_nev {x y : PyData} {b : Bool} {A B : Prop} (h : PyData.eqv x y = b) (q : ((!b) = true → A) ∧ ((!b) = false → B)) : ((!PyData.eqv x y) = true → A) ∧ ((!PyData.eqv x y) = false → B) := by rw [h]; exact q
theorem slpG_app : ∀ (f g : List Int) (i : Nat), slpG i (f ++ g) = slpG i f ++ slpG (i + f.length) g
  | [], g, i => rfl
  | a :: f, g, i => by
    show (i : Int) * a :: slpG (i + 1) (f ++ g) = (i : Int) * a :: slpG (i + 1) f ++ slpG (i + (f.length + 1)) g
    rw [slpG_app f g (i + 1), show i + (f.length + 1) = i + 1 + f.length by omega]
    rfl
theorem slp_stepL {f0 : Int} {f : List Int} {g : PyData → Rho → (Rho → Prop) → Prop} {tt : RT} {te : RE} {ρ : Rho} {Q : PV → Prop} (hl : f.length ≤ 900)
    (st : ∀ (k : Nat) (a : Int) (acc : List PyData) (K : List PyData → Prop), k ≤ f.length → 1 ≤ k → L2.atI ((f0 :: f).map PyData.int) (k : Int) = some (.int a) → a ∈ f → K (acc ++ [.int ((k : Int) * a)]) → g (.int (k : Int)) ρ fun ρ1 => tt (fun _ _ => False) ρ1 fun b => (b = true → te (fun _ _ => False) ρ1 fun x => x.frz fun y => K (acc ++ [y])) ∧ (b = false → K acc))
    (q : Q (.ow (.ls ((slpG 1 f).map .int)))) : lcL g tt te ρ (upto (((f0 :: f).map PyData.int).length - 1 : Int).toNat fun k => .int (1 + (k : Int))) [] Q := by
  have hu : (upto (((f0 :: f).map PyData.int).length - 1 : Int).toNat fun k => .int (1 + (k : Int))) = rgD 1 f.length := by
    have e : (((f0 :: f).map PyData.int).length - 1 : Int).toNat = f.length := by simp
    rw [e]
    unfold upto rgD
    have e2 : List.range' 1 f.length = (List.range f.length).map (1 + ·) := by rw [List.range_eq_range', List.map_add_range']
    rw [e2, List.map_map]
    congr 1
  rw [hu]
  refine lcL_st (fun r acc => ∃ pre suf : List Int, f = pre ++ suf ∧ r = rgD (1 + pre.length) suf.length ∧ acc = (slpG 1 pre).map .int) ⟨[], f, rfl, rfl, rfl⟩ ?_ ?_
  · rintro d r acc K ⟨pre, suf, hp, hr, rfl⟩ hK
    obtain ⟨n, hn, rfl, rfl⟩ := rgD_cons hr
    obtain ⟨a, suf, rfl⟩ := List.exists_cons_of_length_eq_add_one hn
    have hn : n = suf.length := by simpa using hn.symm
    subst hn
    have e1 : f.length = pre.length + (suf.length + 1) := by rw [hp, List.length_append, List.length_cons]
    refine st (1 + pre.length) a _ K (by omega) (by omega) ?_ (by rw [hp]; simp) (hK _ ⟨pre ++ [a], suf, by rw [hp, snoc_eq], by simp; rfl, ?_⟩)
    · rw [hp, ← List.cons_append, List.map_append, List.map_cons (l := suf)]
      exact atI_mid' (by simp; omega)
    · rw [slpG_app, List.map_append]
      rfl
  · rintro acc ⟨pre, suf, hp, hr, rfl⟩
    have := rgD_nil hr
    have hs : suf = [] := by cases suf with
      | nil => rfl
      | cons _ _ => cases this
    subst hs
    rw [List.append_nil] at hp
    subst hp
    exact q
end Pz

namespace Pz
open PySem PySem.Spec PyProof.Rows L2
section
variable {g : PyData → Rho → (Rho → Prop) → Prop} {tt : RT} {te : RE} {ρ : Rho} {Q : PV → Prop}
/-- a list comprehension whose items are ints of a kind -/
theorem lc_ints (P : Int → Prop) (xs : List PyData)
    (st : ∀ d ∈ xs, ∀ (acc : List PyData) (K : List PyData → Prop), (∀ v, P v → K (acc ++ [.int v])) → g d ρ fun ρ1 => tt (fun _ _ => False) ρ1 fun b => (b = true → te (fun _ _ => False) ρ1 fun x => x.frz fun y => K (acc ++ [y])) ∧ (b = false → K acc))
    (q : ∀ L : List Int, L.length = xs.length → (∀ z ∈ L, P z) → Q (.ow (.ls (L.map .int)))) : lcL g tt te ρ xs [] Q := by
  refine lcL_st (fun r acc => ∃ (pre : List PyData) (L : List Int), xs = pre ++ r ∧ L.length = pre.length ∧ (∀ z ∈ L, P z) ∧ acc = L.map .int) ⟨[], [], rfl, rfl, fun _ h => (nomatch h), rfl⟩ ?_ ?_
  · rintro d r acc K ⟨pre, L, hp, hl, hP, rfl⟩ hK
    refine st d (by rw [hp]; simp) _ K fun v hv => hK _ ⟨pre ++ [d], L ++ [v], by rw [hp]; simp, by simp [hl], fun z hz => ?_, by simp⟩
    rcases List.mem_append.1 hz with h | h
    · exact hP z h
    · rw [List.mem_singleton.1 h]; exact hv
  · rintro acc ⟨pre, L, hp, hl, hP, rfl⟩
    rw [List.append_nil] at hp
    exact q L (by rw [hp]; exact hl) hP
end
theorem upto_len' (n : Nat) (f : Nat → PyData) : (upto n f).length = n := by unfold upto; simp
end Pz

namespace Pz
open PySem PySem.Spec PyProof.Rows L2
local macro_rules | `(tactic| walk_at "pz") => `(tactic| simp only [rSeq, rSet, rC, rVar, rFor, rWhile, rRng1, rRng2, rRng3, rIt, rRev, rEnum, rZip, rRetV, rRet, rRetN, rDrop, rSkip, rOp, rOp3, rLrg1, rLrg2, rAug, rIf, rCall, rCallR, rCallO, rCons, rConsR, rNil, rTup, rLst, rCmp, rCmpT, rTV, rAnd, rOr, rNot, rAndV, rOrV, rNotV, rNeg, rFn1, rSl, rPart, rNoPart, gSl, rLc, rLcO, rYes, wipeP, rFz, rUnp, rPar, rSetIx, rAugIx, rApp, rPop, rPopTo, rClear, rCont, rBreak, rRaise, data_im, data_lv, data_ls, data_rd, fz_im, fz_lv, fz_ow, fz_rd, frz_im, frz_ls, rdd_im, rdd_ls, rdd_lv, rdd_rd, sto_im, sto_ow, weak_im, weak_ls, weak_rd, Tgt.go, setAll, gI, gI0, gAdd, gMul, gIx, gLen, gAbs, gInt, gMax, gMin, gList, gSum, gMaxL, gMinL, gIsi, isi, iiP, eqP, neP, isP, isnP, dEnds, at0, at1, nrm_t, nrm_i, nrm_b, List.getElem?_cons_zero, List.getElem?_cons_succ, List.getElem?_nil, List.set_cons_zero, List.set_cons_succ, List.length_cons, List.length_nil, Bool.false_eq_true, Bool.true_eq_false, false_implies, true_implies, and_true, true_and, Bool.not_true, Bool.not_false, Nat.reduceAdd, Nat.reduceSub, Nat.reduceMul, Int.reduceAdd, Int.reduceSub, Int.reduceMul, Int.reduceNeg, Int.cast_ofNat_Int, Int.natCast_zero, Int.natCast_one, Int.reduceEq, Int.reduceNe, Int.reduceLT, Int.reduceLE, decide_true, decide_false, eq_self])
local macro_rules | `(tactic| walk_at "w") => `(tactic| conv => whnf)
local macro_rules | `(tactic| walk_at "hint") => `(tactic| fail)
local macro_rules | `(tactic| walk_at "pos") => `(tactic| first | assumption | omega | decide | exact Int.pow_pos (by omega))
local macro_rules | `(tactic| walk_at "bt") => `(tactic| first
  | assumption
  | exact Bt.num (n := 64) (by omega)
  | exact Bt.num (n := 256) (by decide)
  | ((with_reducible apply Bt.mul) <;> walk_at "bt")
  | ((with_reducible apply Bt.add2) <;> walk_at "bt")
  | ((with_reducible apply Bt.sub2) <;> walk_at "bt")
  | ((with_reducible apply Bt.neg) <;> walk_at "bt")
  | ((with_reducible apply Bt.div) <;> first | walk_at "bt" | walk_at "pos")
  | ((with_reducible apply Bt.mod) <;> first | walk_at "bt" | walk_at "pos")
  | (with_reducible refine Bt.powK (a := 6) (k := 130) ?_ ?_; (exact Bt.num (by omega)); omega))
local macro_rules | `(tactic| walk_at "side") => `(tactic| first
  | with_reducible assumption
  | omega
  | decide
  | ((with_reducible apply Bt.ok); (walk_at "bt"); (walk_at "bt"); first | decide | omega)
  | ((with_reducible apply Bt.mono); (walk_at "bt"); decide)
  | ((with_reducible apply Bt.dv); (walk_at "bt"); (walk_at "pos"); first | decide | omega)
  | ((with_reducible refine Int.pow_pos ?_); omega)
  | ((with_reducible apply rgok) <;> omega)
  | ((with_reducible apply Bt.cpow) <;> first | omega | decide)
  | ((intro k z); cases z; done)
  | exact shaped_int _ | exact shaped_bool _ | exact shaped_pair _ _ | exact shaped_lints _ | exact shaped_tints _
  | ((with_reducible apply lt_line); simp only [List.length_append, List.length_cons, List.length_nil, List.length_map, List.length_replicate]; omega)
  | ((with_reducible apply le_line); simp only [List.length_append, List.length_cons, List.length_nil, List.length_map, List.length_replicate, List.length_reverse, List.length_set, upto_len, Int.toNat_natCast, Nat.zero_add, Nat.one_mul, Nat.mul_one]; omega)
  | ((with_reducible apply And.intro) <;> walk_at "side")
  | ((simp only [List.length_append, List.length_cons, List.length_nil, List.length_map, List.length_replicate, List.length_set, List.length_reverse, upto_len]); (try omega); done)
  | (show SeqAt.shaped _ = true; simp [PV.data, Oc.data, SeqAt.shaped, PyData.canLay0, PyData.canLayAll0, PyData.depth, PyData.depthAll]; done)
  | ((walk_at "hint"); done)
  | with_reducible_and_instances assumption)
local macro_rules | `(tactic| walk_at "tt") => `(tactic| first
  | with_reducible rfl
  | ((with_reducible refine decide_eq_true ?_); walk_at "side")
  | ((with_reducible refine not_f ?_); walk_at "ff")
  | ((fail_if_success (with_reducible refine decide_eq_true ?_)); (fail_if_success (with_reducible refine not_f ?_)); first | (show PyData.eqv (.list (List.map PyData.int _)) (.list (List.map PyData.int _)) = true; rw [eqv_lints]; exact decide_eq_true (by first | with_reducible rfl | with_reducible assumption | (refine Eq.symm ?_; with_reducible assumption) | rfl | assumption)) | rfl | ((walk_at "hint"); done) | (simp [PV.data, Oc.data, PyData.eqv, PyData.eqvAll]; done)))
local macro_rules | `(tactic| walk_at "ff") => `(tactic| first
  | with_reducible rfl
  | ((with_reducible refine decide_eq_false ?_); walk_at "side")
  | ((with_reducible refine not_t ?_); walk_at "tt")
  | ((fail_if_success (with_reducible refine decide_eq_false ?_)); (fail_if_success (with_reducible refine not_t ?_)); (first | (show PyData.eqv (.list (List.map PyData.int _)) (.list (List.map PyData.int _)) = false; rw [eqv_lints]; exact decide_eq_false (by with_reducible assumption)) | skip); (fail_if_success (show PyData.eqv (.list (List.map PyData.int _)) (.list (List.map PyData.int _)) = false)); first | rfl | ((walk_at "hint"); done) | (simp [PV.data, Oc.data, PyData.eqv, PyData.eqvAll]; done)))
local macro_rules | `(tactic| walk_at "st") => `(tactic| ((conv => whnf); first
  | with_reducible assumption
  | ((with_reducible refine qT (by assumption) ?_); walk_at "tt")
  | (refine ifS ?_; first | refine ifB1 (by walk_at "tt") ?_ | refine ifB0 (by walk_at "ff") ?_)
  | ((with_reducible refine ifPS ?_); first | refine ifP1 (by walk_at "side") ?_ | refine ifP0 (by walk_at "side") ?_)
  | ((fail_if_success (refine ifS ?_)); (fail_if_success (with_reducible refine ifPS ?_)); refine And.intro (by walk_at "side") ?_)
  | (with_reducible refine atc0 ?_) | (with_reducible refine atc1 ?_) | (with_reducible refine atc2 ?_) | (with_reducible refine atc3 ?_)
  | ((repeat apply Exists.intro); with_reducible refine ⟨rfl, ?_⟩)
  | assumption))
local macro_rules | `(tactic| walk_at "nf") => `(tactic| try dsimp only [List.set_cons_zero, List.set_cons_succ, setAll, wipeP])
local macro_rules | `(tactic| walk_at "go") => `(tactic| repeat ((walk_at "st"); walk_at "nf"))
/-! _law_odd -/
abbrev N__law_odd : List Str := ["cell", "some"]
def rd__law_odd : RC := rSeq (rSet 1 (rLst (rCons (rC (.str "")) (rCons (rC (.str "-")) (rCons (rC (.str "--5")) (rCons (rC (.str "5-")) (rCons (rC (.str "+5")) (rCons (rC (.str "1e3")) (rCons (rC (.str "0x1")) (rCons (rC (.str "1_000")) (rCons (rC (.str " 5")) (rCons (rC (.str "5 ")) (rCons (rC (.str "-0")) (rCons (rC (.str "00")) (rCons (rC (.str "-00")) (rCons (rC (.str "0")) (rCons (rC (.str "-07")) (rCons (rC (.str "5\n")) (rCons (rC (.str "\t7")) (rNil)))))))))))))))))))) (rSeq (rFz 1) (rRet (rOp gIx (rOp gAdd (rVar 1) (rLst (rCons (rC .none) (rCons (rC (.int 5)) (rCons (rC (.bool true)) (rCons (rTup (rCons (rC (.str "5")) (rNil))) (rCons (rLst (rCons (rC (.str "5")) (rNil))) (rCons (rDNew) (rCons (rC (.str "1.0")) (rCons (rC (.str "- 5")) (rCons (rC (.str "five")) (rCons (rC (.str "-1")) (rCons (rC (.str ",")) (rCons (rC (.str "1,")) (rCons (rC (.str ",1")) (rCons (rC (.str "1,,2")) (rNil))))))))))))))))) (rOp gMod (rVar 0) (rC (.int 31))))))
def sp__law_odd : PSp := fun ds Q _ => ∃ c : Int, ds = [.int c] ∧ ∀ d, okT 10 d → Q (.im d)
theorem len__law_odd : ∀ ds Q E, sp__law_odd ds Q E → ds.length = (["cell"] : List Str).length := by
  rintro ds Q E ⟨d, rfl, _⟩; rfl
theorem pure__law_odd : ∀ ds Q E, sp__law_odd ds Q E → rd__law_odd (dEnds Q E) (start0 N__law_odd ds) := by
  rintro ds Q E ⟨c, rfl, q⟩
  show rd__law_odd (dEnds Q E) [.im (.int c), .un]
  unfold rd__law_odd
  walk_at "go"
  conv => whnf
  have key : ∀ L : List PyData, L.length = 31 → L.all (okTB 10) = true → ∃ d, L2.atI L (c % 31) = some d ∧ Q (.im d) := fun L h1 h2 => by
    obtain ⟨d, hd, m⟩ := atI_some (xs := L) (k := c % 31) (by omega) (by omega)
    exact ⟨d, hd, q d (okT_of (List.all_eq_true.1 h2 d m))⟩
  exact key _ rfl (by decide +kernel)

/-! _law_sign -/
abbrev N__law_sign : List Str := ["cell", "signs"]
def rd__law_sign : RC := rSeq (rSet 1 (rC (.str " !\"#$&'()*+,-./0123456789:;<=>?@ABCDEFGHIJKLMNOPQRSTUVWXYZ[\\]^_`"))) (rSeq (rSet 1 (rOp gAdd (rVar 1) (rC (.str "abcdefghijklmnopqrstuvwxyz{|}~\n\t")))) (rRet (rOp gIx (rVar 1) (rOp gMod (rVar 0) (rC (.int 96))))))
def sp__law_sign : PSp := fun ds Q _ => ∃ c : Int, ds = [.int c] ∧ ∀ x : Nat, Q (.im (.str ⟨#[x]⟩))
theorem len__law_sign : ∀ ds Q E, sp__law_sign ds Q E → ds.length = (["cell"] : List Str).length := by
  rintro ds Q E ⟨d, rfl, _⟩; rfl
theorem pure__law_sign : ∀ ds Q E, sp__law_sign ds Q E → rd__law_sign (dEnds Q E) (start0 N__law_sign ds) := by
  rintro ds Q E ⟨c, rfl, q⟩
  show rd__law_sign (dEnds Q E) [.im (.int c), .un]
  unfold rd__law_sign
  have hl : ((Str.ofString " !\"#$&'()*+,-./0123456789:;<=>?@ABCDEFGHIJKLMNOPQRSTUVWXYZ[\\]^_`") ++ (Str.ofString "abcdefghijklmnopqrstuvwxyz{|}~\n\t")).cps.toList.length = 96 := by decide +kernel
  have hl1 : (Str.ofString " !\"#$&'()*+,-./0123456789:;<=>?@ABCDEFGHIJKLMNOPQRSTUVWXYZ[\\]^_`").length = 64 := by decide +kernel
  have hl2 : (Str.ofString "abcdefghijklmnopqrstuvwxyz{|}~\n\t").length = 32 := by decide +kernel
  conv => whnf
  refine ⟨by rw [hl1, hl2]; exact le_line (by decide), ?_⟩
  generalize hs : Str.ofString " !\"#$&'()*+,-./0123456789:;<=>?@ABCDEFGHIJKLMNOPQRSTUVWXYZ[\\]^_`" ++ Str.ofString "abcdefghijklmnopqrstuvwxyz{|}~\n\t" = s at hl ⊢
  conv => whnf
  refine ⟨by decide, ?_⟩
  conv => whnf
  have e := str_len s
  refine ⟨le_line (by omega), ?_⟩
  obtain ⟨v, hv, _⟩ := atI_some (xs := s.cps.toList) (k := c % 96) (by omega) (by omega)
  exact ⟨v, hv, q v⟩

/-! _law_changed -/
abbrev N__law_changed : List Str := ["word", "cell", "way", "place"]
def rd__law_changed : RC := rSeq (rSet 2 (rOp gMod (rVar 1) (rC (.int 7)))) (rSeq (rSet 1 (rOp gDiv (rVar 1) (rC (.int 7)))) (rSeq (rSet 3 (rOp gMod (rVar 1) (rOp gAdd (rFn1 gLen (rVar 0)) (rC (.int 1))))) (rSeq (rIf (rCmpT eqP (rVar 2) (rC (.int 1))) (rRet (rOp gAdd (rOp gAdd (rSlX (rVar 0) (rNoPart) (rPart (rVar 3))) (rCall sp__law_sign (rCons (rOp gDiv (rVar 1) (rC (.int 31))) (rNil)))) (rSlX (rVar 0) (rPart (rVar 3)) (rNoPart)))) (rSkip)) (rSeq (rIf (rCmpT eqP (rVar 2) (rC (.int 2))) (rRet (rOp gAdd (rSlX (rVar 0) (rNoPart) (rPart (rVar 3))) (rSlX (rVar 0) (rPart (rOp gAdd (rVar 3) (rC (.int 1)))) (rNoPart)))) (rSkip)) (rSeq (rIf (rCmpT eqP (rVar 2) (rC (.int 3))) (rRet (rOp gAdd (rVar 0) (rSlX (rC (.str "1234")) (rNoPart) (rPart (rOp gAdd (rC (.int 1)) (rOp gMod (rVar 1) (rC (.int 4)))))))) (rSkip)) (rSeq (rIf (rCmpT eqP (rVar 2) (rC (.int 4))) (rRet (rCall sp__law_odd (rCons (rVar 1) (rNil)))) (rSkip)) (rRetV 0)))))))
def sp__law_changed : PSp := fun ds Q _ => ∃ (a : Str) (c : Int), ds = [.str a, .int c] ∧ a.length ≤ 900 ∧ Bt 1048590 c ∧ ∀ d, okT 950 d → Q (.im d)
theorem len__law_changed : ∀ ds Q E, sp__law_changed ds Q E → ds.length = (["word", "cell"] : List Str).length := by
  rintro ds Q E ⟨a, d, rfl, _⟩; rfl
theorem pure__law_changed : ∀ ds Q E, sp__law_changed ds Q E → rd__law_changed (dEnds Q E) (start0 N__law_changed ds) := by
  rintro ds Q E ⟨a, c, rfl, la, bc, q⟩
  show rd__law_changed (dEnds Q E) [.im (.str a), .im (.int c), .un, .un]
  unfold rd__law_changed
  walk_at "go"
  conv => whnf
  refine ⟨le_line (by omega), ?_⟩
  conv => whnf
  refine ⟨by omega, ?_⟩
  have g0 := Int.emod_nonneg (c / 7) (show (a.length : Int) + 1 ≠ 0 by omega)
  have g1 := Int.emod_lt_of_pos (c / 7) (show (0 : Int) < (a.length : Int) + 1 by omega)
  generalize c / 7 % ((a.length : Int) + 1) = k at g0 g1 ⊢
  conv => whnf
  have lc : ∀ lo hi, (cutS a lo hi).length ≤ 900 := fun lo hi => Nat.le_trans (cutS_length _ _ _) la
  have fin : ∀ x : Str, x.length ≤ 950 → Q (.im (.str x)) := fun x h => q _ ⟨by simp, by rintro _ ⟨⟩; exact h⟩
  have l1 := cut_to a g0 (show k ≤ (a.length : Int) by omega)
  have l2 := cut_from a g0 (show k ≤ (a.length : Int) by omega)
  have l4 := lc (some (k + 1)) none
  refine ifD (fun z => ?_) (fun z => ?_)
  · conv => whnf
    refine ⟨le_line (by omega), ?_⟩
    conv => whnf
    refine ⟨by walk_at "side", ?_⟩
    refine ⟨_, rfl, fun x => ?_⟩
    have l3 : ((⟨#[x]⟩ : Str)).length = 1 := rfl
    have l5 : (cutS a none (some k) ++ (⟨#[x]⟩ : Str)).length ≤ k.toNat + 1 := by rw [Str.length_append]; omega
    conv => whnf
    refine ⟨le_line (by omega), ?_⟩
    conv => whnf
    refine ⟨le_line (by omega), ?_⟩
    conv => whnf
    refine ⟨le_line (by omega), ?_⟩
    exact fin _ (by rw [Str.length_append]; omega)
  · conv => whnf
    refine ifD (fun z => ?_) (fun z => ?_)
    · conv => whnf
      refine ⟨le_line (by omega), ?_⟩
      conv => whnf
      refine ⟨le_line (by omega), ?_⟩
      conv => whnf
      by_cases hk : k = a.length
      · have h9 : (cutS a (some (k + 1)) none).length ≤ 0 := by
          subst hk
          unfold L2.cutS
          show ((List.take _ _).toArray).size ≤ _
          rw [List.size_toArray, List.length_take]
          have e : HT.sIx a.length 0 (some ((a.length : Int) + 1)) = a.length := by
            simp only [HT.sIx]
            split <;> omega
          rw [e, show HT.sIx a.length a.length none = a.length from rfl]
          omega
        refine ⟨le_line (by omega), ?_⟩
        exact fin _ (by rw [Str.length_append]; omega)
      · have h9 := cut_from a (show 0 ≤ k + 1 by omega) (show k + 1 ≤ (a.length : Int) by omega)
        refine ⟨le_line (by omega), ?_⟩
        exact fin _ (by rw [Str.length_append]; omega)
    conv => whnf
    refine ifD (fun z => ?_) (fun z => ?_)
    · conv => whnf
      refine ⟨by decide, ?_⟩
      conv => whnf
      have h8 : (cutS (Str.ofString "1234") none (some (1 + c / 7 % 4))).length ≤ 4 := Nat.le_trans (cutS_length _ _ _) (by decide +kernel)
      refine ⟨by decide +kernel, ?_⟩
      conv => whnf
      refine ⟨le_line (by omega), ?_⟩
      exact fin _ (by rw [Str.length_append]; omega)
    conv => whnf
    refine ifD (fun z => ?_) (fun z => ?_)
    · conv => whnf
      refine ⟨_, rfl, fun d hd => q d ⟨hd.1, fun x e => Nat.le_trans (hd.2 x e) (by decide)⟩⟩
    · exact fin a (by omega)

/-! _law_great -/
abbrev N__law_great : List Str := ["cell"]
def rd__law_great : RC := rSeq (rIf (rCmpT eqP (rOp gMod (rVar 0) (rC (.int 2))) (rC (.int 1))) (rRet (rOp gSub (rOp gMod (rOp gDiv (rVar 0) (rC (.int 2))) (rC (.int 2001))) (rC (.int 1000)))) (rSkip)) (rRet (rOp gAdd (rOp gSub (rOp gMod (rOp gMul (rOp gDiv (rVar 0) (rC (.int 2))) (rOp gAdd (rOp gAdd (rOp gMul (rC (.int 7)) (rOp gPow (rC (.int 10)) (rC (.int 59)))) (rOp gMul (rC (.int 982451653)) (rOp gPow (rC (.int 10)) (rC (.int 29))))) (rC (.int 48271)))) (rOp gSub (rOp gMul (rC (.int 2)) (rOp gPow (rC (.int 10)) (rC (.int 60)))) (rC (.int 1)))) (rOp gPow (rC (.int 10)) (rC (.int 60)))) (rC (.int 1))))
def sp__law_great : PSp := fun ds Q _ => ∃ c : Int, ds = [.int c] ∧ Bt 1048600 c ∧ ∀ n : Int, n.natAbs < 10 ^ 60 → Q (.im (.int n))
theorem len__law_great : ∀ ds Q E, sp__law_great ds Q E → ds.length = (["cell"] : List Str).length := by
  rintro ds Q E ⟨d, rfl, _⟩; rfl
theorem pure__law_great : ∀ ds Q E, sp__law_great ds Q E → rd__law_great (dEnds Q E) (start0 N__law_great ds) := by
  rintro ds Q E ⟨c, rfl, bc, q⟩
  show rd__law_great (dEnds Q E) [.im (.int c)]
  unfold rd__law_great
  walk_at "go"
  have h0 := Int.emod_nonneg (c / 2 * (7 * 10 ^ (59 : Int).toNat + 982451653 * 10 ^ (29 : Int).toNat + 48271)) (show (2 * 10 ^ (60 : Int).toNat - 1 : Int) ≠ 0 by decide)
  have h1 := Int.emod_lt_of_pos (c / 2 * (7 * 10 ^ (59 : Int).toNat + 982451653 * 10 ^ (29 : Int).toNat + 48271)) (show (0 : Int) < 2 * 10 ^ (60 : Int).toNat - 1 by decide)
  have b1 : c / 2 % 2001 - 1000 ≥ -1000 ∧ c / 2 % 2001 - 1000 ≤ 1000 := by omega
  refine ⟨fun z => ?_, fun z => ?_⟩
  · walk_at "go"
    exact q _ (by omega)
  · walk_at "go"
    exact q _ (by
      generalize c / 2 * (7 * 10 ^ (59 : Int).toNat + 982451653 * 10 ^ (29 : Int).toNat + 48271) % (2 * 10 ^ (60 : Int).toNat - 1) = m at h0 h1 ⊢
      change m < 2 * 10 ^ 60 - 1 at h1
      show (m - 10 ^ 60 + 1).natAbs < 10 ^ 60
      omega)

/-! _law_number -/
abbrev N__law_number : List Str := ["word", "figures", "number", "sign"]
def rd__law_number_b0 : RC := rSeq (rIf (rCmpT ltP (rM1 gFind (rC (.str "0123456789")) (rVar 3)) (rC (.int 0))) (rRet (rC .none)) (rSkip)) (rSeq (rSet 2 (rOp gAdd (rOp gMul (rC (.int 10)) (rVar 2)) (rM1 gFind (rC (.str "0123456789")) (rVar 3)))) (rSeq (rFz 2) (rSkip)))
def rd__law_number : RC := rSeq (rSet 1 (rVar 0)) (rSeq (rIf (rCmpT eqSP (rSlX (rVar 0) (rNoPart) (rPart (rC (.int 1)))) (rC (.str "-"))) (rSeq (rSet 1 (rSlX (rVar 0) (rPart (rC (.int 1))) (rNoPart))) (rSeq (rFz 1) (rSkip))) (rSkip)) (rSeq (rIf (rOr (rCmpT ltP (rFn1 gLen (rVar 1)) (rC (.int 1))) (rCmpT gtP (rFn1 gLen (rVar 1)) (rC (.int 60)))) (rRet (rC .none)) (rSkip)) (rSeq (rSet 2 (rC (.int 0))) (rSeq (rFor (rItS (rVar 1)) (.nm 3) rd__law_number_b0) (rSeq (rIf (rAnd (rCmpT eqSP (rOp gIx (rVar 1) (rC (.int 0))) (rC (.str "0"))) (rOr (rCmpT gtP (rFn1 gLen (rVar 1)) (rC (.int 1))) (rCmpT neSP (rVar 0) (rVar 1)))) (rRet (rC .none)) (rSkip)) (rSeq (rIf (rCmpT neSP (rVar 0) (rVar 1)) (rRet (rNeg (rVar 2))) (rSkip)) (rRetV 2)))))))
def sp__law_number : PSp := fun ds Q _ => ∃ a : Str, ds = [.str a] ∧ a.length ≤ 950 ∧ Q (.im (optD (numS a)))
theorem len__law_number : ∀ ds Q E, sp__law_number ds Q E → ds.length = (["word"] : List Str).length := by
  rintro ds Q E ⟨d, rfl, _⟩; rfl
theorem pure__law_number : ∀ ds Q E, sp__law_number ds Q E → rd__law_number (dEnds Q E) (start0 N__law_number ds) := by
  rintro ds Q E ⟨a, rfl, la, q⟩
  show rd__law_number (dEnds Q E) [.im (.str a), .un, .un, .un]
  unfold rd__law_number
  have q0 : ¬ numOk a.cps.toList → Q (.im .none) := fun h => by
    have q := q
    unfold numS at q
    rw [numL_none h] at q
    exact q
  have q1 : numOk a.cps.toList → Q (.im (.int (if cutM a.cps.toList = a.cps.toList then (valF (cutM a.cps.toList) : Int) else -(valF (cutM a.cps.toList) : Int)))) := fun h => by
    have q := q
    unfold numS at q
    rw [numL_some h] at q
    exact q
  walk_at "go"
  conv => whnf
  refine ⟨le_line (by omega), ?_⟩
  conv => whnf
  refine if_rest (fun ρ' => ∃ f : Str, f.cps.toList = cutM a.cps.toList ∧ f.length ≤ 950 ∧ ρ' = [.im (.str a), .im (.str f), .un, .un]) (fun N hN => ?_) ?_
  · have ht := cut_first a
    refine ifD (fun z => ?_) (fun z => ?_)
    · have hz : a.cps.toList.head? = some 45 := by
        rw [z, minus_one] at ht
        cases h : a.cps.toList with
        | nil => rw [h] at ht; cases ht
        | cons c r => rw [h] at ht; simp at ht; rw [ht]; rfl
      conv => whnf
      refine ⟨le_line (by omega), ?_⟩
      exact hN _ ⟨_, (cut_rest a).trans (cutM_tail hz), Nat.le_trans (cutS_length _ _ _) la, rfl⟩
    · refine hN _ ⟨a, (cutM_plain fun hz => z (str_ext ?_)).symm, la, rfl⟩
      rw [ht, minus_one]
      cases h : a.cps.toList with
      | nil => rw [h] at hz; cases hz
      | cons c r => rw [h] at hz; simp at hz; rw [hz]; rfl
  rintro ρ' ⟨f, hf, lf, rfl⟩
  have hfl := str_len f
  conv => whnf
  refine ⟨le_line (by omega), ?_⟩
  conv => whnf
  refine ifD (fun z => ?_) (fun z1 => ?_)
  · have e := q0 fun o => o.1 (by rw [← hf]; exact List.length_eq_zero_iff.1 (by omega))
    first | exact e | exact ifB1 rfl e
  conv => whnf
  refine ⟨le_line (by omega), ?_⟩
  conv => whnf
  refine ifD (fun z => ?_) (fun z2 => ?_)
  · have e := q0 fun o => by have := o.2.1; rw [← hf] at this; omega
    first | exact e | exact ifB1 rfl e
  conv => whnf
  refine for_pre f.cps.toList (fun c => PyData.str ⟨#[c]⟩) (fun pre ρ => (∀ c ∈ pre, figB c = true) ∧ ∃ x, ρ = [.im (.str a), .im (.str f), .im (.int (valF pre : Nat)), x]) ⟨fun _ h => (nomatch h), _, rfl⟩ ?_ ?_
  · rintro pre c suf ρ K hpre ⟨hall, x, rfl⟩ hK
    unfold rd__law_number_b0
    conv => whnf
    rw [find_fig]
    cases hc : figB c with
    | true =>
      have hc1 := fig_le hc
      rw [if_pos rfl]
      refine ifD (fun z => absurd z (by omega)) (fun _ => ?_)
      conv => whnf
      have e : (10 * (valF pre : Int) + ((c : Int) - 48)) = (valF (pre ++ [c]) : Nat) := by rw [valF_snoc]; omega
      have bv : Bt 10000 (valF pre : Int) := by
        refine (Bt.num (n := 210) ?_).mono (by decide)
        have h1 := valF_lt hall
        have h2 : pre.length ≤ 60 := by
          have := congrArg List.length hpre
          rw [List.length_append, List.length_cons] at this
          omega
        have h3 : 10 ^ pre.length ≤ 10 ^ 60 := Nat.pow_le_pow_right (by decide) h2
        have h4 : (10 ^ 60 : Nat) < 2 ^ 210 := by decide
        omega
      refine ⟨?_, ?_⟩
      · walk_at "side"
      conv => whnf
      rw [find_fig, hc, if_pos rfl, e]
      exact hK _ ⟨fun d m => by
        rcases List.mem_append.1 m with m | m
        · exact hall d m
        · rw [List.mem_singleton.1 m]; exact hc, _, rfl⟩
    | false =>
      have e := q0 fun o => by
        have := o.2.2.1 c (by rw [← hf, hpre]; simp)
        rw [hc] at this; cases this
      rw [if_neg (by decide)]
      first | exact ifB1 rfl e | exact e
  rintro ρ ⟨hall, x, rfl⟩
  cases hh : f.cps.toList with
  | nil => exact (z1 (by rw [hh] at hfl; simp at hfl; omega)).elim
  | cons c0 r0 =>
  have mk : (c0 = 48 → a.cps.toList = [48]) → numOk a.cps.toList := fun h => ⟨by rw [← hf, hh]; simp, by rw [← hf]; omega, by rw [← hf]; exact hall, fun z => h (by rw [← hf, hh] at z; simpa using z)⟩
  have eaf : a = f ↔ cutM a.cps.toList = a.cps.toList := ⟨fun h => by rw [← hf, ← h], fun h => str_ext (by rw [hf, h])⟩
  have done : numOk a.cps.toList → (((!decide (a = f)) = true → Q (.im (.int (-(valF f.cps.toList : Int))))) ∧ ((!decide (a = f)) = false → Q (.im (.int (valF f.cps.toList : Int))))) := fun o => by
    have q := q1 o
    refine ifN (fun y => ?_) (fun y => ?_)
    · rw [if_neg (fun h => y (eaf.2 h)), ← hf] at q; exact q
    · rw [if_pos (eaf.1 y), ← hf] at q; exact q
  rw [← hh]
  conv => whnf
  refine ⟨le_line (by omega), ?_⟩
  refine ⟨c0, by rw [hh]; exact atI_head c0 r0, ?_⟩
  conv => whnf
  refine ifD (fun z => ?_) (fun z => ?_)
  · conv => whnf
    refine ⟨le_line (by omega), ?_⟩
    conv => whnf
    refine ifD (fun y => ?_) (fun y => ?_)
    · have e := q0 fun o => by
        have h1 := o.2.2.2 (by rw [← hf, hh, is_nought.1 z]; rfl)
        have h2 : f.length = 1 := by rw [hfl, hf, h1]; rfl
        omega
      first | exact e | exact ifB1 rfl e
    conv => whnf
    refine ifN (fun y => ?_) (fun w => ?_)
    · have e := q0 fun o => by
        have h1 := o.2.2.2 (by rw [← hf, hh, is_nought.1 z]; rfl)
        exact y (eaf.2 (by rw [h1]; rfl))
      first | exact e | exact ifB1 rfl e
    · have d := done (mk fun _ => by
        have h1 : f.cps.toList.length = 1 := by rw [← hfl]; rw [hh] at hfl; simp at hfl; omega
        rw [hh] at h1
        have h2 : r0 = [] := List.length_eq_zero_iff.1 (by simpa using h1)
        rw [w, hh, h2, is_nought.1 z])
      first | exact d | exact ifB0 rfl d
  · have d := done (mk fun h => absurd (is_nought.2 h) z)
    first | exact d | exact ifB0 rfl d

/-! read_number -/
abbrev N_read_number : List Str := ["text", "figures", "sign"]
def rd_read_number_b0 : RC := rIf (rCmpT ninSP (rVar 2) (rC (.str "0123456789"))) (rRaise .NoText) (rSkip)
def rd_read_number : RC := rSeq (rIf (rNot (rTV (rFn1 (gIsi .str) (rVar 0)))) (rRaise .NoText) (rSkip)) (rSeq (rSet 1 (rVar 0)) (rSeq (rIf (rTV (rM1 gStartsW (rVar 0) (rC (.str "-")))) (rSeq (rSet 1 (rSlX (rVar 0) (rPart (rC (.int 1))) (rNoPart))) (rSeq (rFz 1) (rSkip))) (rSkip)) (rSeq (rIf (rOr (rCmpT eqSP (rVar 1) (rC (.str ""))) (rCmpT gtP (rFn1 gLen (rVar 1)) (rC (.int 60)))) (rRaise .NoText) (rSkip)) (rSeq (rFor (rItS (rVar 1)) (.nm 2) rd_read_number_b0) (rSeq (rIf (rAnd (rCmpT eqSP (rOp gIx (rVar 1) (rC (.int 0))) (rC (.str "0"))) (rCmpT neSP (rVar 0) (rC (.str "0")))) (rRaise .NoText) (rSkip)) (rRet (rFn1 gIntS (rVar 0))))))))
def sp_read_number : PSp := fun ds Q E => ∃ d : PyData, ds = [d] ∧ okT 950 d ∧ (∀ n, rdN d = some n → Q (.im (.int n))) ∧ (rdN d = none → E .NoText)
theorem len_read_number : ∀ ds Q E, sp_read_number ds Q E → ds.length = (["text"] : List Str).length := by
  rintro ds Q E ⟨d, rfl, _⟩; rfl
theorem pure_read_number : ∀ ds Q E, sp_read_number ds Q E → rd_read_number (dEnds Q E) (start0 N_read_number ds) := by
  rintro ds Q E ⟨d, rfl, ⟨hd, hl⟩, q, e⟩
  show rd_read_number (dEnds Q E) [.im d, .un, .un]
  unfold rd_read_number
  cases d with
  | dict k =>
    cases k with
    | nil => exact (hd rfl).elim
    | cons a r => have e := e rfl; walk_at "go"
  | none => have e := e rfl; walk_at "go"
  | bool b => have e := e rfl; walk_at "go"
  | int b => have e := e rfl; walk_at "go"
  | list l => have e := e rfl; walk_at "go"
  | tuple l => have e := e rfl; walk_at "go"
  | str a =>
    have la := hl a rfl
    have q : ∀ n, numL a.cps.toList = some n → Q (.im (.int n)) := q
    have e : numL a.cps.toList = none → E .NoText := e
    have raise : ¬ numOk a.cps.toList → E .NoText := fun h => e (numL_none h)
    walk_at "go"
    conv => whnf
    refine if_rest (fun ρ' => ∃ f : Str, f.cps.toList = cutM a.cps.toList ∧ f.length ≤ 950 ∧ ρ' = [.im (.str a), .im (.str f), .un]) (fun N hN => ?_) ?_
    · rw [starts_minus]
      refine ifD (fun z => ?_) (fun z => ?_)
      · conv => whnf
        refine ⟨le_line (by omega), ?_⟩
        exact hN _ ⟨_, (cut_rest a).trans (cutM_tail z), Nat.le_trans (cutS_length _ _ _) la, rfl⟩
      · exact hN _ ⟨a, (cutM_plain z).symm, la, rfl⟩
    rintro ρ' ⟨f, hf, lf, rfl⟩
    have hfl := str_len f
    conv => whnf
    refine ifD (fun z => ?_) (fun z1 => ?_)
    · have e := raise fun o => o.1 (by rw [← hf]; exact text_empty.1 z)
      first | exact e | exact ifB1 rfl e
    conv => whnf
    refine ⟨le_line (by omega), ?_⟩
    conv => whnf
    refine ifD (fun z => ?_) (fun z2 => ?_)
    · have e := raise fun o => by have := o.2.1; rw [← hf] at this; omega
      first | exact e | exact ifB1 rfl e
    conv => whnf
    refine for_pre f.cps.toList (fun c => PyData.str ⟨#[c]⟩) (fun pre ρ => (∀ c ∈ pre, figB c = true) ∧ ∃ x, ρ = [.im (.str a), .im (.str f), x]) ⟨fun _ h => (nomatch h), _, rfl⟩ ?_ ?_
    · rintro pre c suf ρ K hpre ⟨hall, x, rfl⟩ hK
      unfold rd_read_number_b0
      conv => whnf
      refine ⟨c, rfl, ?_⟩
      rw [fig_mem]
      cases hc : figB c with
      | true =>
        conv => whnf
        refine ifB0 rfl ?_
        exact hK _ ⟨fun d m => by
          rcases List.mem_append.1 m with m | m
          · exact hall d m
          · rw [List.mem_singleton.1 m]; exact hc, _, rfl⟩
      | false =>
        have e := raise fun o => by
          have := o.2.2.1 c (by rw [← hf, hpre]; simp)
          rw [hc] at this; cases this
        conv => whnf
        first | exact e | exact ifB1 rfl e
    rintro ρ ⟨hall, x, rfl⟩
    cases hh : f.cps.toList with
    | nil => exact (z1 (text_empty.2 hh)).elim
    | cons c0 r0 =>
    conv => whnf
    refine ⟨le_line (by omega), ?_⟩
    refine ⟨c0, by rw [hh]; exact atI_head c0 r0, ?_⟩
    have fin : numOk a.cps.toList → Q (.im (.int (if cutM a.cps.toList = a.cps.toList then (valF (cutM a.cps.toList) : Int) else -(valF (cutM a.cps.toList) : Int)))) := fun o => q _ (numL_some o)
    have mk : (c0 = 48 → a.cps.toList = [48]) → numOk a.cps.toList := fun h => ⟨by rw [← hf, hh]; simp, by rw [← hf]; omega, by rw [← hf]; exact hall, fun z => h (by rw [← hf, hh] at z; simpa using z)⟩
    have done : numOk a.cps.toList → gIntS (.im (.str a)) (fun x1 => (dEnds Q E).rt x1 [.im (.str a), .im (.str f), x]) := fun o => ⟨_, num_int (numL_some o), by
      have := o.2.1
      have := cutM_ge a.cps.toList
      have := str_len a
      omega, fin o⟩
    conv => whnf
    refine ifD (fun z => ?_) (fun z3 => ?_)
    · conv => whnf
      refine ifN (fun y => ?_) (fun y => ?_)
      · have e := raise fun o => y (text_nought.2 (o.2.2.2 (by rw [← hf, hh, is_nought.1 z]; rfl)))
        first | exact e | exact ifB1 rfl e
      · have d := done (mk fun _ => text_nought.1 y)
        first | exact d | exact ifB0 rfl d
    · have d := done (mk fun h => absurd (is_nought.2 h) z3)
      first | exact d | exact ifB0 rfl d

/-! read_poly -/
abbrev N_read_poly : List Str := ["text", "words", "word"]
def rd_read_poly : RC := rSeq (rIf (rNot (rTV (rFn1 (gIsi .str) (rVar 0)))) (rRaise .NoText) (rSkip)) (rSeq (rSet 1 (rM1 gSplit (rVar 0) (rC (.str ",")))) (rSeq (rFz 1) (rSeq (rIf (rCmpT gtP (rFn1 gLen (rVar 1)) (rC (.int 13))) (rRaise .NoText) (rSkip)) (rRet (rLcX (rIt (rVar 1)) (.nm 2) (rCallC sp_read_number (rCons (rVar 2) (rNil))) [2])))))
def sp_read_poly : PSp := fun ds Q E => ∃ d : PyData, ds = [d] ∧ okT 950 d ∧ (∀ l, rdP d = some l → Q (.ow (.ls (l.map .int)))) ∧ (rdP d = none → E .NoText)
theorem len_read_poly : ∀ ds Q E, sp_read_poly ds Q E → ds.length = (["text"] : List Str).length := by
  rintro ds Q E ⟨d, rfl, _⟩; rfl
theorem pure_read_poly : ∀ ds Q E, sp_read_poly ds Q E → rd_read_poly (dEnds Q E) (start0 N_read_poly ds) := by
  rintro ds Q E ⟨d, rfl, ⟨hd, hl⟩, q, e⟩
  show rd_read_poly (dEnds Q E) [.im d, .un, .un]
  unfold rd_read_poly
  cases d with
  | dict k =>
    cases k with
    | nil => exact (hd rfl).elim
    | cons a r => have e := e rfl; walk_at "go"
  | none => have e := e rfl; walk_at "go"
  | bool b => have e := e rfl; walk_at "go"
  | int b => have e := e rfl; walk_at "go"
  | list l => have e := e rfl; walk_at "go"
  | tuple l => have e := e rfl; walk_at "go"
  | str a =>
    have la := hl a rfl
    walk_at "go"
    conv => whnf
    refine ⟨le_line (by omega), ?_⟩
    conv => whnf
    have hm := split_many a
    have q : ∀ l, (Txt.split a (Str.ofString ",")).length ≤ 13 → allN (Txt.split a (Str.ofString ",")) = some l → Q (.ow (.ls (l.map .int))) := fun l h1 h2 => q l (by rw [rdP_str, if_pos h1, h2])
    have e1 : 13 < (Txt.split a (Str.ofString ",")).length → E .NoText := fun h => e (by rw [rdP_str, if_neg (by omega)])
    have e2 : (Txt.split a (Str.ofString ",")).length ≤ 13 → allN (Txt.split a (Str.ofString ",")) = none → E .NoText := fun h1 h2 => e (by rw [rdP_str, if_pos h1, h2])
    have hw : ∀ w ∈ Txt.split a (Str.ofString ","), w.length ≤ 950 := fun w h => Nat.le_trans (split_mem h) la
    generalize Txt.split a (Str.ofString ",") = ws at *
    rw [List.length_map]
    refine ifD (fun z => ?_) (fun z => ?_)
    · have e := e1 (by omega)
      first | exact e | exact ifB1 rfl e
    conv => whnf
    refine ⟨le_line (by rw [List.length_map]; omega), ?_⟩
    rw [lcX_eq]
    have key : ∀ (ws' : List Str) (acc : List PyData) (R : Option (List Int)) (K : PV → Prop), (∀ w ∈ ws', w.length ≤ 950) → (∀ l, allN ws' = some l → K (.ow (.ls (acc ++ l.map .int)))) → (allN ws' = none → E .NoText) →
        lcXR (Tgt.nm 2).go (rCallC sp_read_number (rCons (rVar 2) rNil)) (fun c => (dEnds Q E).ex c [.im (.str a), .im (.list (ws.map .str)), .un]) [.im (.str a), .im (.list (ws.map .str)), .un] (ws'.map .str) acc K := by
      intro ws'
      induction ws' with
      | nil =>
        intro acc R K _ hq _
        show K (.ow (.ls acc))
        have := hq [] rfl
        simpa using this
      | cons w r ih =>
        intro acc R K hw' hq he
        refine ⟨_, rfl, ⟨by simp, by rintro _ ⟨⟩; exact hw' w List.mem_cons_self⟩, fun n hn => ?_, fun hn => ?_⟩
        · refine ih _ R K (fun x m => hw' x (List.mem_cons_of_mem _ m)) (fun l hl => ?_) (fun hl => ?_)
          · have := hq (n :: l) (by unfold allN; rw [show numS w = some n from hn, hl])
            simpa using this
          · exact he (by unfold allN; rw [hl]; cases numS w <;> rfl)
        · exact he (by unfold allN; rw [show numS w = none from hn])
    exact key ws [] none _ hw (fun l hl => q l (by omega) hl) (fun hl => e2 (by omega) hl)

/-! _law_refused -/
abbrev N__law_refused : List Str := ["thing", "poly", "some", "plain", "e"]
def rd__law_refused : RC := rSeq (rSet 2 (rLst (rNil))) (rSeq (rFz 2) (rSeq (rSet 3 (rC (.bool false))) (rSeq (rTryAs (rIf (rTV (rVar 1)) (rDrop (rCall sp_read_poly (rCons (rVar 0) (rNil)))) (rDrop (rCall sp_read_number (rCons (rVar 0) (rNil))))) .RestError [.NoText] 4 (fun xc xa => rSeq (rSet 3 (rIsE 4 xa true)) (rSeq (rSet 2 (rLst (rCons (rIsE 4 xa (subX xc .NoText)) (rCons (rIsE 4 xa (subX xc .NoRow)) (rCons (rIsE 4 xa (subX xc .NoName)) (rCons (rIsE 4 xa (subX xc .TooDeep)) (rNil))))))) (rSeq (rFz 2) (rSkip))))) (rRet (rAndV (rVar 3) (rCmp eqP (rVar 2) (rLst (rCons (rC (.bool true)) (rCons (rC (.bool false)) (rCons (rC (.bool false)) (rCons (rC (.bool false)) (rNil))))))))))))
def sp__law_refused : PSp := fun ds Q _ => ∃ (d : PyData) (b : Bool), ds = [d, .bool b] ∧ okT 950 d ∧ (if b then rdP d = none else rdN d = none) ∧ Q (.im (.bool true))
theorem len__law_refused : ∀ ds Q E, sp__law_refused ds Q E → ds.length = (["thing", "poly"] : List Str).length := by
  rintro ds Q E ⟨p, f, rfl, _⟩; rfl
theorem pure__law_refused : ∀ ds Q E, sp__law_refused ds Q E → rd__law_refused (dEnds Q E) (start0 N__law_refused ds) := by
  rintro ds Q E ⟨d, b, rfl, hd, hn, q⟩
  show rd__law_refused (dEnds Q E) [.im d, .im (.bool b), .un, .un, .un]
  unfold rd__law_refused
  have fin : ∀ x, rRet (rAndV (rVar 3) (rCmp eqP (rVar 2) (rLst (rCons (rC (.bool true)) (rCons (rC (.bool false)) (rCons (rC (.bool false)) (rCons (rC (.bool false)) rNil))))))) (dEnds Q E) [.im d, .im (.bool b), .im (.list ([true, false, false, false].map .bool)), .im (.bool true), x] := fun x => by
    walk_at "go"
  cases b with
  | true =>
    have hn : rdP d = none := hn
    walk_at "go"
    refine ⟨fun l hl => absurd (hn.symm.trans hl) (by simp), fun _ => ⟨List.mem_cons_self, fun _ xa => ?_, fun h => by cases h⟩⟩
    walk_at "go"
  | false =>
    have hn : rdN d = none := hn
    walk_at "go"
    refine ⟨fun l hl => absurd (hn.symm.trans hl) (by simp), fun _ => ⟨List.mem_cons_self, fun _ xa => ?_, fun h => by cases h⟩⟩
    walk_at "go"

/-! _law_whole -/
abbrev N__law_whole : List Str := ["thing"]
def rd__law_whole : RC := rRet (rAndV (rFn1 (gIsi .int) (rVar 0)) (rNotV (rFn1 (gIsi .bool) (rVar 0))))
def isInt : PyData → Bool
  | .int _ => true | _ => false
def sp__law_whole : PSp := fun ds Q _ => ∃ d : PyData, ds = [d] ∧ (∀ k, d ≠ .dict k) ∧ Q (.im (.bool (isInt d)))
theorem len__law_whole : ∀ ds Q E, sp__law_whole ds Q E → ds.length = (["thing"] : List Str).length := by
  rintro ds Q E ⟨d, rfl, _⟩; rfl
theorem pure__law_whole : ∀ ds Q E, sp__law_whole ds Q E → rd__law_whole (dEnds Q E) (start0 N__law_whole ds) := by
  rintro ds Q E ⟨d, rfl, hd, q⟩
  show rd__law_whole (dEnds Q E) [.im d]
  unfold rd__law_whole
  cases d <;> first | exact (hd _ rfl).elim | (walk_at "go"; done)

/-! show_poly -/
abbrev N_show_poly : List Str := ["f", "number"]
def rd_show_poly : RC := rRet (rM1 gJoin (rC (.str ",")) (rLc (rIt (rVar 0)) (.nm 1) (rYes) (rFn1 gStrI (rVar 1)) [1]))
def shwP (f : List Int) : Str := Txt.join (Str.ofString ",") (f.map fun n => Str.ofString (toString n))
def sp_show_poly : PSp := fun ds Q _ => ∃ f : List Int, ds = [.list (f.map .int)] ∧ f.length ≤ 100 ∧ (∀ n ∈ f, n.natAbs < 10 ^ 60) ∧ Q (.im (.str (shwP f)))
theorem len_show_poly : ∀ ds Q E, sp_show_poly ds Q E → ds.length = (["f"] : List Str).length := by
  rintro ds Q E ⟨f, rfl, _⟩; rfl
theorem pure_show_poly : ∀ ds Q E, sp_show_poly ds Q E → rd_show_poly (dEnds Q E) (start0 N_show_poly ds) := by
  rintro ds Q E ⟨f, rfl, lf, hf, q⟩
  show rd_show_poly (dEnds Q E) [.im (.list (f.map .int)), .un]
  unfold rd_show_poly
  conv => whnf
  refine ⟨le_line (by rw [List.length_map]; omega), ?_⟩
  refine lc_map f PyData.int (fun n => .str (Str.ofString (toString n))) (fun n hn acc K k => ?_) ?_
  · conv => whnf
    refine ifB1 rfl ?_
    conv => whnf
    exact ⟨log_small (hf n hn), k⟩
  · have ls : ∀ t ∈ f.map (fun n => Str.ofString (toString n)), t.length ≤ 61 := fun t m => by
      obtain ⟨n, hn, rfl⟩ := List.mem_map.1 m
      exact shown_len (hf n hn)
    have h1 := StrLaws.sumLen_le _ ls
    conv => whnf
    refine ⟨f.map (fun n => Str.ofString (toString n)), by rw [List.map_map]; rfl, ?_, q⟩
    have e : (Str.ofString ",").length = 1 := by decide +kernel
    rw [List.length_map] at h1 ⊢
    rw [e]
    omega

/-! _law_one -/
abbrev N__law_one : List Str := ["word", "due", "found"]
def rd__law_one : RC := rSeq (rSet 1 (rC .none)) (rSeq (rIf (rTV (rFn1 (gIsi .str) (rVar 0))) (rSeq (rSet 1 (rCall sp__law_number (rCons (rVar 0) (rNil)))) (rSeq (rFz 1) (rSkip))) (rSkip)) (rSeq (rIf (rCmpT isP (rVar 1) (rC .none)) (rRet (rCall sp__law_refused (rCons (rVar 0) (rCons (rC (.bool false)) (rNil))))) (rSkip)) (rSeq (rSet 2 (rCall sp_read_number (rCons (rVar 0) (rNil)))) (rSeq (rFz 2) (rRet (rAndV (rCall sp__law_whole (rCons (rVar 2) (rNil))) (rAndV (rCmp eqP (rVar 2) (rVar 1)) (rCmp eqSP (rCall sp_show_poly (rCons (rLst (rCons (rVar 1) (rNil))) (rNil))) (rVar 0)))))))))
def sp__law_one : PSp := fun ds Q _ => ∃ (d : PyData), ds = [d] ∧ okT 950 d ∧ Q (.im (.bool true))
theorem len__law_one : ∀ ds Q E, sp__law_one ds Q E → ds.length = (["word"] : List Str).length := by
  rintro ds Q E ⟨p, rfl, _⟩; rfl
theorem pure__law_one : ∀ ds Q E, sp__law_one ds Q E → rd__law_one (dEnds Q E) (start0 N__law_one ds) := by
  rintro ds Q E ⟨d, rfl, hd, q⟩
  show rd__law_one (dEnds Q E) [.im d, .un, .un]
  unfold rd__law_one
  cases d with
  | dict k =>
    cases k with
    | nil => exact (hd.1 rfl).elim
    | cons a r => have e : rdN (.dict (a :: r)) = none := rfl; walk_at "go"; exact ⟨e, q⟩
  | none => have e : rdN .none = none := rfl; walk_at "go"
  | bool b => have e : rdN (.bool b) = none := rfl; walk_at "go"; exact ⟨e, q⟩
  | int b => have e : rdN (.int b) = none := rfl; walk_at "go"; exact ⟨e, q⟩
  | list l => have e : rdN (.list l) = none := rfl; walk_at "go"; exact ⟨e, q⟩
  | tuple l => have e : rdN (.tuple l) = none := rfl; walk_at "go"; exact ⟨e, q⟩
  | str a =>
    have la := hd.2 a rfl
    have e1 : rdN (.str a) = numS a := rfl
    walk_at "go"
    have hs : (PV.im (optD (numS a))).sto = fun Q => Q (PV.im (optD (numS a))) := rfl
    rw [hs]
    cases hn : numS a with
    | none =>
      rw [hn] at e1
      walk_at "go"
      exact ⟨e1, q⟩
    | some n =>
      rw [hn] at e1
      have hsm := num_small hn
      have hsh := numS_shown hn
      walk_at "go"
      refine ⟨fun m hm => ?_, fun h => absurd (e1.symm.trans h) (by simp)⟩
      cases Option.some.inj (e1.symm.trans hm)
      walk_at "go"
      conv => whnf
      refine ⟨[n], rfl, (by show 1 ≤ 100; decide), fun z m => by rw [List.mem_singleton.1 m]; exact hsm, ?_⟩
      have e2 : shwP [n] = a := hsh
      rw [e2]
      conv => whnf
      rw [decide_eq_true rfl]
      exact q

/-! _law_poly -/
abbrev N__law_poly : List Str := ["text", "due", "found", "word", "x"]
def rd__law_poly : RC := rSeq (rSet 1 (rLst (rCons (rC .none) (rNil)))) (rSeq (rFz 1) (rSeq (rIf (rTV (rFn1 (gIsi .str) (rVar 0))) (rSeq (rSet 1 (rLc (rIt (rM1 gSplit (rVar 0) (rC (.str ",")))) (.nm 3) (rYes) (rCall sp__law_number (rCons (rVar 3) (rNil))) [3])) (rSeq (rFz 1) (rSkip))) (rSkip)) (rSeq (rIf (rOr (rCmpT inP (rC .none) (rVar 1)) (rCmpT gtP (rFn1 gLen (rVar 1)) (rC (.int 13)))) (rRet (rCall sp__law_refused (rCons (rVar 0) (rCons (rC (.bool true)) (rNil))))) (rSkip)) (rSeq (rSet 2 (rCall sp_read_poly (rCons (rVar 0) (rNil)))) (rSeq (rIf (rOr (rNot (rTV (rFn1 (gIsi .list) (rVar 2)))) (rOr (rCmpT neP (rVar 2) (rVar 1)) (rCmpT neP (rFn1 gLen (rLcO 2 (.nm 4) (rTV (rCall sp__law_whole (rCons (rVar 4) (rNil)))) (rVar 4) [4])) (rFn1 gLen (rVar 1))))) (rRet (rC (.bool false))) (rSkip)) (rSeq (rApp 2 (rC (.int 1))) (rRet (rAndV (rCmp eqP (rCall sp_read_poly (rCons (rVar 0) (rNil))) (rVar 1)) (rCmp eqSP (rCall sp_show_poly (rCons (rFn1 gList (rVar 1)) (rNil))) (rVar 0))))))))))
def sp__law_poly : PSp := fun ds Q _ => ∃ (d : PyData), ds = [d] ∧ okT 950 d ∧ Q (.im (.bool true))
theorem len__law_poly : ∀ ds Q E, sp__law_poly ds Q E → ds.length = (["text"] : List Str).length := by
  rintro ds Q E ⟨p, rfl, _⟩; rfl
theorem pure__law_poly : ∀ ds Q E, sp__law_poly ds Q E → rd__law_poly (dEnds Q E) (start0 N__law_poly ds) := by
  rintro ds Q E ⟨d, rfl, hd, q⟩
  show rd__law_poly (dEnds Q E) [.im d, .un, .un, .un, .un]
  unfold rd__law_poly
  cases d with
  | dict k =>
    cases k with
    | nil => exact (hd.1 rfl).elim
    | cons a r => have e : rdP (.dict (a :: r)) = none := rfl; walk_at "go"; exact ⟨e, q⟩
  | none => have e : rdP .none = none := rfl; walk_at "go"
  | bool b => have e : rdP (.bool b) = none := rfl; walk_at "go"; exact ⟨e, q⟩
  | int b => have e : rdP (.int b) = none := rfl; walk_at "go"; exact ⟨e, q⟩
  | list l => have e : rdP (.list l) = none := rfl; walk_at "go"; exact ⟨e, q⟩
  | tuple l => have e : rdP (.tuple l) = none := rfl; walk_at "go"; exact ⟨e, q⟩
  | str a =>
    have la := hd.2 a rfl
    have e1 := rdP_str (a := a)
    have hj := split_joined a
    have hw : ∀ w ∈ Txt.split a (Str.ofString ","), w.length ≤ 950 := fun w h => Nat.le_trans (split_mem h) la
    have hm := split_many a
    have hd := hd
    walk_at "go"
    conv => whnf
    refine ⟨le_line (by omega), ?_⟩
    generalize Txt.split a (Str.ofString ",") = ws at *
    conv => whnf
    refine ⟨le_line (by rw [List.length_map]; omega), ?_⟩
    refine lc_map ws PyData.str (fun w => optD (numS w)) (fun w hm acc K k => ?_) ?_
    · conv => whnf
      refine ifB1 rfl ?_
      exact ⟨w, rfl, hw w hm, k⟩
    conv => whnf
    refine ⟨by simp [SeqAt.shaped, PV.data, PyData.canLay0, PyData.depth], shaped_opts ws, ?_⟩
    rw [show ((ws.map fun w => optD (numS w)).any fun z => PyData.eqv z (PV.im PyData.none).data) = decide (allN ws = none) from any_opts ws]
    have refused : rdP (.str a) = none → sp__law_refused [.str a, .bool true] (fun x => (dEnds Q E).rt x [.im (.str a), .im (.list (ws.map fun w => optD (numS w))), .un, .un, .un]) (fun c => (dEnds Q E).ex c [.im (.str a), .im (.list (ws.map fun w => optD (numS w))), .un, .un, .un]) := fun h => ⟨_, _, rfl, hd, h, q⟩
    refine ifD (fun z => ?_) (fun z => ?_)
    · have r := refused (by rw [e1]; split <;> first | exact z | rfl)
      first | exact r | exact ifB1 rfl r
    cases hl : allN ws with
    | none => exact (z hl).elim
    | some l =>
    have due : (ws.map fun w => optD (numS w)) = l.map PyData.int := by
      have h := congrArg (List.map optD) (allN_map hl)
      rw [List.map_map, List.map_map] at h
      exact h
    have hlen := allN_len hl
    conv => whnf
    rw [List.length_map]
    refine ifD (fun y => ?_) (fun y => ?_)
    · have r := refused (by rw [e1, if_neg (by omega)])
      first | exact r | exact ifB1 rfl r
    have e3 : rdP (.str a) = some l := by rw [e1, if_pos (by omega), hl]
    rw [due]
    conv => whnf
    refine ⟨_, rfl, hd, fun l' h' => ?_, fun h => by rw [e3] at h; cases h⟩
    cases Option.some.inj (e3.symm.trans h')
    walk_at "go"
    have hsm := allN_small hl
    have hsh : shwP l = a := by
      unfold shwP
      rw [allN_shown hl, ← hj]
      exact StrLaws.glued_eq_join _ _
    refine lc_filt l PyData.int (fun _ => true) PyData.int (fun x hx acc K k1 k2 => ?_) ?_
    · conv => whnf
      refine ⟨_, rfl, by simp, ?_⟩
      conv => whnf
      refine ⟨fun _ => ?_, fun h => by cases h⟩
      exact k1 rfl
    rw [List.filter_eq_self.2 (fun _ _ => rfl)]
    walk_at "go"
    refine ⟨fun l' h' => ?_, fun h => by rw [e3] at h; cases h⟩
    cases Option.some.inj (e3.symm.trans h')
    walk_at "go"
    first
      | done
      | (conv => whnf
         refine ⟨l, rfl, by omega, hsm, ?_⟩
         rw [hsh]
         conv => whnf
         rw [decide_eq_true rfl]
         exact q)

/-! law -/
abbrev N_law : List Str := ["script", "cells", "k", "cell", "many", "numbers", "j", "number"]
def rd_law_b0 : RC := rSeq (rSet 3 (rOp gIx (rVar 1) (rVar 2))) (rSeq (rIf (rNot (rTV (rCall sp__law_one (rCons (rCall sp__law_changed (rCons (rFn1 gStrI (rCall sp__law_great (rCons (rOp gAdd (rOp gDiv (rVar 3) (rC (.int 7))) (rVar 2)) (rNil)))) (rCons (rVar 3) (rNil)))) (rNil))))) (rRet (rC (.bool false))) (rSkip)) (rSeq (rSet 4 (rOp gAdd (rC (.int 1)) (rOp gMod (rVar 3) (rC (.int 13))))) (rSeq (rIf (rCmpT eqP (rOp gMod (rVar 3) (rC (.int 9))) (rC (.int 4))) (rSet 4 (rC (.int 14))) (rSkip)) (rSeq (rSet 5 (rLc (rRng1 (rVar 4)) (.nm 6) (rYes) (rCall sp__law_great (rCons (rOp gAdd (rOp gDiv (rOp gIx (rVar 1) (rOp gMod (rOp gAdd (rVar 2) (rVar 6)) (rFn1 gLen (rVar 1)))) (rC (.int 3))) (rOp gMul (rVar 6) (rVar 6))) (rNil))) [6])) (rSeq (rFz 5) (rIf (rNot (rTV (rCall sp__law_poly (rCons (rCall sp__law_changed (rCons (rM1 gJoin (rC (.str ",")) (rLc (rIt (rVar 5)) (.nm 7) (rYes) (rFn1 gStrI (rVar 7)) [7])) (rCons (rOp gAdd (rOp gDiv (rVar 3) (rC (.int 9))) (rVar 2)) (rNil)))) (rNil))))) (rRet (rC (.bool false))) (rSkip)))))))
def rd_law : RC := rSeq (rSet 1 (rSl (rVar 0) (rNoPart) (rPart (rC (.int 60))))) (rSeq (rFz 1) (rSeq (rIf (rCmpT eqP (rFn1 gLen (rVar 1)) (rC (.int 0))) (rSeq (rSet 1 (rLst (rCons (rC (.int 0)) (rNil)))) (rSeq (rFz 1) (rSkip))) (rSkip)) (rSeq (rFor (rRng1 (rFn1 gLen (rVar 1))) (.nm 2) rd_law_b0) (rRet (rC (.bool true))))))
theorem pure_law : ∀ ds Q E, sp_law ds Q E → rd_law (dEnds Q E) (start0 N_law ds) := by
  rintro ds Q E ⟨ns, rfl, hl, hb, q⟩
  have hb' : ∀ z ∈ ns, Bt 1048576 z := fun z m => Bt.bits (hb z m)
  show rd_law (dEnds Q E) [.im (.list (ns.map .int)), .un, .un, .un, .un, .un, .un, .un]
  unfold rd_law
  walk_at "go"
  conv => whnf
  refine if_rest (fun ρ' => ∃ cs : List Int, 1 ≤ cs.length ∧ cs.length ≤ 60 ∧ (∀ z ∈ cs, Bt 1048576 z) ∧ ρ' = [.im (.list (ns.map .int)), .im (.list (cs.map .int)), .un, .un, .un, .un, .un, .un]) (fun N hN => ?_) ?_
  · refine ifD (fun z => ?_) (fun z => ?_)
    · obtain ⟨cs, e, h1, h2, h3⟩ := cells_no (m := 60) (by decide)
      exact hN _ ⟨cs, h1, h2, h3, by rw [← e]; rfl⟩
    · obtain ⟨cs, e, h1, h2, h3⟩ := cells_ok (m := 60) hb' (by decide) z
      exact hN _ ⟨cs, h1, h2, h3, by rw [← e]; rfl⟩
  rintro ρ' ⟨cs, l0, l1, hcs, rfl⟩
  have ll : (cs.map PyData.int).length = cs.length := List.length_map _
  walk_at "go"
  rw [ll, Int.toNat_natCast]
  have hin : ∀ k : Int, 0 ≤ k → k < cs.length → ∃ c, L2.atI (cs.map PyData.int) k = some (.int c) ∧ Bt 1048576 c := fun k h0 h1 => by
    obtain ⟨v, hv, m⟩ := atI_some (xs := cs) (k := k) h0 h1
    exact ⟨v, atI_ints hv, hcs v m⟩
  refine for_upto _ _ (fun i ρ => ∃ x2 x3 x4 x5 x6 x7 : PV, ρ = [.im (.list (ns.map .int)), .im (.list (cs.map .int)), x2, x3, x4, x5, x6, x7]) ⟨_, _, _, _, _, _, rfl⟩ ?_ ?_
  · rintro i ρ K hi ⟨x2, x3, x4, x5, x6, x7, rfl⟩ hK
    have hi60 : i < 60 := by omega
    unfold rd_law_b0
    obtain ⟨c, hc, bc⟩ := hin i (by omega) (by omega)
    have bi : Bt 60 (i : Int) := Bt.num (by omega)
    conv => whnf
    refine ⟨_, hc, ?_⟩
    walk_at "go"
    intro n hn
    have hsl := shown_len hn
    conv => whnf
    refine ⟨log_small hn, ?_⟩
    refine ⟨_, _, rfl, by omega, by walk_at "side", fun d hd => ?_⟩
    conv => whnf
    refine ⟨_, rfl, hd, ?_⟩
    walk_at "go"
    conv => whnf
    refine if_rest (fun ρ' => ∃ m : Nat, m ≤ 14 ∧ ∃ x5 x6 x7, ρ' = [.im (.list (ns.map .int)), .im (.list (cs.map .int)), .im (.int (i : Nat)), .im (.int c), .im (.int (m : Nat)), x5, x6, x7]) (fun N hN => ?_) ?_
    · refine ifD (fun z => ?_) (fun z => ?_)
      · exact hN _ ⟨14, by decide, _, _, _, rfl⟩
      · exact hN _ ⟨(1 + c % 13).toNat, by omega, x5, x6, x7, by rw [Int.toNat_of_nonneg (by omega)] <;> rfl⟩
    rintro ρ' ⟨m, hm, x5, x6, x7, rfl⟩
    walk_at "go"
    have lpos : (0 : Int) < cs.length := by omega
    refine lc_ints (fun v => v.natAbs < 10 ^ 60) _ (fun d' hd' acc K2 k => ?_) fun L hL hP => ?_
    · obtain ⟨j, rfl, j0, j1⟩ := rng_mem hd'
      have j14 : j < 14 := by omega
      obtain ⟨e, he, be⟩ := hin (((i : Int) + j) % cs.length) (Int.emod_nonneg _ (by omega)) (Int.emod_lt_of_pos _ (by omega))
      have bj : Bt 60 j := Bt.num (by omega)
      conv => whnf
      refine ifB1 rfl ?_
      conv => whnf
      rw [ll]
      refine ⟨by omega, ?_⟩
      conv => whnf
      refine ⟨_, he, ?_⟩
      walk_at "go"
    rw [upto_len, Int.toNat_natCast] at hL
    walk_at "go"
    refine lc_map L PyData.int (fun n => .str (Str.ofString (toString n))) (fun n hn acc K2 k => ?_) ?_
    · conv => whnf
      refine ifB1 rfl ?_
      conv => whnf
      exact ⟨log_small (hP n hn), k⟩
    have ls : ∀ t ∈ L.map (fun n => Str.ofString (toString n)), t.length ≤ 61 := fun t m => by
      obtain ⟨n, hn, rfl⟩ := List.mem_map.1 m
      exact shown_len (hP n hn)
    have h1 := StrLaws.sumLen_le _ ls
    have h2 := join_len (sep := Str.ofString ",") (by decide +kernel) ls
    have e : (Str.ofString ",").length = 1 := by decide +kernel
    rw [List.length_map] at h1 h2
    conv => whnf
    refine ⟨L.map (fun n => Str.ofString (toString n)), by rw [List.map_map]; rfl, ?_, ?_⟩
    · rw [List.length_map, e]; omega
    conv => whnf
    have h3 : (Txt.join (Str.ofString ",") (L.map fun n => Str.ofString (toString n))).length ≤ 868 := by
      rw [show Txt.join (Str.ofString ",") (L.map fun n => Str.ofString (toString n)) = Str.join (Str.ofString ",") (L.map fun n => Str.ofString (toString n)) from StrLaws.glued_eq_join _ _]
      omega
    refine ⟨by walk_at "side", ?_⟩
    refine ⟨_, _, rfl, by omega, by walk_at "side", fun d hd => ?_⟩
    conv => whnf
    refine ⟨_, rfl, hd, ?_⟩
    walk_at "go"
    exact hK _ ⟨_, _, _, _, _, _, rfl⟩
  · rintro ρ ⟨x2, x3, x4, x5, x6, x7, rfl⟩
    walk_at "go"

end Pz
namespace Pz
open PySem PySem.Spec PyProof.Rows L2
def topS (i : Nat) : Stmt := PySem.Challenge.pw_deeprests_k81_polynomials_read.main.body.getD i (.Pass ⟨0, 0, 0, 0⟩)
theorem nm__law_changed : ((("_law_changed" : Str) == ("__debug__" : Str)) = false) ∧ ((("_law_changed" : Str) == ("__classdict__" : Str)) = false) := ⟨by decide +kernel, by decide +kernel⟩
theorem nm__law_great : ((("_law_great" : Str) == ("__debug__" : Str)) = false) ∧ ((("_law_great" : Str) == ("__classdict__" : Str)) = false) := ⟨by decide +kernel, by decide +kernel⟩
theorem nm__law_number : ((("_law_number" : Str) == ("__debug__" : Str)) = false) ∧ ((("_law_number" : Str) == ("__classdict__" : Str)) = false) := ⟨by decide +kernel, by decide +kernel⟩
theorem nm__law_odd : ((("_law_odd" : Str) == ("__debug__" : Str)) = false) ∧ ((("_law_odd" : Str) == ("__classdict__" : Str)) = false) := ⟨by decide +kernel, by decide +kernel⟩
theorem nm__law_one : ((("_law_one" : Str) == ("__debug__" : Str)) = false) ∧ ((("_law_one" : Str) == ("__classdict__" : Str)) = false) := ⟨by decide +kernel, by decide +kernel⟩
theorem nm__law_poly : ((("_law_poly" : Str) == ("__debug__" : Str)) = false) ∧ ((("_law_poly" : Str) == ("__classdict__" : Str)) = false) := ⟨by decide +kernel, by decide +kernel⟩
theorem nm__law_refused : ((("_law_refused" : Str) == ("__debug__" : Str)) = false) ∧ ((("_law_refused" : Str) == ("__classdict__" : Str)) = false) := ⟨by decide +kernel, by decide +kernel⟩
theorem nm__law_sign : ((("_law_sign" : Str) == ("__debug__" : Str)) = false) ∧ ((("_law_sign" : Str) == ("__classdict__" : Str)) = false) := ⟨by decide +kernel, by decide +kernel⟩
theorem nm__law_whole : ((("_law_whole" : Str) == ("__debug__" : Str)) = false) ∧ ((("_law_whole" : Str) == ("__classdict__" : Str)) = false) := ⟨by decide +kernel, by decide +kernel⟩
theorem nm_cell : ((("cell" : Str) == ("__debug__" : Str)) = false) ∧ ((("cell" : Str) == ("__classdict__" : Str)) = false) := ⟨by decide +kernel, by decide +kernel⟩
theorem nm_cells : ((("cells" : Str) == ("__debug__" : Str)) = false) ∧ ((("cells" : Str) == ("__classdict__" : Str)) = false) := ⟨by decide +kernel, by decide +kernel⟩
theorem nm_due : ((("due" : Str) == ("__debug__" : Str)) = false) ∧ ((("due" : Str) == ("__classdict__" : Str)) = false) := ⟨by decide +kernel, by decide +kernel⟩
theorem nm_e : ((("e" : Str) == ("__debug__" : Str)) = false) ∧ ((("e" : Str) == ("__classdict__" : Str)) = false) := ⟨by decide +kernel, by decide +kernel⟩
theorem nm_f : ((("f" : Str) == ("__debug__" : Str)) = false) ∧ ((("f" : Str) == ("__classdict__" : Str)) = false) := ⟨by decide +kernel, by decide +kernel⟩
theorem nm_figures : ((("figures" : Str) == ("__debug__" : Str)) = false) ∧ ((("figures" : Str) == ("__classdict__" : Str)) = false) := ⟨by decide +kernel, by decide +kernel⟩
theorem nm_found : ((("found" : Str) == ("__debug__" : Str)) = false) ∧ ((("found" : Str) == ("__classdict__" : Str)) = false) := ⟨by decide +kernel, by decide +kernel⟩
theorem nm_j : ((("j" : Str) == ("__debug__" : Str)) = false) ∧ ((("j" : Str) == ("__classdict__" : Str)) = false) := ⟨by decide +kernel, by decide +kernel⟩
theorem nm_k : ((("k" : Str) == ("__debug__" : Str)) = false) ∧ ((("k" : Str) == ("__classdict__" : Str)) = false) := ⟨by decide +kernel, by decide +kernel⟩
theorem nm_many : ((("many" : Str) == ("__debug__" : Str)) = false) ∧ ((("many" : Str) == ("__classdict__" : Str)) = false) := ⟨by decide +kernel, by decide +kernel⟩
theorem nm_number : ((("number" : Str) == ("__debug__" : Str)) = false) ∧ ((("number" : Str) == ("__classdict__" : Str)) = false) := ⟨by decide +kernel, by decide +kernel⟩
theorem nm_numbers : ((("numbers" : Str) == ("__debug__" : Str)) = false) ∧ ((("numbers" : Str) == ("__classdict__" : Str)) = false) := ⟨by decide +kernel, by decide +kernel⟩
theorem nm_place : ((("place" : Str) == ("__debug__" : Str)) = false) ∧ ((("place" : Str) == ("__classdict__" : Str)) = false) := ⟨by decide +kernel, by decide +kernel⟩
theorem nm_plain : ((("plain" : Str) == ("__debug__" : Str)) = false) ∧ ((("plain" : Str) == ("__classdict__" : Str)) = false) := ⟨by decide +kernel, by decide +kernel⟩
theorem nm_poly : ((("poly" : Str) == ("__debug__" : Str)) = false) ∧ ((("poly" : Str) == ("__classdict__" : Str)) = false) := ⟨by decide +kernel, by decide +kernel⟩
theorem nm_read_number : ((("read_number" : Str) == ("__debug__" : Str)) = false) ∧ ((("read_number" : Str) == ("__classdict__" : Str)) = false) := ⟨by decide +kernel, by decide +kernel⟩
theorem nm_read_poly : ((("read_poly" : Str) == ("__debug__" : Str)) = false) ∧ ((("read_poly" : Str) == ("__classdict__" : Str)) = false) := ⟨by decide +kernel, by decide +kernel⟩
theorem nm_script : ((("script" : Str) == ("__debug__" : Str)) = false) ∧ ((("script" : Str) == ("__classdict__" : Str)) = false) := ⟨by decide +kernel, by decide +kernel⟩
theorem nm_show_poly : ((("show_poly" : Str) == ("__debug__" : Str)) = false) ∧ ((("show_poly" : Str) == ("__classdict__" : Str)) = false) := ⟨by decide +kernel, by decide +kernel⟩
theorem nm_sign : ((("sign" : Str) == ("__debug__" : Str)) = false) ∧ ((("sign" : Str) == ("__classdict__" : Str)) = false) := ⟨by decide +kernel, by decide +kernel⟩
theorem nm_signs : ((("signs" : Str) == ("__debug__" : Str)) = false) ∧ ((("signs" : Str) == ("__classdict__" : Str)) = false) := ⟨by decide +kernel, by decide +kernel⟩
theorem nm_some : ((("some" : Str) == ("__debug__" : Str)) = false) ∧ ((("some" : Str) == ("__classdict__" : Str)) = false) := ⟨by decide +kernel, by decide +kernel⟩
theorem nm_text : ((("text" : Str) == ("__debug__" : Str)) = false) ∧ ((("text" : Str) == ("__classdict__" : Str)) = false) := ⟨by decide +kernel, by decide +kernel⟩
theorem nm_thing : ((("thing" : Str) == ("__debug__" : Str)) = false) ∧ ((("thing" : Str) == ("__classdict__" : Str)) = false) := ⟨by decide +kernel, by decide +kernel⟩
theorem nm_way : ((("way" : Str) == ("__debug__" : Str)) = false) ∧ ((("way" : Str) == ("__classdict__" : Str)) = false) := ⟨by decide +kernel, by decide +kernel⟩
theorem nm_word : ((("word" : Str) == ("__debug__" : Str)) = false) ∧ ((("word" : Str) == ("__classdict__" : Str)) = false) := ⟨by decide +kernel, by decide +kernel⟩
theorem nm_words : ((("words" : Str) == ("__debug__" : Str)) = false) ∧ ((("words" : Str) == ("__classdict__" : Str)) = false) := ⟨by decide +kernel, by decide +kernel⟩
theorem nm_x : ((("x" : Str) == ("__debug__" : Str)) = false) ∧ ((("x" : Str) == ("__classdict__" : Str)) = false) := ⟨by decide +kernel, by decide +kernel⟩
structure Tx (K : PySem.W.Frag) (mg : Str → Option Value) (cl : Xn → Addr) : Prop where
  b_ValueError : mg "ValueError" = none
  b_bool : mg "bool" = none
  b_int : mg "int" = none
  b_isinstance : mg "isinstance" = none
  b_len : mg "len" = none
  b_list : mg "list" = none
  b_range : mg "range" = none
  b_str : mg "str" = none
  i_MOST_FIGURES : ∃ t, mg "MOST_FIGURES" = some (.int 60 t)
  i_MOST_NUMBERS : ∃ t, mg "MOST_NUMBERS" = some (.int 13 t)
  x_NoText : ExcF K mg cl .NoText
  t_NoName : ExcT K mg cl .NoName
  t_NoRow : ExcT K mg cl .NoRow
  t_NoText : ExcT K mg cl .NoText
  t_RestError : ExcT K mg cl .RestError
  t_TooDeep : ExcT K mg cl .TooDeep
  s_NoText_NoName : PySem.W.subIn K (.ref (cl .NoText)) (.ref (cl .NoName)) = some (subX .NoText .NoName)
  s_NoText_NoRow : PySem.W.subIn K (.ref (cl .NoText)) (.ref (cl .NoRow)) = some (subX .NoText .NoRow)
  s_NoText_NoText : PySem.W.subIn K (.ref (cl .NoText)) (.ref (cl .NoText)) = some (subX .NoText .NoText)
  s_NoText_RestError : PySem.W.subIn K (.ref (cl .NoText)) (.ref (cl .RestError)) = some (subX .NoText .RestError)
  s_NoText_TooDeep : PySem.W.subIn K (.ref (cl .NoText)) (.ref (cl .TooDeep)) = some (subX .NoText .TooDeep)
  c_NoText : ExcC K (cl .NoText)
  v_NoText : PySem.W.subIn K (.ref (cl .NoText)) (.type "ValueError") = some true
abbrev st__law_odd : Stmt := topS 17
theorem sc__law_odd : FnScope N__law_odd ["cell"] (defScope st__law_odd) := ⟨rfl, rfl, rfl, by decide +kernel, rfl, by decide +kernel, by decide +kernel⟩
theorem lcl__law_odd_cell : (defScope st__law_odd).names.lookup ("cell" : Str) = some .local := by decide +kernel
theorem loc__law_odd_cell : Loc (defScope st__law_odd) ("cell" : Str) := .inl lcl__law_odd_cell
theorem vis__law_odd_cell : Vis (defScope st__law_odd) ("cell" : Str) := (.inl lcl__law_odd_cell)
theorem lcl__law_odd_some : (defScope st__law_odd).names.lookup ("some" : Str) = some .local := by decide +kernel
theorem loc__law_odd_some : Loc (defScope st__law_odd) ("some" : Str) := .inl lcl__law_odd_some
theorem vis__law_odd_some : Vis (defScope st__law_odd) ("some" : Str) := (.inl lcl__law_odd_some)
theorem der__law_odd {X : Cx} {Z : Zp} (T : Tx X.K X.mg Z.cl)  (A : WhD X N__law_odd (defScope st__law_odd)) (hc : X.calm = true) (hr : Room 1 X.A) : CSs X Z (defBody st__law_odd) rd__law_odd :=
  css_cons (cs_set A 1 rfl loc__law_odd_some (ce_lst (ca_cons (ce_str) (ca_cons (ce_str) (ca_cons (ce_str) (ca_cons (ce_str) (ca_cons (ce_str) (ca_cons (ce_str) (ca_cons (ce_str) (ca_cons (ce_str) (ca_cons (ce_str) (ca_cons (ce_str) (ca_cons (ce_str) (ca_cons (ce_str) (ca_cons (ce_str) (ca_cons (ce_str) (ca_cons (ce_str) (ca_cons (ce_str) (ca_cons (ce_str) (ca_nil)))))))))))))))))))) (css_fz 1 (css_one (cs_ret (ce_ix (ce_add (ce_var A.toWh 1 rfl vis__law_odd_some nm_some.1 nm_some.2) (ce_lst (ca_cons (ce_non) (ca_cons (ce_int) (ca_cons (ce_bl) (ca_cons (ce_tup (ca_cons (ce_str) (ca_nil))) (ca_cons (ce_lst (ca_cons (ce_str) (ca_nil))) (ca_cons (ce_dnew) (ca_cons (ce_str) (ca_cons (ce_str) (ca_cons (ce_str) (ca_cons (ce_str) (ca_cons (ce_str) (ca_cons (ce_str) (ca_cons (ce_str) (ca_cons (ce_str) (ca_nil))))))))))))))))) (ce_mod (ce_var A.toWh 0 rfl vis__law_odd_cell nm_cell.1 nm_cell.2) (ce_int)) (fun _ _ => rfl)))))
abbrev st__law_sign : Stmt := topS 14
theorem sc__law_sign : FnScope N__law_sign ["cell"] (defScope st__law_sign) := ⟨rfl, rfl, rfl, by decide +kernel, rfl, by decide +kernel, by decide +kernel⟩
theorem lcl__law_sign_cell : (defScope st__law_sign).names.lookup ("cell" : Str) = some .local := by decide +kernel
theorem loc__law_sign_cell : Loc (defScope st__law_sign) ("cell" : Str) := .inl lcl__law_sign_cell
theorem vis__law_sign_cell : Vis (defScope st__law_sign) ("cell" : Str) := (.inl lcl__law_sign_cell)
theorem lcl__law_sign_signs : (defScope st__law_sign).names.lookup ("signs" : Str) = some .local := by decide +kernel
theorem loc__law_sign_signs : Loc (defScope st__law_sign) ("signs" : Str) := .inl lcl__law_sign_signs
theorem vis__law_sign_signs : Vis (defScope st__law_sign) ("signs" : Str) := (.inl lcl__law_sign_signs)
theorem der__law_sign {X : Cx} {Z : Zp} (T : Tx X.K X.mg Z.cl)  (A : WhD X N__law_sign (defScope st__law_sign)) (hc : X.calm = true) (hr : Room 1 X.A) : CSs X Z (defBody st__law_sign) rd__law_sign :=
  css_cons (cs_set A 1 rfl loc__law_sign_signs (ce_str)) (css_cons (cs_set A 1 rfl loc__law_sign_signs (ce_add (ce_var A.toWh 1 rfl vis__law_sign_signs nm_signs.1 nm_signs.2) (ce_str))) (css_one (cs_ret (ce_ix (ce_var A.toWh 1 rfl vis__law_sign_signs nm_signs.1 nm_signs.2) (ce_mod (ce_var A.toWh 0 rfl vis__law_sign_cell nm_cell.1 nm_cell.2) (ce_int)) (fun _ _ => rfl)))))
abbrev st__law_changed : Stmt := topS 18
theorem sc__law_changed : FnScope N__law_changed ["word", "cell"] (defScope st__law_changed) := ⟨rfl, rfl, rfl, by decide +kernel, rfl, by decide +kernel, by decide +kernel⟩
theorem lcl__law_changed_cell : (defScope st__law_changed).names.lookup ("cell" : Str) = some .local := by decide +kernel
theorem loc__law_changed_cell : Loc (defScope st__law_changed) ("cell" : Str) := .inl lcl__law_changed_cell
theorem vis__law_changed_cell : Vis (defScope st__law_changed) ("cell" : Str) := (.inl lcl__law_changed_cell)
theorem lcl__law_changed_place : (defScope st__law_changed).names.lookup ("place" : Str) = some .local := by decide +kernel
theorem loc__law_changed_place : Loc (defScope st__law_changed) ("place" : Str) := .inl lcl__law_changed_place
theorem vis__law_changed_place : Vis (defScope st__law_changed) ("place" : Str) := (.inl lcl__law_changed_place)
theorem lcl__law_changed_way : (defScope st__law_changed).names.lookup ("way" : Str) = some .local := by decide +kernel
theorem loc__law_changed_way : Loc (defScope st__law_changed) ("way" : Str) := .inl lcl__law_changed_way
theorem vis__law_changed_way : Vis (defScope st__law_changed) ("way" : Str) := (.inl lcl__law_changed_way)
theorem lcl__law_changed_word : (defScope st__law_changed).names.lookup ("word" : Str) = some .local := by decide +kernel
theorem loc__law_changed_word : Loc (defScope st__law_changed) ("word" : Str) := .inl lcl__law_changed_word
theorem vis__law_changed_word : Vis (defScope st__law_changed) ("word" : Str) := (.inl lcl__law_changed_word)
theorem gl__law_changed__law_odd : GlN (defScope st__law_changed) ("_law_odd" : Str) := (by decide +kernel : (defScope st__law_changed).names.lookup ("_law_odd" : Str) = some .globalImplicit)
theorem gl__law_changed__law_sign : GlN (defScope st__law_changed) ("_law_sign" : Str) := (by decide +kernel : (defScope st__law_changed).names.lookup ("_law_sign" : Str) = some .globalImplicit)
theorem gl__law_changed_len : GlN (defScope st__law_changed) ("len" : Str) := (by decide +kernel : (defScope st__law_changed).names.lookup ("len" : Str) = some .globalImplicit)
theorem der__law_changed {X : Cx} {Z : Zp} (T : Tx X.K X.mg Z.cl) (G__law_odd : FnAt X.prog X.w X.K X.mg X.base Z.cl 2 "_law_odd" ["cell"] sp__law_odd) (G__law_sign : FnAt X.prog X.w X.K X.mg X.base Z.cl 2 "_law_sign" ["cell"] sp__law_sign) (A : WhD X N__law_changed (defScope st__law_changed)) (hc : X.calm = true) (hr : Room 2 X.A) : CSs X Z (defBody st__law_changed) rd__law_changed :=
  css_cons (cs_set A 2 rfl loc__law_changed_way (ce_mod (ce_var A.toWh 1 rfl vis__law_changed_cell nm_cell.1 nm_cell.2) (ce_int))) (css_cons (cs_set A 1 rfl loc__law_changed_cell (ce_fdiv (ce_var A.toWh 1 rfl vis__law_changed_cell nm_cell.1 nm_cell.2) (ce_int))) (css_cons (cs_set A 3 rfl loc__law_changed_place (ce_mod (ce_var A.toWh 1 rfl vis__law_changed_cell nm_cell.1 nm_cell.2) (ce_add (ce_bi1 A.toWh fn_len call_len gl__law_changed_len T.b_len bo_len (ce_var A.toWh 0 rfl vis__law_changed_word nm_word.1 nm_word.2) (by decide) (by decide +kernel)) (ce_int)))) (css_cons (cs_if (ct_eq hr.units (ce_var A.toWh 2 rfl vis__law_changed_way nm_way.1 nm_way.2) (ce_int)) (css_one (cs_ret (ce_add (ce_add (ce_sliceX (ce_var A.toWh 0 rfl vis__law_changed_word nm_word.1 nm_word.2) (co_none) (co_some (ce_var A.toWh 3 rfl vis__law_changed_place nm_place.1 nm_place.2))) (ce_call G__law_sign A.toWh (hr.mono (by decide)) gl__law_changed__law_sign (ca_cons (ce_fdiv (ce_var A.toWh 1 rfl vis__law_changed_cell nm_cell.1 nm_cell.2) (ce_int)) (ca_nil)) nm__law_sign.1)) (ce_sliceX (ce_var A.toWh 0 rfl vis__law_changed_word nm_word.1 nm_word.2) (co_some (ce_var A.toWh 3 rfl vis__law_changed_place nm_place.1 nm_place.2)) (co_none))))) (css_nil)) (css_cons (cs_if (ct_eq hr.units (ce_var A.toWh 2 rfl vis__law_changed_way nm_way.1 nm_way.2) (ce_int)) (css_one (cs_ret (ce_add (ce_sliceX (ce_var A.toWh 0 rfl vis__law_changed_word nm_word.1 nm_word.2) (co_none) (co_some (ce_var A.toWh 3 rfl vis__law_changed_place nm_place.1 nm_place.2))) (ce_sliceX (ce_var A.toWh 0 rfl vis__law_changed_word nm_word.1 nm_word.2) (co_some (ce_add (ce_var A.toWh 3 rfl vis__law_changed_place nm_place.1 nm_place.2) (ce_int))) (co_none))))) (css_nil)) (css_cons (cs_if (ct_eq hr.units (ce_var A.toWh 2 rfl vis__law_changed_way nm_way.1 nm_way.2) (ce_int)) (css_one (cs_ret (ce_add (ce_var A.toWh 0 rfl vis__law_changed_word nm_word.1 nm_word.2) (ce_sliceX (ce_str) (co_none) (co_some (ce_add (ce_int) (ce_mod (ce_var A.toWh 1 rfl vis__law_changed_cell nm_cell.1 nm_cell.2) (ce_int)))))))) (css_nil)) (css_cons (cs_if (ct_eq hr.units (ce_var A.toWh 2 rfl vis__law_changed_way nm_way.1 nm_way.2) (ce_int)) (css_one (cs_ret (ce_call G__law_odd A.toWh (hr.mono (by decide)) gl__law_changed__law_odd (ca_cons (ce_var A.toWh 1 rfl vis__law_changed_cell nm_cell.1 nm_cell.2) (ca_nil)) nm__law_odd.1))) (css_nil)) (css_one (cs_retV A.toWh 0 rfl vis__law_changed_word nm_word.1 nm_word.2))))))))
abbrev st__law_great : Stmt := topS 16
theorem sc__law_great : FnScope N__law_great ["cell"] (defScope st__law_great) := ⟨rfl, rfl, rfl, by decide +kernel, rfl, by decide +kernel, by decide +kernel⟩
theorem lcl__law_great_cell : (defScope st__law_great).names.lookup ("cell" : Str) = some .local := by decide +kernel
theorem loc__law_great_cell : Loc (defScope st__law_great) ("cell" : Str) := .inl lcl__law_great_cell
theorem vis__law_great_cell : Vis (defScope st__law_great) ("cell" : Str) := (.inl lcl__law_great_cell)
theorem der__law_great {X : Cx} {Z : Zp} (T : Tx X.K X.mg Z.cl)  (A : WhD X N__law_great (defScope st__law_great)) (hc : X.calm = true) (hr : Room 1 X.A) : CSs X Z (defBody st__law_great) rd__law_great :=
  css_cons (cs_if (ct_eq hr.units (ce_mod (ce_var A.toWh 0 rfl vis__law_great_cell nm_cell.1 nm_cell.2) (ce_int)) (ce_int)) (css_one (cs_ret (ce_sub (ce_mod (ce_fdiv (ce_var A.toWh 0 rfl vis__law_great_cell nm_cell.1 nm_cell.2) (ce_int)) (ce_int)) (ce_int)))) (css_nil)) (css_one (cs_ret (ce_add (ce_sub (ce_mod (ce_mul (ce_fdiv (ce_var A.toWh 0 rfl vis__law_great_cell nm_cell.1 nm_cell.2) (ce_int)) (ce_add (ce_add (ce_mul (ce_int) (ce_pow (ce_int) (ce_int))) (ce_mul (ce_int) (ce_pow (ce_int) (ce_int)))) (ce_int))) (ce_sub (ce_mul (ce_int) (ce_pow (ce_int) (ce_int))) (ce_int))) (ce_pow (ce_int) (ce_int))) (ce_int))))
abbrev st__law_number : Stmt := topS 15
theorem sc__law_number : FnScope N__law_number ["word"] (defScope st__law_number) := ⟨rfl, rfl, rfl, by decide +kernel, rfl, by decide +kernel, by decide +kernel⟩
theorem lcl__law_number_figures : (defScope st__law_number).names.lookup ("figures" : Str) = some .local := by decide +kernel
theorem loc__law_number_figures : Loc (defScope st__law_number) ("figures" : Str) := .inl lcl__law_number_figures
theorem vis__law_number_figures : Vis (defScope st__law_number) ("figures" : Str) := (.inl lcl__law_number_figures)
theorem lcl__law_number_number : (defScope st__law_number).names.lookup ("number" : Str) = some .local := by decide +kernel
theorem loc__law_number_number : Loc (defScope st__law_number) ("number" : Str) := .inl lcl__law_number_number
theorem vis__law_number_number : Vis (defScope st__law_number) ("number" : Str) := (.inl lcl__law_number_number)
theorem lcl__law_number_sign : (defScope st__law_number).names.lookup ("sign" : Str) = some .local := by decide +kernel
theorem loc__law_number_sign : Loc (defScope st__law_number) ("sign" : Str) := .inl lcl__law_number_sign
theorem vis__law_number_sign : Vis (defScope st__law_number) ("sign" : Str) := (.inl lcl__law_number_sign)
theorem lcl__law_number_word : (defScope st__law_number).names.lookup ("word" : Str) = some .local := by decide +kernel
theorem loc__law_number_word : Loc (defScope st__law_number) ("word" : Str) := .inl lcl__law_number_word
theorem vis__law_number_word : Vis (defScope st__law_number) ("word" : Str) := (.inl lcl__law_number_word)
theorem gl__law_number_len : GlN (defScope st__law_number) ("len" : Str) := (by decide +kernel : (defScope st__law_number).names.lookup ("len" : Str) = some .globalImplicit)
theorem der__law_number {X : Cx} {Z : Zp} (T : Tx X.K X.mg Z.cl)  (A : WhD X N__law_number (defScope st__law_number)) (hc : X.calm = true) (hr : Room 1 X.A) : CSs X Z (defBody st__law_number) rd__law_number :=
  css_cons (cs_set A 1 rfl loc__law_number_figures (ce_var A.toWh 0 rfl vis__law_number_word nm_word.1 nm_word.2)) (css_cons (cs_if (ct_eqS (ce_sliceX (ce_var A.toWh 0 rfl vis__law_number_word nm_word.1 nm_word.2) (co_none) (co_some (ce_int))) (ce_str)) (css_cons (cs_set A 1 rfl loc__law_number_figures (ce_sliceX (ce_var A.toWh 0 rfl vis__law_number_word nm_word.1 nm_word.2) (co_some (ce_int)) (co_none))) (css_fz 1 (css_nil))) (css_nil)) (css_cons (cs_if (ct_w (cw_or (ct_lt (ce_bi1 A.toWh fn_len call_len gl__law_number_len T.b_len bo_len (ce_var A.toWh 1 rfl vis__law_number_figures nm_figures.1 nm_figures.2) (by decide) (by decide +kernel)) (ce_int)) (cw_or1 (ct_gt (ce_bi1 A.toWh fn_len call_len gl__law_number_len T.b_len bo_len (ce_var A.toWh 1 rfl vis__law_number_figures nm_figures.1 nm_figures.2) (by decide) (by decide +kernel)) (ce_int))))) (css_one (cs_ret (ce_non))) (css_nil)) (css_cons (cs_set A 2 rfl loc__law_number_number (ce_int)) (css_cons (cs_for hc (ci_str (ce_var A.toWh 1 rfl vis__law_number_figures nm_figures.1 nm_figures.2)) (cg_name (A.sto (i := 3) rfl loc__law_number_sign)) (fun _ => (show CSs X _ _ rd__law_number_b0 from css_cons (cs_if (ct_lt (ce_m1 F.slot_str_find F.type_str_find mt_find fn_find (ce_str) (ce_var A.toWh 3 rfl vis__law_number_sign nm_sign.1 nm_sign.2) (hline := rfl)) (ce_int)) (css_one (cs_ret (ce_non))) (css_nil)) (css_cons (cs_set A 2 rfl loc__law_number_number (ce_add (ce_mul (ce_int) (ce_var A.toWh 2 rfl vis__law_number_number nm_number.1 nm_number.2)) (ce_m1 F.slot_str_find F.type_str_find mt_find fn_find (ce_str) (ce_var A.toWh 3 rfl vis__law_number_sign nm_sign.1 nm_sign.2) (hline := rfl)))) (css_fz 2 (css_nil)))))) (css_cons (cs_if (ct_w (cw_and (ct_eqS (ce_ix (ce_var A.toWh 1 rfl vis__law_number_figures nm_figures.1 nm_figures.2) (ce_int) (fun _ _ => rfl)) (ce_str)) (cw_and1 (ct_w (cw_or (ct_gt (ce_bi1 A.toWh fn_len call_len gl__law_number_len T.b_len bo_len (ce_var A.toWh 1 rfl vis__law_number_figures nm_figures.1 nm_figures.2) (by decide) (by decide +kernel)) (ce_int)) (cw_or1 (ct_neS (ce_var A.toWh 0 rfl vis__law_number_word nm_word.1 nm_word.2) (ce_var A.toWh 1 rfl vis__law_number_figures nm_figures.1 nm_figures.2)))))))) (css_one (cs_ret (ce_non))) (css_nil)) (css_cons (cs_if (ct_neS (ce_var A.toWh 0 rfl vis__law_number_word nm_word.1 nm_word.2) (ce_var A.toWh 1 rfl vis__law_number_figures nm_figures.1 nm_figures.2)) (css_one (cs_ret (ce_neg (ce_var A.toWh 2 rfl vis__law_number_number nm_number.1 nm_number.2)))) (css_nil)) (css_one (cs_retV A.toWh 2 rfl vis__law_number_number nm_number.1 nm_number.2))))))))
abbrev st_read_number : Stmt := topS 9
theorem sc_read_number : FnScope N_read_number ["text"] (defScope st_read_number) := ⟨rfl, rfl, rfl, by decide +kernel, rfl, by decide +kernel, by decide +kernel⟩
theorem lcl_read_number_figures : (defScope st_read_number).names.lookup ("figures" : Str) = some .local := by decide +kernel
theorem loc_read_number_figures : Loc (defScope st_read_number) ("figures" : Str) := .inl lcl_read_number_figures
theorem vis_read_number_figures : Vis (defScope st_read_number) ("figures" : Str) := (.inl lcl_read_number_figures)
theorem lcl_read_number_sign : (defScope st_read_number).names.lookup ("sign" : Str) = some .local := by decide +kernel
theorem loc_read_number_sign : Loc (defScope st_read_number) ("sign" : Str) := .inl lcl_read_number_sign
theorem vis_read_number_sign : Vis (defScope st_read_number) ("sign" : Str) := (.inl lcl_read_number_sign)
theorem lcl_read_number_text : (defScope st_read_number).names.lookup ("text" : Str) = some .local := by decide +kernel
theorem loc_read_number_text : Loc (defScope st_read_number) ("text" : Str) := .inl lcl_read_number_text
theorem vis_read_number_text : Vis (defScope st_read_number) ("text" : Str) := (.inl lcl_read_number_text)
theorem gl_read_number_MOST_FIGURES : GlN (defScope st_read_number) ("MOST_FIGURES" : Str) := (by decide +kernel : (defScope st_read_number).names.lookup ("MOST_FIGURES" : Str) = some .globalImplicit)
theorem gl_read_number_NoText : GlN (defScope st_read_number) ("NoText" : Str) := (by decide +kernel : (defScope st_read_number).names.lookup ("NoText" : Str) = some .globalImplicit)
theorem gl_read_number_int : GlN (defScope st_read_number) ("int" : Str) := (by decide +kernel : (defScope st_read_number).names.lookup ("int" : Str) = some .globalImplicit)
theorem gl_read_number_isinstance : GlN (defScope st_read_number) ("isinstance" : Str) := (by decide +kernel : (defScope st_read_number).names.lookup ("isinstance" : Str) = some .globalImplicit)
theorem gl_read_number_len : GlN (defScope st_read_number) ("len" : Str) := (by decide +kernel : (defScope st_read_number).names.lookup ("len" : Str) = some .globalImplicit)
theorem gl_read_number_str : GlN (defScope st_read_number) ("str" : Str) := (by decide +kernel : (defScope st_read_number).names.lookup ("str" : Str) = some .globalImplicit)
theorem der_read_number {X : Cx} {Z : Zp} (T : Tx X.K X.mg Z.cl)  (A : WhD X N_read_number (defScope st_read_number)) (hc : X.calm = true) (hr : Room 1 X.A) : CSs X Z (defBody st_read_number) rd_read_number :=
  css_cons (cs_if (ct_not (ct_val (ce_isi (T := .str) A.toWh gl_read_number_isinstance T.b_isinstance bo_isinstance gl_read_number_str T.b_str bo_str (ce_var A.toWh 0 rfl vis_read_number_text nm_text.1 nm_text.2) (by decide) (by decide +kernel) (by decide) (by decide +kernel)) (fun _ => rfl))) (css_one (cs_raise (c := .NoText) T.x_NoText A.toWh hc gl_read_number_NoText (by decide +kernel))) (css_nil)) (css_cons (cs_set A 1 rfl loc_read_number_figures (ce_var A.toWh 0 rfl vis_read_number_text nm_text.1 nm_text.2)) (css_cons (cs_if (ct_val (ce_m1 F.slot_str_startswith F.type_str_startswith mt_startswith fn_startsW (ce_var A.toWh 0 rfl vis_read_number_text nm_text.1 nm_text.2) (ce_str) (hline := rfl)) (fun _ => rfl)) (css_cons (cs_set A 1 rfl loc_read_number_figures (ce_sliceX (ce_var A.toWh 0 rfl vis_read_number_text nm_text.1 nm_text.2) (co_some (ce_int)) (co_none))) (css_fz 1 (css_nil))) (css_nil)) (css_cons (cs_if (ct_w (cw_or (ct_eqS (ce_var A.toWh 1 rfl vis_read_number_figures nm_figures.1 nm_figures.2) (ce_str)) (cw_or1 (ct_gt (ce_bi1 A.toWh fn_len call_len gl_read_number_len T.b_len bo_len (ce_var A.toWh 1 rfl vis_read_number_figures nm_figures.1 nm_figures.2) (by decide) (by decide +kernel)) (ce_glob A.toWh gl_read_number_MOST_FIGURES T.i_MOST_FIGURES.choose_spec (by decide +kernel)))))) (css_one (cs_raise (c := .NoText) T.x_NoText A.toWh hc gl_read_number_NoText (by decide +kernel))) (css_nil)) (css_cons (cs_for hc (ci_str (ce_var A.toWh 1 rfl vis_read_number_figures nm_figures.1 nm_figures.2)) (cg_name (A.sto (i := 2) rfl loc_read_number_sign)) (fun _ => (show CSs X _ _ rd_read_number_b0 from css_one (cs_if (ct_ninS (ce_var A.toWh 2 rfl vis_read_number_sign nm_sign.1 nm_sign.2) (ce_str)) (css_one (cs_raise (c := .NoText) T.x_NoText A.toWh hc gl_read_number_NoText (by decide +kernel))) (css_nil))))) (css_cons (cs_if (ct_w (cw_and (ct_eqS (ce_ix (ce_var A.toWh 1 rfl vis_read_number_figures nm_figures.1 nm_figures.2) (ce_int) (fun _ _ => rfl)) (ce_str)) (cw_and1 (ct_neS (ce_var A.toWh 0 rfl vis_read_number_text nm_text.1 nm_text.2) (ce_str))))) (css_one (cs_raise (c := .NoText) T.x_NoText A.toWh hc gl_read_number_NoText (by decide +kernel))) (css_nil)) (css_one (cs_ret (ce_ty1 A.toWh fn_intS call_int_str gl_read_number_int T.b_int bo_int (ce_var A.toWh 0 rfl vis_read_number_text nm_text.1 nm_text.2) (by decide) (by decide +kernel)))))))))
abbrev st_read_poly : Stmt := topS 10
theorem sc_read_poly : FnScope N_read_poly ["text"] (defScope st_read_poly) := ⟨rfl, rfl, rfl, by decide +kernel, rfl, by decide +kernel, by decide +kernel⟩
theorem lcl_read_poly_text : (defScope st_read_poly).names.lookup ("text" : Str) = some .local := by decide +kernel
theorem loc_read_poly_text : Loc (defScope st_read_poly) ("text" : Str) := .inl lcl_read_poly_text
theorem vis_read_poly_text : Vis (defScope st_read_poly) ("text" : Str) := (.inl lcl_read_poly_text)
theorem lcl_read_poly_words : (defScope st_read_poly).names.lookup ("words" : Str) = some .local := by decide +kernel
theorem loc_read_poly_words : Loc (defScope st_read_poly) ("words" : Str) := .inl lcl_read_poly_words
theorem vis_read_poly_words : Vis (defScope st_read_poly) ("words" : Str) := (.inl lcl_read_poly_words)
theorem gl_read_poly_MOST_NUMBERS : GlN (defScope st_read_poly) ("MOST_NUMBERS" : Str) := (by decide +kernel : (defScope st_read_poly).names.lookup ("MOST_NUMBERS" : Str) = some .globalImplicit)
theorem gl_read_poly_NoText : GlN (defScope st_read_poly) ("NoText" : Str) := (by decide +kernel : (defScope st_read_poly).names.lookup ("NoText" : Str) = some .globalImplicit)
theorem gl_read_poly_isinstance : GlN (defScope st_read_poly) ("isinstance" : Str) := (by decide +kernel : (defScope st_read_poly).names.lookup ("isinstance" : Str) = some .globalImplicit)
theorem gl_read_poly_len : GlN (defScope st_read_poly) ("len" : Str) := (by decide +kernel : (defScope st_read_poly).names.lookup ("len" : Str) = some .globalImplicit)
theorem gl_read_poly_str : GlN (defScope st_read_poly) ("str" : Str) := (by decide +kernel : (defScope st_read_poly).names.lookup ("str" : Str) = some .globalImplicit)
theorem der_read_poly {X : Cx} {Z : Zp} (T : Tx X.K X.mg Z.cl) (G_read_number : FnAt X.prog X.w X.K X.mg X.base Z.cl 2 "read_number" ["text"] sp_read_number) (A : WhD X N_read_poly (defScope st_read_poly)) (hc : X.calm = true) (hr : Room 2 X.A) : CSs X Z (defBody st_read_poly) rd_read_poly :=
  css_cons (cs_if (ct_not (ct_val (ce_isi (T := .str) A.toWh gl_read_poly_isinstance T.b_isinstance bo_isinstance gl_read_poly_str T.b_str bo_str (ce_var A.toWh 0 rfl vis_read_poly_text nm_text.1 nm_text.2) (by decide) (by decide +kernel) (by decide) (by decide +kernel)) (fun _ => rfl))) (css_one (cs_raise (c := .NoText) T.x_NoText A.toWh hc gl_read_poly_NoText (by decide +kernel))) (css_nil)) (css_cons (cs_set A 1 rfl loc_read_poly_words (ce_m1 F.slot_str_split F.type_str_split mt_split fn_split (ce_var A.toWh 0 rfl vis_read_poly_text nm_text.1 nm_text.2) (ce_str) (hline := rfl))) (css_fz 1 (css_cons (cs_if (ct_gt (ce_bi1 A.toWh fn_len call_len gl_read_poly_len T.b_len bo_len (ce_var A.toWh 1 rfl vis_read_poly_words nm_words.1 nm_words.2) (by decide) (by decide +kernel)) (ce_glob A.toWh gl_read_poly_MOST_NUMBERS T.i_MOST_NUMBERS.choose_spec (by decide +kernel))) (css_one (cs_raise (c := .NoText) T.x_NoText A.toWh hc gl_read_poly_NoText (by decide +kernel))) (css_nil)) (css_one (cs_ret (ce_lcX A hc (ci_val (ce_var A.toWh 1 rfl vis_read_poly_words nm_words.1 nm_words.2)) (own := [("word", 2)]) (blkOk_by (by decide +kernel)) (by decide) (fun _ _ _ _ _ => cg_name ((Wh.blk A.toWh _ _ _ _ _).sto (i := 2) rfl (by decide +kernel))) (fun _ _ _ _ _ => cec_call rfl G_read_number (Wh.blk A.toWh _ _ _ _ _) (hr.mono (by decide)) (gl_of (by decide +kernel)) (ca_cons (ce_var (Wh.blk A.toWh _ _ _ _ _) 2 rfl (vis_of (by decide +kernel)) nm_word.1 nm_word.2) (ca_nil)) nm_read_number.1)))))))
abbrev st__law_refused : Stmt := topS 19
theorem sc__law_refused : FnScope N__law_refused ["thing", "poly"] (defScope st__law_refused) := ⟨rfl, rfl, rfl, by decide +kernel, rfl, by decide +kernel, by decide +kernel⟩
theorem lcl__law_refused_e : (defScope st__law_refused).names.lookup ("e" : Str) = some .local := by decide +kernel
theorem loc__law_refused_e : Loc (defScope st__law_refused) ("e" : Str) := .inl lcl__law_refused_e
theorem vis__law_refused_e : Vis (defScope st__law_refused) ("e" : Str) := (.inl lcl__law_refused_e)
theorem lcl__law_refused_plain : (defScope st__law_refused).names.lookup ("plain" : Str) = some .local := by decide +kernel
theorem loc__law_refused_plain : Loc (defScope st__law_refused) ("plain" : Str) := .inl lcl__law_refused_plain
theorem vis__law_refused_plain : Vis (defScope st__law_refused) ("plain" : Str) := (.inl lcl__law_refused_plain)
theorem lcl__law_refused_poly : (defScope st__law_refused).names.lookup ("poly" : Str) = some .local := by decide +kernel
theorem loc__law_refused_poly : Loc (defScope st__law_refused) ("poly" : Str) := .inl lcl__law_refused_poly
theorem vis__law_refused_poly : Vis (defScope st__law_refused) ("poly" : Str) := (.inl lcl__law_refused_poly)
theorem lcl__law_refused_some : (defScope st__law_refused).names.lookup ("some" : Str) = some .local := by decide +kernel
theorem loc__law_refused_some : Loc (defScope st__law_refused) ("some" : Str) := .inl lcl__law_refused_some
theorem vis__law_refused_some : Vis (defScope st__law_refused) ("some" : Str) := (.inl lcl__law_refused_some)
theorem lcl__law_refused_thing : (defScope st__law_refused).names.lookup ("thing" : Str) = some .local := by decide +kernel
theorem loc__law_refused_thing : Loc (defScope st__law_refused) ("thing" : Str) := .inl lcl__law_refused_thing
theorem vis__law_refused_thing : Vis (defScope st__law_refused) ("thing" : Str) := (.inl lcl__law_refused_thing)
theorem gl__law_refused_NoName : GlN (defScope st__law_refused) ("NoName" : Str) := (by decide +kernel : (defScope st__law_refused).names.lookup ("NoName" : Str) = some .globalImplicit)
theorem gl__law_refused_NoRow : GlN (defScope st__law_refused) ("NoRow" : Str) := (by decide +kernel : (defScope st__law_refused).names.lookup ("NoRow" : Str) = some .globalImplicit)
theorem gl__law_refused_NoText : GlN (defScope st__law_refused) ("NoText" : Str) := (by decide +kernel : (defScope st__law_refused).names.lookup ("NoText" : Str) = some .globalImplicit)
theorem gl__law_refused_RestError : GlN (defScope st__law_refused) ("RestError" : Str) := (by decide +kernel : (defScope st__law_refused).names.lookup ("RestError" : Str) = some .globalImplicit)
theorem gl__law_refused_TooDeep : GlN (defScope st__law_refused) ("TooDeep" : Str) := (by decide +kernel : (defScope st__law_refused).names.lookup ("TooDeep" : Str) = some .globalImplicit)
theorem gl__law_refused_ValueError : GlN (defScope st__law_refused) ("ValueError" : Str) := (by decide +kernel : (defScope st__law_refused).names.lookup ("ValueError" : Str) = some .globalImplicit)
theorem gl__law_refused_isinstance : GlN (defScope st__law_refused) ("isinstance" : Str) := (by decide +kernel : (defScope st__law_refused).names.lookup ("isinstance" : Str) = some .globalImplicit)
theorem gl__law_refused_read_number : GlN (defScope st__law_refused) ("read_number" : Str) := (by decide +kernel : (defScope st__law_refused).names.lookup ("read_number" : Str) = some .globalImplicit)
theorem gl__law_refused_read_poly : GlN (defScope st__law_refused) ("read_poly" : Str) := (by decide +kernel : (defScope st__law_refused).names.lookup ("read_poly" : Str) = some .globalImplicit)
theorem der__law_refused {X : Cx} {Z : Zp} (T : Tx X.K X.mg Z.cl) (G_read_number : FnAt X.prog X.w X.K X.mg X.base Z.cl 2 "read_number" ["text"] sp_read_number) (G_read_poly : FnAt X.prog X.w X.K X.mg X.base Z.cl 3 "read_poly" ["text"] sp_read_poly) (A : WhD X N__law_refused (defScope st__law_refused)) (hc : X.calm = true) (hr : Room 3 X.A) : CSs X Z (defBody st__law_refused) rd__law_refused :=
  css_cons (cs_set A 2 rfl loc__law_refused_some (ce_lst (ca_nil))) (css_fz 2 (css_cons (cs_set A 3 rfl loc__law_refused_plain (ce_bl)) (css_cons (cs_tryAs A 4 rfl lcl__law_refused_e T.t_RestError gl__law_refused_RestError (by decide +kernel) (all_cons T.s_NoText_RestError (all_nil)) (fun xp xe => css_one (cs_if (ct_val (ce_var (A.tr xp xe).toWh 1 rfl vis__law_refused_poly nm_poly.1 nm_poly.2) (fun _ => rfl)) (css_one (cs_expr (ce_call G_read_poly (A.tr xp xe).toWh (hr.mono (by decide)) gl__law_refused_read_poly (ca_cons (ce_var (A.tr xp xe).toWh 0 rfl vis__law_refused_thing nm_thing.1 nm_thing.2) (ca_nil)) nm_read_poly.1))) (css_one (cs_expr (ce_call G_read_number (A.tr xp xe).toWh (hr.mono (by decide)) gl__law_refused_read_number (ca_cons (ce_var (A.tr xp xe).toWh 0 rfl vis__law_refused_thing nm_thing.1 nm_thing.2) (ca_nil)) nm_read_number.1))))) (fun xa xo xc xp hxc hxs hz hf => css_cons (cs_set (A.suite xa ((xa, xo) :: xp)) 3 rfl loc__law_refused_plain (ce_isV (A.suite xa ((xa, xo) :: xp)).toWh 4 rfl vis__law_refused_e nm_e.1 nm_e.2 ((show ∀ c ∈ [Xn.NoText], ExcC X.K (Z.cl c) from (all_cons T.c_NoText (all_nil))) xc hxc) hz hf gl__law_refused_isinstance T.b_isinstance bo_isinstance (by decide) (by decide +kernel) gl__law_refused_ValueError T.b_ValueError ((show ∀ c ∈ [Xn.NoText], PySem.W.subIn X.K (.ref (Z.cl c)) (.type "ValueError") = some true from (all_cons T.v_NoText (all_nil))) xc hxc))) (css_cons (cs_set (A.suite xa ((xa, xo) :: xp)) 2 rfl loc__law_refused_some (ce_lst (ca_cons (ce_isX (d := .NoText) (A.suite xa ((xa, xo) :: xp)).toWh 4 rfl vis__law_refused_e nm_e.1 nm_e.2 ((show ∀ c ∈ [Xn.NoText], ExcC X.K (Z.cl c) from (all_cons T.c_NoText (all_nil))) xc hxc) hz hf gl__law_refused_isinstance T.b_isinstance bo_isinstance (by decide) (by decide +kernel) T.t_NoText gl__law_refused_NoText (by decide +kernel) ((show ∀ c ∈ [Xn.NoText], PySem.W.subIn X.K (.ref (Z.cl c)) (.ref (Z.cl .NoText)) = some (subX c .NoText) from (all_cons T.s_NoText_NoText (all_nil))) xc hxc) ((show ∀ c ∈ [Xn.NoText], PySem.W.subIn X.K (.ref (Z.cl c)) (.ref (Z.cl c)) = some true from (all_cons T.s_NoText_NoText (all_nil))) xc hxc)) (ca_cons (ce_isX (d := .NoRow) (A.suite xa ((xa, xo) :: xp)).toWh 4 rfl vis__law_refused_e nm_e.1 nm_e.2 ((show ∀ c ∈ [Xn.NoText], ExcC X.K (Z.cl c) from (all_cons T.c_NoText (all_nil))) xc hxc) hz hf gl__law_refused_isinstance T.b_isinstance bo_isinstance (by decide) (by decide +kernel) T.t_NoRow gl__law_refused_NoRow (by decide +kernel) ((show ∀ c ∈ [Xn.NoText], PySem.W.subIn X.K (.ref (Z.cl c)) (.ref (Z.cl .NoRow)) = some (subX c .NoRow) from (all_cons T.s_NoText_NoRow (all_nil))) xc hxc) ((show ∀ c ∈ [Xn.NoText], PySem.W.subIn X.K (.ref (Z.cl c)) (.ref (Z.cl c)) = some true from (all_cons T.s_NoText_NoText (all_nil))) xc hxc)) (ca_cons (ce_isX (d := .NoName) (A.suite xa ((xa, xo) :: xp)).toWh 4 rfl vis__law_refused_e nm_e.1 nm_e.2 ((show ∀ c ∈ [Xn.NoText], ExcC X.K (Z.cl c) from (all_cons T.c_NoText (all_nil))) xc hxc) hz hf gl__law_refused_isinstance T.b_isinstance bo_isinstance (by decide) (by decide +kernel) T.t_NoName gl__law_refused_NoName (by decide +kernel) ((show ∀ c ∈ [Xn.NoText], PySem.W.subIn X.K (.ref (Z.cl c)) (.ref (Z.cl .NoName)) = some (subX c .NoName) from (all_cons T.s_NoText_NoName (all_nil))) xc hxc) ((show ∀ c ∈ [Xn.NoText], PySem.W.subIn X.K (.ref (Z.cl c)) (.ref (Z.cl c)) = some true from (all_cons T.s_NoText_NoText (all_nil))) xc hxc)) (ca_cons (ce_isX (d := .TooDeep) (A.suite xa ((xa, xo) :: xp)).toWh 4 rfl vis__law_refused_e nm_e.1 nm_e.2 ((show ∀ c ∈ [Xn.NoText], ExcC X.K (Z.cl c) from (all_cons T.c_NoText (all_nil))) xc hxc) hz hf gl__law_refused_isinstance T.b_isinstance bo_isinstance (by decide) (by decide +kernel) T.t_TooDeep gl__law_refused_TooDeep (by decide +kernel) ((show ∀ c ∈ [Xn.NoText], PySem.W.subIn X.K (.ref (Z.cl c)) (.ref (Z.cl .TooDeep)) = some (subX c .TooDeep) from (all_cons T.s_NoText_TooDeep (all_nil))) xc hxc) ((show ∀ c ∈ [Xn.NoText], PySem.W.subIn X.K (.ref (Z.cl c)) (.ref (Z.cl c)) = some true from (all_cons T.s_NoText_NoText (all_nil))) xc hxc)) (ca_nil))))))) (css_fz 2 (css_nil))))) (css_one (cs_ret (ce_and (ce_var A.toWh 3 rfl vis__law_refused_plain nm_plain.1 nm_plain.2) (ce_one (ce_eq hr.units (ce_var A.toWh 2 rfl vis__law_refused_some nm_some.1 nm_some.2) (ce_lst (ca_cons (ce_bl) (ca_cons (ce_bl) (ca_cons (ce_bl) (ca_cons (ce_bl) (ca_nil))))))))))))))
abbrev st__law_whole : Stmt := topS 13
theorem sc__law_whole : FnScope N__law_whole ["thing"] (defScope st__law_whole) := ⟨rfl, rfl, rfl, by decide +kernel, rfl, by decide +kernel, by decide +kernel⟩
theorem lcl__law_whole_thing : (defScope st__law_whole).names.lookup ("thing" : Str) = some .local := by decide +kernel
theorem loc__law_whole_thing : Loc (defScope st__law_whole) ("thing" : Str) := .inl lcl__law_whole_thing
theorem vis__law_whole_thing : Vis (defScope st__law_whole) ("thing" : Str) := (.inl lcl__law_whole_thing)
theorem gl__law_whole_bool : GlN (defScope st__law_whole) ("bool" : Str) := (by decide +kernel : (defScope st__law_whole).names.lookup ("bool" : Str) = some .globalImplicit)
theorem gl__law_whole_int : GlN (defScope st__law_whole) ("int" : Str) := (by decide +kernel : (defScope st__law_whole).names.lookup ("int" : Str) = some .globalImplicit)
theorem gl__law_whole_isinstance : GlN (defScope st__law_whole) ("isinstance" : Str) := (by decide +kernel : (defScope st__law_whole).names.lookup ("isinstance" : Str) = some .globalImplicit)
theorem der__law_whole {X : Cx} {Z : Zp} (T : Tx X.K X.mg Z.cl)  (A : WhD X N__law_whole (defScope st__law_whole)) (hc : X.calm = true) (hr : Room 1 X.A) : CSs X Z (defBody st__law_whole) rd__law_whole :=
  css_one (cs_ret (ce_and (ce_isi (T := .int) A.toWh gl__law_whole_isinstance T.b_isinstance bo_isinstance gl__law_whole_int T.b_int bo_int (ce_var A.toWh 0 rfl vis__law_whole_thing nm_thing.1 nm_thing.2) (by decide) (by decide +kernel) (by decide) (by decide +kernel)) (ce_one (ce_not (ce_isi (T := .bool) A.toWh gl__law_whole_isinstance T.b_isinstance bo_isinstance gl__law_whole_bool T.b_bool bo_bool (ce_var A.toWh 0 rfl vis__law_whole_thing nm_thing.1 nm_thing.2) (by decide) (by decide +kernel) (by decide) (by decide +kernel))))))
abbrev st_show_poly : Stmt := topS 11
theorem sc_show_poly : FnScope N_show_poly ["f"] (defScope st_show_poly) := ⟨rfl, rfl, rfl, by decide +kernel, rfl, by decide +kernel, by decide +kernel⟩
theorem lcl_show_poly_f : (defScope st_show_poly).names.lookup ("f" : Str) = some .local := by decide +kernel
theorem loc_show_poly_f : Loc (defScope st_show_poly) ("f" : Str) := .inl lcl_show_poly_f
theorem vis_show_poly_f : Vis (defScope st_show_poly) ("f" : Str) := (.inl lcl_show_poly_f)
theorem der_show_poly {X : Cx} {Z : Zp} (T : Tx X.K X.mg Z.cl)  (A : WhD X N_show_poly (defScope st_show_poly)) (hc : X.calm = true) (hr : Room 1 X.A) : CSs X Z (defBody st_show_poly) rd_show_poly :=
  css_one (cs_ret (ce_m1 F.slot_str_join F.type_str_join mt_join fn_join (ce_str) (ce_lc A.toWh hc (ci_val (ce_var A.toWh 0 rfl vis_show_poly_f nm_f.1 nm_f.2)) (own := [("number", 1)]) (blkOk_by (by decide +kernel)) (by decide) (fun _ _ _ _ _ => cg_name ((Wh.blk A.toWh _ _ _ _ _).sto (i := 1) rfl (by decide +kernel))) (fun _ _ _ _ _ => cts_nil) (fun _ _ _ _ _ => ce_ty1 (Wh.blk A.toWh _ _ _ _ _) fn_strI call_str_int (gl_of (by decide +kernel)) T.b_str bo_str (ce_var (Wh.blk A.toWh _ _ _ _ _) 1 rfl (vis_of (by decide +kernel)) nm_number.1 nm_number.2) (by decide) (by decide +kernel))) (hline := rfl)))
abbrev st__law_one : Stmt := topS 20
theorem sc__law_one : FnScope N__law_one ["word"] (defScope st__law_one) := ⟨rfl, rfl, rfl, by decide +kernel, rfl, by decide +kernel, by decide +kernel⟩
theorem lcl__law_one_due : (defScope st__law_one).names.lookup ("due" : Str) = some .local := by decide +kernel
theorem loc__law_one_due : Loc (defScope st__law_one) ("due" : Str) := .inl lcl__law_one_due
theorem vis__law_one_due : Vis (defScope st__law_one) ("due" : Str) := (.inl lcl__law_one_due)
theorem lcl__law_one_found : (defScope st__law_one).names.lookup ("found" : Str) = some .local := by decide +kernel
theorem loc__law_one_found : Loc (defScope st__law_one) ("found" : Str) := .inl lcl__law_one_found
theorem vis__law_one_found : Vis (defScope st__law_one) ("found" : Str) := (.inl lcl__law_one_found)
theorem lcl__law_one_word : (defScope st__law_one).names.lookup ("word" : Str) = some .local := by decide +kernel
theorem loc__law_one_word : Loc (defScope st__law_one) ("word" : Str) := .inl lcl__law_one_word
theorem vis__law_one_word : Vis (defScope st__law_one) ("word" : Str) := (.inl lcl__law_one_word)
theorem gl__law_one__law_number : GlN (defScope st__law_one) ("_law_number" : Str) := (by decide +kernel : (defScope st__law_one).names.lookup ("_law_number" : Str) = some .globalImplicit)
theorem gl__law_one__law_refused : GlN (defScope st__law_one) ("_law_refused" : Str) := (by decide +kernel : (defScope st__law_one).names.lookup ("_law_refused" : Str) = some .globalImplicit)
theorem gl__law_one__law_whole : GlN (defScope st__law_one) ("_law_whole" : Str) := (by decide +kernel : (defScope st__law_one).names.lookup ("_law_whole" : Str) = some .globalImplicit)
theorem gl__law_one_isinstance : GlN (defScope st__law_one) ("isinstance" : Str) := (by decide +kernel : (defScope st__law_one).names.lookup ("isinstance" : Str) = some .globalImplicit)
theorem gl__law_one_read_number : GlN (defScope st__law_one) ("read_number" : Str) := (by decide +kernel : (defScope st__law_one).names.lookup ("read_number" : Str) = some .globalImplicit)
theorem gl__law_one_show_poly : GlN (defScope st__law_one) ("show_poly" : Str) := (by decide +kernel : (defScope st__law_one).names.lookup ("show_poly" : Str) = some .globalImplicit)
theorem gl__law_one_str : GlN (defScope st__law_one) ("str" : Str) := (by decide +kernel : (defScope st__law_one).names.lookup ("str" : Str) = some .globalImplicit)
theorem der__law_one {X : Cx} {Z : Zp} (T : Tx X.K X.mg Z.cl) (G__law_number : FnAt X.prog X.w X.K X.mg X.base Z.cl 2 "_law_number" ["word"] sp__law_number) (G__law_refused : FnAt X.prog X.w X.K X.mg X.base Z.cl 4 "_law_refused" ["thing", "poly"] sp__law_refused) (G__law_whole : FnAt X.prog X.w X.K X.mg X.base Z.cl 2 "_law_whole" ["thing"] sp__law_whole) (G_read_number : FnAt X.prog X.w X.K X.mg X.base Z.cl 2 "read_number" ["text"] sp_read_number) (G_show_poly : FnAt X.prog X.w X.K X.mg X.base Z.cl 2 "show_poly" ["f"] sp_show_poly) (A : WhD X N__law_one (defScope st__law_one)) (hc : X.calm = true) (hr : Room 4 X.A) : CSs X Z (defBody st__law_one) rd__law_one :=
  css_cons (cs_set A 1 rfl loc__law_one_due (ce_non)) (css_cons (cs_if (ct_val (ce_isi (T := .str) A.toWh gl__law_one_isinstance T.b_isinstance bo_isinstance gl__law_one_str T.b_str bo_str (ce_var A.toWh 0 rfl vis__law_one_word nm_word.1 nm_word.2) (by decide) (by decide +kernel) (by decide) (by decide +kernel)) (fun _ => rfl)) (css_cons (cs_set A 1 rfl loc__law_one_due (ce_call G__law_number A.toWh (hr.mono (by decide)) gl__law_one__law_number (ca_cons (ce_var A.toWh 0 rfl vis__law_one_word nm_word.1 nm_word.2) (ca_nil)) nm__law_number.1)) (css_fz 1 (css_nil))) (css_nil)) (css_cons (cs_if (ct_is (ce_var A.toWh 1 rfl vis__law_one_due nm_due.1 nm_due.2) (ce_non)) (css_one (cs_ret (ce_call G__law_refused A.toWh (hr.mono (by decide)) gl__law_one__law_refused (ca_cons (ce_var A.toWh 0 rfl vis__law_one_word nm_word.1 nm_word.2) (ca_cons (ce_bl) (ca_nil))) nm__law_refused.1))) (css_nil)) (css_cons (cs_set A 2 rfl loc__law_one_found (ce_call G_read_number A.toWh (hr.mono (by decide)) gl__law_one_read_number (ca_cons (ce_var A.toWh 0 rfl vis__law_one_word nm_word.1 nm_word.2) (ca_nil)) nm_read_number.1)) (css_fz 2 (css_one (cs_ret (ce_and (ce_call G__law_whole A.toWh (hr.mono (by decide)) gl__law_one__law_whole (ca_cons (ce_var A.toWh 2 rfl vis__law_one_found nm_found.1 nm_found.2) (ca_nil)) nm__law_whole.1) (ce_and (ce_eq hr.units (ce_var A.toWh 2 rfl vis__law_one_found nm_found.1 nm_found.2) (ce_var A.toWh 1 rfl vis__law_one_due nm_due.1 nm_due.2)) (ce_one (ce_eqS (ce_call G_show_poly A.toWh (hr.mono (by decide)) gl__law_one_show_poly (ca_cons (ce_lst (ca_cons (ce_var A.toWh 1 rfl vis__law_one_due nm_due.1 nm_due.2) (ca_nil))) (ca_nil)) nm_show_poly.1) (ce_var A.toWh 0 rfl vis__law_one_word nm_word.1 nm_word.2)))))))))))
abbrev st__law_poly : Stmt := topS 21
theorem sc__law_poly : FnScope N__law_poly ["text"] (defScope st__law_poly) := ⟨rfl, rfl, rfl, by decide +kernel, rfl, by decide +kernel, by decide +kernel⟩
theorem lcl__law_poly_due : (defScope st__law_poly).names.lookup ("due" : Str) = some .local := by decide +kernel
theorem loc__law_poly_due : Loc (defScope st__law_poly) ("due" : Str) := .inl lcl__law_poly_due
theorem vis__law_poly_due : Vis (defScope st__law_poly) ("due" : Str) := (.inl lcl__law_poly_due)
theorem lcl__law_poly_found : (defScope st__law_poly).names.lookup ("found" : Str) = some .local := by decide +kernel
theorem loc__law_poly_found : Loc (defScope st__law_poly) ("found" : Str) := .inl lcl__law_poly_found
theorem vis__law_poly_found : Vis (defScope st__law_poly) ("found" : Str) := (.inl lcl__law_poly_found)
theorem lcl__law_poly_text : (defScope st__law_poly).names.lookup ("text" : Str) = some .local := by decide +kernel
theorem loc__law_poly_text : Loc (defScope st__law_poly) ("text" : Str) := .inl lcl__law_poly_text
theorem vis__law_poly_text : Vis (defScope st__law_poly) ("text" : Str) := (.inl lcl__law_poly_text)
theorem gl__law_poly__law_refused : GlN (defScope st__law_poly) ("_law_refused" : Str) := (by decide +kernel : (defScope st__law_poly).names.lookup ("_law_refused" : Str) = some .globalImplicit)
theorem gl__law_poly_isinstance : GlN (defScope st__law_poly) ("isinstance" : Str) := (by decide +kernel : (defScope st__law_poly).names.lookup ("isinstance" : Str) = some .globalImplicit)
theorem gl__law_poly_len : GlN (defScope st__law_poly) ("len" : Str) := (by decide +kernel : (defScope st__law_poly).names.lookup ("len" : Str) = some .globalImplicit)
theorem gl__law_poly_list : GlN (defScope st__law_poly) ("list" : Str) := (by decide +kernel : (defScope st__law_poly).names.lookup ("list" : Str) = some .globalImplicit)
theorem gl__law_poly_read_poly : GlN (defScope st__law_poly) ("read_poly" : Str) := (by decide +kernel : (defScope st__law_poly).names.lookup ("read_poly" : Str) = some .globalImplicit)
theorem gl__law_poly_show_poly : GlN (defScope st__law_poly) ("show_poly" : Str) := (by decide +kernel : (defScope st__law_poly).names.lookup ("show_poly" : Str) = some .globalImplicit)
theorem gl__law_poly_str : GlN (defScope st__law_poly) ("str" : Str) := (by decide +kernel : (defScope st__law_poly).names.lookup ("str" : Str) = some .globalImplicit)
theorem der__law_poly {X : Cx} {Z : Zp} (T : Tx X.K X.mg Z.cl) (G__law_number : FnAt X.prog X.w X.K X.mg X.base Z.cl 2 "_law_number" ["word"] sp__law_number) (G__law_refused : FnAt X.prog X.w X.K X.mg X.base Z.cl 4 "_law_refused" ["thing", "poly"] sp__law_refused) (G__law_whole : FnAt X.prog X.w X.K X.mg X.base Z.cl 2 "_law_whole" ["thing"] sp__law_whole) (G_read_poly : FnAt X.prog X.w X.K X.mg X.base Z.cl 3 "read_poly" ["text"] sp_read_poly) (G_show_poly : FnAt X.prog X.w X.K X.mg X.base Z.cl 2 "show_poly" ["f"] sp_show_poly) (A : WhD X N__law_poly (defScope st__law_poly)) (hc : X.calm = true) (hr : Room 4 X.A) : CSs X Z (defBody st__law_poly) rd__law_poly :=
  css_cons (cs_set A 1 rfl loc__law_poly_due (ce_lst (ca_cons (ce_non) (ca_nil)))) (css_fz 1 (css_cons (cs_if (ct_val (ce_isi (T := .str) A.toWh gl__law_poly_isinstance T.b_isinstance bo_isinstance gl__law_poly_str T.b_str bo_str (ce_var A.toWh 0 rfl vis__law_poly_text nm_text.1 nm_text.2) (by decide) (by decide +kernel) (by decide) (by decide +kernel)) (fun _ => rfl)) (css_cons (cs_setLc A hc 1 rfl lcl__law_poly_due rfl (by decide +kernel) rfl (ci_val (ce_m1 F.slot_str_split F.type_str_split mt_split fn_split (ce_var A.toWh 0 rfl vis__law_poly_text nm_text.1 nm_text.2) (ce_str) (hline := rfl))) (own := [("word", 3)]) (blkOk_by (by decide +kernel)) (by decide) (fun _ _ _ _ _ => cg_name ((Wh.blk A.toWh _ _ _ _ _).sto (i := 3) rfl (by decide +kernel))) (fun _ _ _ _ _ => cts_nil) (fun _ _ _ _ _ => ce_call G__law_number (Wh.blk A.toWh _ _ _ _ _) (hr.mono (by decide)) (gl_of (by decide +kernel)) (ca_cons (ce_var (Wh.blk A.toWh _ _ _ _ _) 3 rfl (vis_of (by decide +kernel)) nm_word.1 nm_word.2) (ca_nil)) nm__law_number.1)) (css_fz 1 (css_nil))) (css_nil)) (css_cons (cs_if (ct_w (cw_or (ct_in (by have h0 := hr.un; have h1 : X.A.units + 65 < cLine := (by omega); exact h1) (ce_non) (ce_var A.toWh 1 rfl vis__law_poly_due nm_due.1 nm_due.2)) (cw_or1 (ct_gt (ce_bi1 A.toWh fn_len call_len gl__law_poly_len T.b_len bo_len (ce_var A.toWh 1 rfl vis__law_poly_due nm_due.1 nm_due.2) (by decide) (by decide +kernel)) (ce_int))))) (css_one (cs_ret (ce_call G__law_refused A.toWh (hr.mono (by decide)) gl__law_poly__law_refused (ca_cons (ce_var A.toWh 0 rfl vis__law_poly_text nm_text.1 nm_text.2) (ca_cons (ce_bl) (ca_nil))) nm__law_refused.1))) (css_nil)) (css_cons (cs_set A 2 rfl loc__law_poly_found (ce_call G_read_poly A.toWh (hr.mono (by decide)) gl__law_poly_read_poly (ca_cons (ce_var A.toWh 0 rfl vis__law_poly_text nm_text.1 nm_text.2) (ca_nil)) nm_read_poly.1)) (css_cons (cs_if (ct_w (cw_or (ct_not (ct_val (ce_isi (T := .list) A.toWh gl__law_poly_isinstance T.b_isinstance bo_isinstance gl__law_poly_list T.b_list bo_list (ce_var A.toWh 2 rfl vis__law_poly_found nm_found.1 nm_found.2) (by decide) (by decide +kernel) (by decide) (by decide +kernel)) (fun _ => rfl))) (cw_or (ct_ne hr.units (ce_var A.toWh 2 rfl vis__law_poly_found nm_found.1 nm_found.2) (ce_var A.toWh 1 rfl vis__law_poly_due nm_due.1 nm_due.2)) (cw_or1 (ct_ne hr.units (ce_bi1 A.toWh fn_len call_len gl__law_poly_len T.b_len bo_len (ce_lcO A.toWh hc 2 rfl vis__law_poly_found nm_found.1 nm_found.2 (own := [("x", 4)]) (blkOk_by (by decide +kernel)) (by decide) (fun _ _ _ _ _ => cg_name ((Wh.blk A.toWh _ _ _ _ _).sto (i := 4) rfl (by decide +kernel))) (fun _ _ _ _ _ => cts_one (ct_val (ce_call G__law_whole (Wh.blk A.toWh _ _ _ _ _) (hr.mono (by decide)) (gl_of (by decide +kernel)) (ca_cons (ce_var (Wh.blk A.toWh _ _ _ _ _) 4 rfl (vis_of (by decide +kernel)) nm_x.1 nm_x.2) (ca_nil)) nm__law_whole.1) (fun _ => rfl))) (fun _ _ _ _ _ => ce_var (Wh.blk A.toWh _ _ _ _ _) 4 rfl (vis_of (by decide +kernel)) nm_x.1 nm_x.2)) (by decide) (by decide +kernel)) (ce_bi1 A.toWh fn_len call_len gl__law_poly_len T.b_len bo_len (ce_var A.toWh 1 rfl vis__law_poly_due nm_due.1 nm_due.2) (by decide) (by decide +kernel))))))) (css_one (cs_ret (ce_bl))) (css_nil)) (css_cons (cs_append A 2 rfl vis__law_poly_found nm_found.1 nm_found.2 (ce_int) (hline := rfl)) (css_one (cs_ret (ce_and (ce_eq hr.units (ce_call G_read_poly A.toWh (hr.mono (by decide)) gl__law_poly_read_poly (ca_cons (ce_var A.toWh 0 rfl vis__law_poly_text nm_text.1 nm_text.2) (ca_nil)) nm_read_poly.1) (ce_var A.toWh 1 rfl vis__law_poly_due nm_due.1 nm_due.2)) (ce_one (ce_eqS (ce_call G_show_poly A.toWh (hr.mono (by decide)) gl__law_poly_show_poly (ca_cons (ce_ty1 A.toWh fn_list call_list_of gl__law_poly_list T.b_list bo_list (ce_var A.toWh 1 rfl vis__law_poly_due nm_due.1 nm_due.2) (by decide) (by decide +kernel)) (ca_nil)) nm_show_poly.1) (ce_var A.toWh 0 rfl vis__law_poly_text nm_text.1 nm_text.2))))))))))))
abbrev st_law : Stmt := topS 22
theorem sc_law : FnScope N_law ["script"] (defScope st_law) := ⟨rfl, rfl, rfl, by decide +kernel, rfl, by decide +kernel, by decide +kernel⟩
theorem lcl_law_cell : (defScope st_law).names.lookup ("cell" : Str) = some .local := by decide +kernel
theorem loc_law_cell : Loc (defScope st_law) ("cell" : Str) := .inl lcl_law_cell
theorem vis_law_cell : Vis (defScope st_law) ("cell" : Str) := (.inl lcl_law_cell)
theorem lcl_law_cells : (defScope st_law).names.lookup ("cells" : Str) = some .cell := by decide +kernel
theorem loc_law_cells : Loc (defScope st_law) ("cells" : Str) := .inr lcl_law_cells
theorem vis_law_cells : Vis (defScope st_law) ("cells" : Str) := .inr (.inl lcl_law_cells)
theorem lcl_law_k : (defScope st_law).names.lookup ("k" : Str) = some .cell := by decide +kernel
theorem loc_law_k : Loc (defScope st_law) ("k" : Str) := .inr lcl_law_k
theorem vis_law_k : Vis (defScope st_law) ("k" : Str) := .inr (.inl lcl_law_k)
theorem lcl_law_many : (defScope st_law).names.lookup ("many" : Str) = some .local := by decide +kernel
theorem loc_law_many : Loc (defScope st_law) ("many" : Str) := .inl lcl_law_many
theorem vis_law_many : Vis (defScope st_law) ("many" : Str) := (.inl lcl_law_many)
theorem lcl_law_numbers : (defScope st_law).names.lookup ("numbers" : Str) = some .local := by decide +kernel
theorem loc_law_numbers : Loc (defScope st_law) ("numbers" : Str) := .inl lcl_law_numbers
theorem vis_law_numbers : Vis (defScope st_law) ("numbers" : Str) := (.inl lcl_law_numbers)
theorem lcl_law_script : (defScope st_law).names.lookup ("script" : Str) = some .local := by decide +kernel
theorem loc_law_script : Loc (defScope st_law) ("script" : Str) := .inl lcl_law_script
theorem vis_law_script : Vis (defScope st_law) ("script" : Str) := (.inl lcl_law_script)
theorem gl_law__law_changed : GlN (defScope st_law) ("_law_changed" : Str) := (by decide +kernel : (defScope st_law).names.lookup ("_law_changed" : Str) = some .globalImplicit)
theorem gl_law__law_great : GlN (defScope st_law) ("_law_great" : Str) := (by decide +kernel : (defScope st_law).names.lookup ("_law_great" : Str) = some .globalImplicit)
theorem gl_law__law_one : GlN (defScope st_law) ("_law_one" : Str) := (by decide +kernel : (defScope st_law).names.lookup ("_law_one" : Str) = some .globalImplicit)
theorem gl_law__law_poly : GlN (defScope st_law) ("_law_poly" : Str) := (by decide +kernel : (defScope st_law).names.lookup ("_law_poly" : Str) = some .globalImplicit)
theorem gl_law_len : GlN (defScope st_law) ("len" : Str) := (by decide +kernel : (defScope st_law).names.lookup ("len" : Str) = some .globalImplicit)
theorem gl_law_range : GlN (defScope st_law) ("range" : Str) := (by decide +kernel : (defScope st_law).names.lookup ("range" : Str) = some .globalImplicit)
theorem gl_law_str : GlN (defScope st_law) ("str" : Str) := (by decide +kernel : (defScope st_law).names.lookup ("str" : Str) = some .globalImplicit)
theorem der_law {X : Cx} {Z : Zp} (T : Tx X.K X.mg Z.cl) (G__law_changed : FnAt X.prog X.w X.K X.mg X.base Z.cl 3 "_law_changed" ["word", "cell"] sp__law_changed) (G__law_great : FnAt X.prog X.w X.K X.mg X.base Z.cl 2 "_law_great" ["cell"] sp__law_great) (G__law_one : FnAt X.prog X.w X.K X.mg X.base Z.cl 5 "_law_one" ["word"] sp__law_one) (G__law_poly : FnAt X.prog X.w X.K X.mg X.base Z.cl 5 "_law_poly" ["text"] sp__law_poly) (A : WhD X N_law (defScope st_law)) (hc : X.calm = true) (hr : Room 5 X.A) : CSs X Z (defBody st_law) rd_law :=
  css_cons (cs_set A 1 rfl loc_law_cells (ce_slice (ce_var A.toWh 0 rfl vis_law_script nm_script.1 nm_script.2) (co_none) (co_some (ce_int)))) (css_fz 1 (css_cons (cs_if (ct_eq hr.units (ce_bi1 A.toWh fn_len call_len gl_law_len T.b_len bo_len (ce_var A.toWh 1 rfl vis_law_cells nm_cells.1 nm_cells.2) (by decide) (by decide +kernel)) (ce_int)) (css_cons (cs_set A 1 rfl loc_law_cells (ce_lst (ca_cons (ce_int) (ca_nil)))) (css_fz 1 (css_nil))) (css_nil)) (css_cons (cs_for hc (ci_range1 A.toWh gl_law_range T.b_range (ce_bi1 A.toWh fn_len call_len gl_law_len T.b_len bo_len (ce_var A.toWh 1 rfl vis_law_cells nm_cells.1 nm_cells.2) (by decide) (by decide +kernel))) (cg_name (A.sto (i := 2) rfl loc_law_k)) (fun _ => (show CSs X _ _ rd_law_b0 from css_cons (cs_set A 3 rfl loc_law_cell (ce_ix (ce_var A.toWh 1 rfl vis_law_cells nm_cells.1 nm_cells.2) (ce_var A.toWh 2 rfl vis_law_k nm_k.1 nm_k.2) (fun _ _ => rfl))) (css_cons (cs_if (ct_not (ct_val (ce_call G__law_one A.toWh (hr.mono (by decide)) gl_law__law_one (ca_cons (ce_call G__law_changed A.toWh (hr.mono (by decide)) gl_law__law_changed (ca_cons (ce_ty1 A.toWh fn_strI call_str_int gl_law_str T.b_str bo_str (ce_call G__law_great A.toWh (hr.mono (by decide)) gl_law__law_great (ca_cons (ce_add (ce_fdiv (ce_var A.toWh 3 rfl vis_law_cell nm_cell.1 nm_cell.2) (ce_int)) (ce_var A.toWh 2 rfl vis_law_k nm_k.1 nm_k.2)) (ca_nil)) nm__law_great.1) (by decide) (by decide +kernel)) (ca_cons (ce_var A.toWh 3 rfl vis_law_cell nm_cell.1 nm_cell.2) (ca_nil))) nm__law_changed.1) (ca_nil)) nm__law_one.1) (fun _ => rfl))) (css_one (cs_ret (ce_bl))) (css_nil)) (css_cons (cs_set A 4 rfl loc_law_many (ce_add (ce_int) (ce_mod (ce_var A.toWh 3 rfl vis_law_cell nm_cell.1 nm_cell.2) (ce_int)))) (css_cons (cs_if (ct_eq hr.units (ce_mod (ce_var A.toWh 3 rfl vis_law_cell nm_cell.1 nm_cell.2) (ce_int)) (ce_int)) (css_one (cs_set A 4 rfl loc_law_many (ce_int))) (css_nil)) (css_cons (cs_setLc A hc 5 rfl lcl_law_numbers rfl (by decide +kernel) rfl (ci_range1 A.toWh gl_law_range T.b_range (ce_var A.toWh 4 rfl vis_law_many nm_many.1 nm_many.2)) (own := [("j", 6)]) (blkOk_by (by decide +kernel)) (by decide) (fun _ _ _ _ _ => cg_name ((Wh.blk A.toWh _ _ _ _ _).sto (i := 6) rfl (by decide +kernel))) (fun _ _ _ _ _ => cts_nil) (fun _ _ _ _ _ => ce_call G__law_great (Wh.blk A.toWh _ _ _ _ _) (hr.mono (by decide)) (gl_of (by decide +kernel)) (ca_cons (ce_add (ce_fdiv (ce_ix (ce_var (Wh.blk A.toWh _ _ _ _ _) 1 rfl (vis_of (by decide +kernel)) nm_cells.1 nm_cells.2) (ce_mod (ce_add (ce_var (Wh.blk A.toWh _ _ _ _ _) 2 rfl (vis_of (by decide +kernel)) nm_k.1 nm_k.2) (ce_var (Wh.blk A.toWh _ _ _ _ _) 6 rfl (vis_of (by decide +kernel)) nm_j.1 nm_j.2)) (ce_bi1 (Wh.blk A.toWh _ _ _ _ _) fn_len call_len (gl_of (by decide +kernel)) T.b_len bo_len (ce_var (Wh.blk A.toWh _ _ _ _ _) 1 rfl (vis_of (by decide +kernel)) nm_cells.1 nm_cells.2) (by decide) (by decide +kernel))) (fun _ _ => rfl)) (ce_int)) (ce_mul (ce_var (Wh.blk A.toWh _ _ _ _ _) 6 rfl (vis_of (by decide +kernel)) nm_j.1 nm_j.2) (ce_var (Wh.blk A.toWh _ _ _ _ _) 6 rfl (vis_of (by decide +kernel)) nm_j.1 nm_j.2))) (ca_nil)) nm__law_great.1)) (css_fz 5 (css_one (cs_if (ct_not (ct_val (ce_call G__law_poly A.toWh (hr.mono (by decide)) gl_law__law_poly (ca_cons (ce_call G__law_changed A.toWh (hr.mono (by decide)) gl_law__law_changed (ca_cons (ce_m1 F.slot_str_join F.type_str_join mt_join fn_join (ce_str) (ce_lc A.toWh hc (ci_val (ce_var A.toWh 5 rfl vis_law_numbers nm_numbers.1 nm_numbers.2)) (own := [("number", 7)]) (blkOk_by (by decide +kernel)) (by decide) (fun _ _ _ _ _ => cg_name ((Wh.blk A.toWh _ _ _ _ _).sto (i := 7) rfl (by decide +kernel))) (fun _ _ _ _ _ => cts_nil) (fun _ _ _ _ _ => ce_ty1 (Wh.blk A.toWh _ _ _ _ _) fn_strI call_str_int (gl_of (by decide +kernel)) T.b_str bo_str (ce_var (Wh.blk A.toWh _ _ _ _ _) 7 rfl (vis_of (by decide +kernel)) nm_number.1 nm_number.2) (by decide) (by decide +kernel))) (hline := rfl)) (ca_cons (ce_add (ce_fdiv (ce_var A.toWh 3 rfl vis_law_cell nm_cell.1 nm_cell.2) (ce_int)) (ce_var A.toWh 2 rfl vis_law_k nm_k.1 nm_k.2)) (ca_nil))) nm__law_changed.1) (ca_nil)) nm__law_poly.1) (fun _ => rfl))) (css_one (cs_ret (ce_bl))) (css_nil))))))))))) (css_one (cs_ret (ce_bl))))))
section
variable {P : Program} {w : World} {K : PySem.W.Frag} {mg : Str → Option Value} {base : Heap} {cl : Xn → Addr} {h : Heap}
theorem at__law_odd (X : K.In h) (G : h.Ns mainGlobals mg) (T : Tx K mg cl) (F : FunK K "_law_odd" st__law_odd)  : FnAt P w K mg base cl 2 "_law_odd" ["cell"] sp__law_odd :=
  fn_at X G F sc__law_odd len__law_odd (fun _ _ _ _ _ _ us hl => match us, hl with | [_], _ => rfl) (by rintro X Z rfl ⟨A, hc, hr, rfl, rfl, rfl, rfl, rfl⟩; exact der__law_odd T  A hc hr) pure__law_odd
theorem at__law_sign (X : K.In h) (G : h.Ns mainGlobals mg) (T : Tx K mg cl) (F : FunK K "_law_sign" st__law_sign)  : FnAt P w K mg base cl 2 "_law_sign" ["cell"] sp__law_sign :=
  fn_at X G F sc__law_sign len__law_sign (fun _ _ _ _ _ _ us hl => match us, hl with | [_], _ => rfl) (by rintro X Z rfl ⟨A, hc, hr, rfl, rfl, rfl, rfl, rfl⟩; exact der__law_sign T  A hc hr) pure__law_sign
theorem at__law_changed (X : K.In h) (G : h.Ns mainGlobals mg) (T : Tx K mg cl) (F : FunK K "_law_changed" st__law_changed) (G__law_odd : FnAt P w K mg base cl 2 "_law_odd" ["cell"] sp__law_odd) (G__law_sign : FnAt P w K mg base cl 2 "_law_sign" ["cell"] sp__law_sign) : FnAt P w K mg base cl 3 "_law_changed" ["word", "cell"] sp__law_changed :=
  fn_at X G F sc__law_changed len__law_changed (fun _ _ _ _ _ _ us hl => match us, hl with | [_, _], _ => rfl) (by rintro X Z rfl ⟨A, hc, hr, rfl, rfl, rfl, rfl, rfl⟩; exact der__law_changed T G__law_odd G__law_sign A hc hr) pure__law_changed
theorem at__law_great (X : K.In h) (G : h.Ns mainGlobals mg) (T : Tx K mg cl) (F : FunK K "_law_great" st__law_great)  : FnAt P w K mg base cl 2 "_law_great" ["cell"] sp__law_great :=
  fn_at X G F sc__law_great len__law_great (fun _ _ _ _ _ _ us hl => match us, hl with | [_], _ => rfl) (by rintro X Z rfl ⟨A, hc, hr, rfl, rfl, rfl, rfl, rfl⟩; exact der__law_great T  A hc hr) pure__law_great
theorem at__law_number (X : K.In h) (G : h.Ns mainGlobals mg) (T : Tx K mg cl) (F : FunK K "_law_number" st__law_number)  : FnAt P w K mg base cl 2 "_law_number" ["word"] sp__law_number :=
  fn_at X G F sc__law_number len__law_number (fun _ _ _ _ _ _ us hl => match us, hl with | [_], _ => rfl) (by rintro X Z rfl ⟨A, hc, hr, rfl, rfl, rfl, rfl, rfl⟩; exact der__law_number T  A hc hr) pure__law_number
theorem at_read_number (X : K.In h) (G : h.Ns mainGlobals mg) (T : Tx K mg cl) (F : FunK K "read_number" st_read_number)  : FnAt P w K mg base cl 2 "read_number" ["text"] sp_read_number :=
  fn_at X G F sc_read_number len_read_number (fun _ _ _ _ _ _ us hl => match us, hl with | [_], _ => rfl) (by rintro X Z rfl ⟨A, hc, hr, rfl, rfl, rfl, rfl, rfl⟩; exact der_read_number T  A hc hr) pure_read_number
theorem at_read_poly (X : K.In h) (G : h.Ns mainGlobals mg) (T : Tx K mg cl) (F : FunK K "read_poly" st_read_poly) (G_read_number : FnAt P w K mg base cl 2 "read_number" ["text"] sp_read_number) : FnAt P w K mg base cl 3 "read_poly" ["text"] sp_read_poly :=
  fn_at X G F sc_read_poly len_read_poly (fun _ _ _ _ _ _ us hl => match us, hl with | [_], _ => rfl) (by rintro X Z rfl ⟨A, hc, hr, rfl, rfl, rfl, rfl, rfl⟩; exact der_read_poly T G_read_number A hc hr) pure_read_poly
theorem at__law_refused (X : K.In h) (G : h.Ns mainGlobals mg) (T : Tx K mg cl) (F : FunK K "_law_refused" st__law_refused) (G_read_number : FnAt P w K mg base cl 2 "read_number" ["text"] sp_read_number) (G_read_poly : FnAt P w K mg base cl 3 "read_poly" ["text"] sp_read_poly) : FnAt P w K mg base cl 4 "_law_refused" ["thing", "poly"] sp__law_refused :=
  fn_at X G F sc__law_refused len__law_refused (fun _ _ _ _ _ _ us hl => match us, hl with | [_, _], _ => rfl) (by rintro X Z rfl ⟨A, hc, hr, rfl, rfl, rfl, rfl, rfl⟩; exact der__law_refused T G_read_number G_read_poly A hc hr) pure__law_refused
theorem at__law_whole (X : K.In h) (G : h.Ns mainGlobals mg) (T : Tx K mg cl) (F : FunK K "_law_whole" st__law_whole)  : FnAt P w K mg base cl 2 "_law_whole" ["thing"] sp__law_whole :=
  fn_at X G F sc__law_whole len__law_whole (fun _ _ _ _ _ _ us hl => match us, hl with | [_], _ => rfl) (by rintro X Z rfl ⟨A, hc, hr, rfl, rfl, rfl, rfl, rfl⟩; exact der__law_whole T  A hc hr) pure__law_whole
theorem at_show_poly (X : K.In h) (G : h.Ns mainGlobals mg) (T : Tx K mg cl) (F : FunK K "show_poly" st_show_poly)  : FnAt P w K mg base cl 2 "show_poly" ["f"] sp_show_poly :=
  fn_at X G F sc_show_poly len_show_poly (fun _ _ _ _ _ _ us hl => match us, hl with | [_], _ => rfl) (by rintro X Z rfl ⟨A, hc, hr, rfl, rfl, rfl, rfl, rfl⟩; exact der_show_poly T  A hc hr) pure_show_poly
theorem at__law_one (X : K.In h) (G : h.Ns mainGlobals mg) (T : Tx K mg cl) (F : FunK K "_law_one" st__law_one) (G__law_number : FnAt P w K mg base cl 2 "_law_number" ["word"] sp__law_number) (G__law_refused : FnAt P w K mg base cl 4 "_law_refused" ["thing", "poly"] sp__law_refused) (G__law_whole : FnAt P w K mg base cl 2 "_law_whole" ["thing"] sp__law_whole) (G_read_number : FnAt P w K mg base cl 2 "read_number" ["text"] sp_read_number) (G_show_poly : FnAt P w K mg base cl 2 "show_poly" ["f"] sp_show_poly) : FnAt P w K mg base cl 5 "_law_one" ["word"] sp__law_one :=
  fn_at X G F sc__law_one len__law_one (fun _ _ _ _ _ _ us hl => match us, hl with | [_], _ => rfl) (by rintro X Z rfl ⟨A, hc, hr, rfl, rfl, rfl, rfl, rfl⟩; exact der__law_one T G__law_number G__law_refused G__law_whole G_read_number G_show_poly A hc hr) pure__law_one
theorem at__law_poly (X : K.In h) (G : h.Ns mainGlobals mg) (T : Tx K mg cl) (F : FunK K "_law_poly" st__law_poly) (G__law_number : FnAt P w K mg base cl 2 "_law_number" ["word"] sp__law_number) (G__law_refused : FnAt P w K mg base cl 4 "_law_refused" ["thing", "poly"] sp__law_refused) (G__law_whole : FnAt P w K mg base cl 2 "_law_whole" ["thing"] sp__law_whole) (G_read_poly : FnAt P w K mg base cl 3 "read_poly" ["text"] sp_read_poly) (G_show_poly : FnAt P w K mg base cl 2 "show_poly" ["f"] sp_show_poly) : FnAt P w K mg base cl 5 "_law_poly" ["text"] sp__law_poly :=
  fn_at X G F sc__law_poly len__law_poly (fun _ _ _ _ _ _ us hl => match us, hl with | [_], _ => rfl) (by rintro X Z rfl ⟨A, hc, hr, rfl, rfl, rfl, rfl, rfl⟩; exact der__law_poly T G__law_number G__law_refused G__law_whole G_read_poly G_show_poly A hc hr) pure__law_poly
end
theorem all_mk {P : Program} {w : World} {K : PySem.W.Frag} {h : Heap} {mg : Str → Option Value} {fa : Addr} (X : K.In h) (G : h.Ns mainGlobals mg) (hfa : mg "law" = some (.ref fa)) (F__law_odd : FunK K "_law_odd" st__law_odd) (F__law_sign : FunK K "_law_sign" st__law_sign) (F__law_changed : FunK K "_law_changed" st__law_changed) (F__law_great : FunK K "_law_great" st__law_great) (F__law_number : FunK K "_law_number" st__law_number) (F_read_number : FunK K "read_number" st_read_number) (F_read_poly : FunK K "read_poly" st_read_poly) (F__law_refused : FunK K "_law_refused" st__law_refused) (F__law_whole : FunK K "_law_whole" st__law_whole) (F_show_poly : FunK K "show_poly" st_show_poly) (F__law_one : FunK K "_law_one" st__law_one) (F__law_poly : FunK K "_law_poly" st__law_poly) (F_law : FunK K "law" st_law) (b_ValueError : PySem.W.nsIn K mainGlobals "ValueError" = some none) (b_bool : PySem.W.nsIn K mainGlobals "bool" = some none) (b_int : PySem.W.nsIn K mainGlobals "int" = some none) (b_isinstance : PySem.W.nsIn K mainGlobals "isinstance" = some none) (b_len : PySem.W.nsIn K mainGlobals "len" = some none) (b_list : PySem.W.nsIn K mainGlobals "list" = some none) (b_range : PySem.W.nsIn K mainGlobals "range" = some none) (b_str : PySem.W.nsIn K mainGlobals "str" = some none) (i_MOST_FIGURES : ∃ t, PySem.W.nsIn K mainGlobals "MOST_FIGURES" = some (some (.int 60 t))) (i_MOST_NUMBERS : ∃ t, PySem.W.nsIn K mainGlobals "MOST_NUMBERS" = some (some (.int 13 t))) (x_NoText : ExcFK K "NoText") (t_NoName : ExcTK K "NoName") (t_NoRow : ExcTK K "NoRow") (t_NoText : ExcTK K "NoText") (t_RestError : ExcTK K "RestError") (t_TooDeep : ExcTK K "TooDeep") (s_NoText_NoName : SubK K "NoText" "NoName" false) (s_NoText_NoRow : SubK K "NoText" "NoRow" false) (s_NoText_NoText : SubK K "NoText" "NoText" true) (s_NoText_RestError : SubK K "NoText" "RestError" true) (s_NoText_TooDeep : SubK K "NoText" "TooDeep" false) (c_NoText : ExcCK K "NoText") (v_NoText : SubVK K "NoText") :
    ∃ fd : FuncData, (∀ (s : Shared) (u : Value), BindsTo s fd ⟨[u], []⟩ [("script", u)]) ∧ ∀ base : Heap, K.In base → base.Ns mainGlobals mg → FnOk P w K mg base (L2.CX P w) 6 fa fd ["script"] (spL K) := by
  obtain ⟨f, oc, od, an, sl, kV, dc, pm, cd, ct, a, l, c, kp⟩ := id F_law
  have e := hfa.symm.trans (PySem.W.mg_of X G a)
  cases e
  refine ⟨PySem.W.fnOf "law" "law" (defArgs st_law) (defBody st_law) (defScope st_law) .none kV dc pm an cd ct, fun s v => .of_eq rfl, fun base hb hg => ?_⟩
  have T : Tx K mg (clOf mg) := ⟨PySem.W.mg_none_of X G b_ValueError, PySem.W.mg_none_of X G b_bool, PySem.W.mg_none_of X G b_int, PySem.W.mg_none_of X G b_isinstance, PySem.W.mg_none_of X G b_len, PySem.W.mg_none_of X G b_list, PySem.W.mg_none_of X G b_range, PySem.W.mg_none_of X G b_str, (let ⟨t, e⟩ := i_MOST_FIGURES; ⟨t, PySem.W.mg_of X G e⟩), (let ⟨t, e⟩ := i_MOST_NUMBERS; ⟨t, PySem.W.mg_of X G e⟩), excF_mk X G .NoText x_NoText, excT_mk X G .NoName t_NoName, excT_mk X G .NoRow t_NoRow, excT_mk X G .NoText t_NoText, excT_mk X G .RestError t_RestError, excT_mk X G .TooDeep t_TooDeep, subX_mk X G .NoText .NoName s_NoText_NoName, subX_mk X G .NoText .NoRow s_NoText_NoRow, subX_mk X G .NoText .NoText s_NoText_NoText, subX_mk X G .NoText .RestError s_NoText_RestError, subX_mk X G .NoText .TooDeep s_NoText_TooDeep, excC_mk X G .NoText c_NoText, subV_mk X G .NoText v_NoText⟩
  have G__law_odd := at__law_odd (P := P) (w := w) (base := base) X G T F__law_odd 
  have G__law_sign := at__law_sign (P := P) (w := w) (base := base) X G T F__law_sign 
  have G__law_changed := at__law_changed (P := P) (w := w) (base := base) X G T F__law_changed G__law_odd G__law_sign
  have G__law_great := at__law_great (P := P) (w := w) (base := base) X G T F__law_great 
  have G__law_number := at__law_number (P := P) (w := w) (base := base) X G T F__law_number 
  have G_read_number := at_read_number (P := P) (w := w) (base := base) X G T F_read_number 
  have G_read_poly := at_read_poly (P := P) (w := w) (base := base) X G T F_read_poly G_read_number
  have G__law_refused := at__law_refused (P := P) (w := w) (base := base) X G T F__law_refused G_read_number G_read_poly
  have G__law_whole := at__law_whole (P := P) (w := w) (base := base) X G T F__law_whole 
  have G_show_poly := at_show_poly (P := P) (w := w) (base := base) X G T F_show_poly 
  have G__law_one := at__law_one (P := P) (w := w) (base := base) X G T F__law_one G__law_number G__law_refused G__law_whole G_read_number G_show_poly
  have G__law_poly := at__law_poly (P := P) (w := w) (base := base) X G T F__law_poly G__law_number G__law_refused G__law_whole G_read_poly G_show_poly
  exact law_ok (cl := clOf mg) (fun_mk (st := st_law) l c kp) sc_law (by rintro X ⟨F0, H0, cl⟩ rfl ⟨A, hc, hr, rfl, rfl, rfl, rfl, rfl⟩; exact der_law T G__law_changed G__law_great G__law_one G__law_poly A hc hr) pure_law
end Pz
open PySem PySem.W PyProof.Rows
set_option maxHeartbeats 0 in
theorem PySem.Challenge.cw_deeprests_k81_polynomials_read_holds : PySem.Challenge.rw_deeprests_k81_polynomials_read.Holds := by
  w_on; o_law; k_head; (case hw => w_witness2)
  k_fill
  refine L2.walk_ofB (l := PySem.Challenge.rw_deeprests_k81_polynomials_read) (n := 63) (k := 6) (x := "script") (CX := fun w => L2.CX PySem.Challenge.rw_deeprests_k81_polynomials_read.prog w) (sp := fun w => Pz.spL _) rfl (by decide) rfl ⟨rfl, by decide, by decide⟩ (fun w h Y => PySem.W.kIn_of Y) ?F (fun _ _ a ns hl hb _ hS => ⟨a, ns, rfl, hS, hl, hb, fun _ => rfl⟩) (fun _ _ _ _ _ h => Pz.cx_no h)
  case F =>
    intro w mg fa h KX G hmg
    refine' Pz.all_mk KX G hmg ?F__law_odd ?F__law_sign ?F__law_changed ?F__law_great ?F__law_number ?F_read_number ?F_read_poly ?F__law_refused ?F__law_whole ?F_show_poly ?F__law_one ?F__law_poly ?F_law ?b_ValueError ?b_bool ?b_int ?b_isinstance ?b_len ?b_list ?b_range ?b_str ?i_MOST_FIGURES ?i_MOST_NUMBERS ?x_NoText ?t_NoName ?t_NoRow ?t_NoText ?t_RestError ?t_TooDeep ?s_NoText_NoName ?s_NoText_NoRow ?s_NoText_NoText ?s_NoText_RestError ?s_NoText_TooDeep ?c_NoText ?v_NoText
    all_goals clear hmg
    (case F__law_odd => (refine' Pz.funk_mk ?a0 ?l0 ?c0 ?k0; (case a0 => k_is); (case l0 => k_is); (case c0 => k_is); (case k0 => k_is)))
    (case F__law_sign => (refine' Pz.funk_mk ?a1 ?l1 ?c1 ?k1; (case a1 => k_is); (case l1 => k_is); (case c1 => k_is); (case k1 => k_is)))
    (case F__law_changed => (refine' Pz.funk_mk ?a2 ?l2 ?c2 ?k2; (case a2 => k_is); (case l2 => k_is); (case c2 => k_is); (case k2 => k_is)))
    (case F__law_great => (refine' Pz.funk_mk ?a3 ?l3 ?c3 ?k3; (case a3 => k_is); (case l3 => k_is); (case c3 => k_is); (case k3 => k_is)))
    (case F__law_number => (refine' Pz.funk_mk ?a4 ?l4 ?c4 ?k4; (case a4 => k_is); (case l4 => k_is); (case c4 => k_is); (case k4 => k_is)))
    (case F_read_number => (refine' Pz.funk_mk ?a5 ?l5 ?c5 ?k5; (case a5 => k_is); (case l5 => k_is); (case c5 => k_is); (case k5 => k_is)))
    (case F_read_poly => (refine' Pz.funk_mk ?a6 ?l6 ?c6 ?k6; (case a6 => k_is); (case l6 => k_is); (case c6 => k_is); (case k6 => k_is)))
    (case F__law_refused => (refine' Pz.funk_mk ?a7 ?l7 ?c7 ?k7; (case a7 => k_is); (case l7 => k_is); (case c7 => k_is); (case k7 => k_is)))
    (case F__law_whole => (refine' Pz.funk_mk ?a8 ?l8 ?c8 ?k8; (case a8 => k_is); (case l8 => k_is); (case c8 => k_is); (case k8 => k_is)))
    (case F_show_poly => (refine' Pz.funk_mk ?a9 ?l9 ?c9 ?k9; (case a9 => k_is); (case l9 => k_is); (case c9 => k_is); (case k9 => k_is)))
    (case F__law_one => (refine' Pz.funk_mk ?a10 ?l10 ?c10 ?k10; (case a10 => k_is); (case l10 => k_is); (case c10 => k_is); (case k10 => k_is)))
    (case F__law_poly => (refine' Pz.funk_mk ?a11 ?l11 ?c11 ?k11; (case a11 => k_is); (case l11 => k_is); (case c11 => k_is); (case k11 => k_is)))
    (case F_law => (refine' Pz.funk_mk ?a12 ?l12 ?c12 ?k12; (case a12 => k_is); (case l12 => k_is); (case c12 => k_is); (case k12 => k_is)))
    (case b_ValueError => k_is)
    (case b_bool => k_is)
    (case b_int => k_is)
    (case b_isinstance => k_is)
    (case b_len => k_is)
    (case b_list => k_is)
    (case b_range => k_is)
    (case b_str => k_is)
    (case i_MOST_FIGURES => (refine' Pz.const_mk ?q8; (case q8 => k_is)))
    (case i_MOST_NUMBERS => (refine' Pz.const_mk ?q9; (case q9 => k_is)))
    (case x_NoText => (refine' Pz.excfk_mk ?q10 ?kk10 ?x10 ?b10 ?t10; (case q10 => k_is); (case kk10 => k_is); (case x10 => k_exc); (case b10 => k_is); (case t10 => k_is)))
    (case t_NoName => (refine' Pz.exctk_mk ?q11 ?b11 ?t11 ?i11; (case q11 => k_is); (case b11 => k_is); (case t11 => k_is); (case i11 => k_is)))
    (case t_NoRow => (refine' Pz.exctk_mk ?q12 ?b12 ?t12 ?i12; (case q12 => k_is); (case b12 => k_is); (case t12 => k_is); (case i12 => k_is)))
    (case t_NoText => (refine' Pz.exctk_mk ?q13 ?b13 ?t13 ?i13; (case q13 => k_is); (case b13 => k_is); (case t13 => k_is); (case i13 => k_is)))
    (case t_RestError => (refine' Pz.exctk_mk ?q14 ?b14 ?t14 ?i14; (case q14 => k_is); (case b14 => k_is); (case t14 => k_is); (case i14 => k_is)))
    (case t_TooDeep => (refine' Pz.exctk_mk ?q15 ?b15 ?t15 ?i15; (case q15 => k_is); (case b15 => k_is); (case t15 => k_is); (case i15 => k_is)))
    (case s_NoText_NoName => (refine' Pz.subk_mk ?q16 ?r16 ?s16; (case q16 => k_is); (case r16 => k_is); (case s16 => first | rfl | k_is)))
    (case s_NoText_NoRow => (refine' Pz.subk_mk ?q17 ?r17 ?s17; (case q17 => k_is); (case r17 => k_is); (case s17 => first | rfl | k_is)))
    (case s_NoText_NoText => (refine' Pz.subk_mk ?q18 ?r18 ?s18; (case q18 => k_is); (case r18 => k_is); (case s18 => first | rfl | k_is)))
    (case s_NoText_RestError => (refine' Pz.subk_mk ?q19 ?r19 ?s19; (case q19 => k_is); (case r19 => k_is); (case s19 => first | rfl | k_is)))
    (case s_NoText_TooDeep => (refine' Pz.subk_mk ?q20 ?r20 ?s20; (case q20 => k_is); (case r20 => k_is); (case s20 => first | rfl | k_is)))
    (case c_NoText => (refine' Pz.excck_mk ?q21 ?a21x ?b21x ?c21x ?d21x ?e21x ?f21x ?g21x ?h21x; (case q21 => k_is); (case a21x => k_is); (case b21x => k_is); (case c21x => k_is); (case d21x => k_is); (case e21x => k_is); (case f21x => k_is); (case g21x => k_is); (case h21x => k_is)))
    (case v_NoText => (refine' Pz.subvk_mk ?q22 ?s22; (case q22 => k_is); (case s22 => k_is)))
